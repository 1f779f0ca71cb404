/- Own work: part 43 of the proof of FnExactIsBounded. -/
import Derived.Test.YtncobgjmochecabEngAP
set_option linter.unusedSimpArgs false
set_option linter.unusedVariables false
namespace Go.Eng.T
def slaws_szDialed_r0 : Reg :=
  { id := 0, ops := [{ op := .box 0 (.slot 0) },
      { op := .mv (.con (.sc (.int .i64 0))) }], sets := [(2, 0)], clr := [0, 3] }
def slaws_szDialed_r1 : Reg :=
  { id := 1, ops := [{ op := .fieldAddr (.slot 2) 0 },
      { op := .load (some 3) (.loc 0) },
      { op := .mv (.slot 1) },
      { op := .call 140 [(false, .loc 1), (false, .loc 2)] [] },
      { op := .mv (.loc 3) }], sets := [(1, 4)] }
def slaws_szDialed_r2 : Reg :=
  { id := 2, ops := [{ op := .mv (.slot 1) },
      { op := .bin .lss (.loc 0) (.con (.sc (.int .i64 0))) }], sets := [(4, 1)] }
def slaws_szDialed_r3 : Reg :=
  { id := 3, ops := [{ op := .mv (.con (.sc (.int .i64 (-1)))) }], sets := [(3, 0)], clr := [1, 2] }
def slaws_szDialed_r4 : Reg :=
  { id := 4, ops := [{ op := .fieldAddr (.slot 2) 4 },
      { op := .load none (.loc 0) },
      { op := .mv (.slot 1) },
      { op := .call 16 [(false, .loc 1), (false, .loc 2)] [] },
      { op := .mv (.loc 3) }], sets := [(1, 4)], clr := [2] }
def slaws_szDialed_r5 : Reg :=
  { id := 5, ops := [{ op := .mv (.slot 1) },
      { op := .bin .lss (.loc 0) (.con (.sc (.int .i64 0))) }], sets := [(5, 1)] }
def slaws_szDialed_r6 : Reg :=
  { id := 6, ops := [{ op := .mv (.con (.sc (.int .i64 (-1)))) }], sets := [(3, 0)], clr := [1] }
def slaws_szDialed_r7 : Reg :=
  { id := 7, ops := [{ op := .mv (.slot 1) },
      { op := .mv (.loc 0) }], sets := [(3, 1)], clr := [1] }
def slaws_szDialed_b : SC := .seq (.reg slaws_szDialed_r0) (.seq (.reg slaws_szDialed_r1) (.seq (.seq (.reg slaws_szDialed_r2) (.cond 4 (.seq (.reg slaws_szDialed_r3) (.ret)) (.skip))) (.seq (.reg slaws_szDialed_r4) (.seq (.seq (.reg slaws_szDialed_r5) (.cond 5 (.seq (.reg slaws_szDialed_r6) (.ret)) (.skip))) (.seq (.reg slaws_szDialed_r7) (.ret))))))
def slaws_szDialed : SFn := { nslots := 6, nobjs := 1, params := [0, 1], ngiven := 0, bor := false, takes := [], body := slaws_szDialed_b, results := [.slot 3] }
def slaws_szDialed_t : List Tmp := [0, 1, 2, 4, 10, 16]
attribute [simp] slaws_szDialed_r0 slaws_szDialed_r1 slaws_szDialed_r2 slaws_szDialed_r3 slaws_szDialed_r4 slaws_szDialed_r5 slaws_szDialed_r6 slaws_szDialed_r7 slaws_szDialed_b slaws_szDialed
def sspec_IsBadDial_r0 : Reg :=
  { id := 0, ops := [{ op := .box 0 (.slot 0) },
      { op := .mv (.con (.sc (.bool false))) }], sets := [(2, 0)], clr := [0, 3] }
def sspec_IsBadDial_r1 : Reg :=
  { id := 1, ops := [{ op := .load (some 5) (.slot 2) },
      { op := .buildSlice 1 5 1 [.loc 0] },
      { op := .mv (.slot 1) },
      { op := .call 155 [(false, .loc 1), (false, .loc 2)] [] },
      { op := .mv (.loc 3) },
      { op := .extract (.loc 4) 0 },
      { op := .extract (.loc 4) 1 },
      { op := .mv (.loc 5) },
      { op := .mv (.loc 6) }], sets := [(4, 8)], clr := [1, 2] }
def sspec_IsBadDial_r2 : Reg :=
  { id := 2, ops := [{ op := .mv (.slot 4) },
      { op := .bin .gtr (.loc 0) (.con (.sc (.int .i64 0))) },
      { op := .mv (.loc 1) }], sets := [(3, 2)], clr := [4] }
def sspec_IsBadDial_b : SC := .seq (.reg sspec_IsBadDial_r0) (.seq (.reg sspec_IsBadDial_r1) (.seq (.reg sspec_IsBadDial_r2) (.ret)))
def sspec_IsBadDial : SFn := { nslots := 5, nobjs := 2, params := [0, 1], ngiven := 0, bor := false, takes := [], body := sspec_IsBadDial_b, results := [.slot 3] }
def sspec_IsBadDial_t : List Tmp := [0, 1, 2, 4, 6]
attribute [simp] sspec_IsBadDial_r0 sspec_IsBadDial_r1 sspec_IsBadDial_r2 sspec_IsBadDial_b sspec_IsBadDial
def slaws_toDialed_r0 : Reg :=
  { id := 0, ops := [{ op := .box 0 (.slot 0) },
      { op := .alloc 1 [.sc (.bool false), .sc (.int .i64 0), .nil 1, .sc (.int .i64 0), .nil 1] }], sets := [(1, 0), (2, 1)], clr := [0] }
def slaws_toDialed_r1 : Reg :=
  { id := 1, ops := [{ op := .alloc 2 [.sc (.bool false), .sc (.int .i64 0), .nil 1, .sc (.int .i64 0), .nil 1] }], sets := [(3, 0)] }
def slaws_toDialed_r2 : Reg :=
  { id := 2, ops := [{ op := .fieldAddr (.slot 1) 0 },
      { op := .load (some 3) (.loc 0) },
      { op := .call 171 [(false, .loc 1)] [3] },
      { op := .fieldAddr (.slot 3) 0 },
      { op := .store 3 (.loc 3) (.loc 2) }] }
def slaws_toDialed_r3 : Reg :=
  { id := 3, ops := [{ op := .fieldAddr (.slot 1) 3 },
      { op := .load none (.loc 0) },
      { op := .fieldAddr (.slot 3) 3 },
      { op := .store 1 (.loc 2) (.loc 1) }] }
def slaws_toDialed_r4 : Reg :=
  { id := 4, ops := [{ op := .fieldAddr (.slot 1) 4 },
      { op := .load none (.loc 0) },
      { op := .call 31 [(false, .loc 1)] [4] },
      { op := .fieldAddr (.slot 3) 4 },
      { op := .store 1 (.loc 3) (.loc 2) }], clr := [1] }
def slaws_toDialed_r5 : Reg :=
  { id := 5, ops := [{ op := .load (some 5) (.slot 3) },
      { op := .store 5 (.slot 2) (.loc 0) }], clr := [3] }
def slaws_toDialed_b : SC := .seq (.reg slaws_toDialed_r0) (.seq (.reg slaws_toDialed_r1) (.seq (.reg slaws_toDialed_r2) (.seq (.reg slaws_toDialed_r3) (.seq (.reg slaws_toDialed_r4) (.seq (.reg slaws_toDialed_r5) (.ret))))))
def slaws_toDialed : SFn := { nslots := 4, nobjs := 5, params := [0], ngiven := 0, bor := false, takes := [], body := slaws_toDialed_b, results := [.cell 2 (some 5)] }
def slaws_toDialed_t : List Tmp := [0, 1, 2, 3]
attribute [simp] slaws_toDialed_r0 slaws_toDialed_r1 slaws_toDialed_r2 slaws_toDialed_r3 slaws_toDialed_r4 slaws_toDialed_r5 slaws_toDialed_b slaws_toDialed
def simpl_IsBadDial_r0 : Reg :=
  { id := 0, ops := [{ op := .box 0 (.slot 0) },
      { op := .mv (.con (.sc (.bool false))) }], sets := [(2, 0)], clr := [0, 3] }
def simpl_IsBadDial_r1 : Reg :=
  { id := 1, ops := [{ op := .load (some 5) (.slot 2) },
      { op := .mv (.slot 1) },
      { op := .call 229 [(false, .loc 0), (false, .loc 1)] [] },
      { op := .mv (.loc 2) }], sets := [(3, 3)], clr := [1, 2] }
def simpl_IsBadDial_b : SC := .seq (.reg simpl_IsBadDial_r0) (.seq (.reg simpl_IsBadDial_r1) (.ret))
def simpl_IsBadDial : SFn := { nslots := 4, nobjs := 1, params := [0, 1], ngiven := 0, bor := false, takes := [], body := simpl_IsBadDial_b, results := [.slot 3] }
def simpl_IsBadDial_t : List Tmp := [0, 1, 2, 4]
attribute [simp] simpl_IsBadDial_r0 simpl_IsBadDial_r1 simpl_IsBadDial_b simpl_IsBadDial
def slaws_eqDialed_r0 : Reg :=
  { id := 0, ops := [{ op := .box 0 (.slot 0) },
      { op := .box 1 (.slot 1) },
      { op := .mv (.con (.sc (.bool false))) }], sets := [(2, 0), (3, 1)], clr := [0, 1, 4] }
def slaws_eqDialed_r1 : Reg :=
  { id := 1, ops := [{ op := .fieldAddr (.slot 2) 0 },
      { op := .load (some 3) (.loc 0) },
      { op := .fieldAddr (.slot 3) 0 },
      { op := .load (some 3) (.loc 2) },
      { op := .call 205 [(false, .loc 1), (false, .loc 3)] [] },
      { op := .un .not (.loc 4) }], sets := [(5, 5)] }
def slaws_eqDialed_r2 : Reg :=
  { id := 2, ops := [{ op := .mv (.con (.sc (.bool false))) }], sets := [(4, 0)], clr := [2, 3] }
def slaws_eqDialed_r3 : Reg :=
  { id := 3, ops := [{ op := .fieldAddr (.slot 2) 3 },
      { op := .load none (.loc 0) },
      { op := .fieldAddr (.slot 3) 3 },
      { op := .load none (.loc 2) },
      { op := .bin .neq (.loc 1) (.loc 3) }], sets := [(6, 4)] }
def slaws_eqDialed_r4 : Reg :=
  { id := 4, ops := [{ op := .mv (.con (.sc (.bool false))) }], sets := [(4, 0)], clr := [2, 3] }
def slaws_eqDialed_r5 : Reg :=
  { id := 5, ops := [{ op := .fieldAddr (.slot 2) 4 },
      { op := .load none (.loc 0) },
      { op := .fieldAddr (.slot 3) 4 },
      { op := .load none (.loc 2) },
      { op := .call 47 [(false, .loc 1), (false, .loc 3)] [] },
      { op := .un .not (.loc 4) }], sets := [(7, 5)], clr := [2, 3] }
def slaws_eqDialed_r6 : Reg :=
  { id := 6, ops := [{ op := .mv (.con (.sc (.bool false))) }], sets := [(4, 0)] }
def slaws_eqDialed_r7 : Reg :=
  { id := 7, ops := [{ op := .mv (.con (.sc (.bool true))) }], sets := [(4, 0)] }
def slaws_eqDialed_b : SC := .seq (.reg slaws_eqDialed_r0) (.seq (.seq (.reg slaws_eqDialed_r1) (.cond 5 (.seq (.reg slaws_eqDialed_r2) (.ret)) (.skip))) (.seq (.seq (.reg slaws_eqDialed_r3) (.cond 6 (.seq (.reg slaws_eqDialed_r4) (.ret)) (.skip))) (.seq (.seq (.reg slaws_eqDialed_r5) (.cond 7 (.seq (.reg slaws_eqDialed_r6) (.ret)) (.skip))) (.seq (.reg slaws_eqDialed_r7) (.ret)))))
def slaws_eqDialed : SFn := { nslots := 8, nobjs := 2, params := [0, 1], ngiven := 0, bor := false, takes := [], body := slaws_eqDialed_b, results := [.slot 4] }
def slaws_eqDialed_t : List Tmp := [0, 1, 2, 3, 4, 10, 15, 21]
attribute [simp] slaws_eqDialed_r0 slaws_eqDialed_r1 slaws_eqDialed_r2 slaws_eqDialed_r3 slaws_eqDialed_r4 slaws_eqDialed_r5 slaws_eqDialed_r6 slaws_eqDialed_r7 slaws_eqDialed_b slaws_eqDialed
def slaws_eqEndpointS_r0 : Reg :=
  { id := 0, ops := [{ op := .mv (.con (.sc (.bool false))) }], clr := [2] }
def slaws_eqEndpointS_r1 : Reg :=
  { id := 1, ops := [{ op := .mv (.slot 0) },
      { op := .len false (.loc 0) },
      { op := .mv (.slot 1) },
      { op := .len false (.loc 2) },
      { op := .bin .neq (.loc 1) (.loc 3) }], sets := [(4, 4)] }
def slaws_eqEndpointS_r2 : Reg :=
  { id := 2, ops := [{ op := .mv (.con (.sc (.bool false))) }], sets := [(2, 0)], clr := [0, 1] }
def slaws_eqEndpointS_r3 : Reg :=
  { id := 3, ops := [{ op := .mv (.con (.sc (.int .i64 0))) }], sets := [(3, 0)] }
def slaws_eqEndpointS_r4 : Reg :=
  { id := 4, ops := [{ op := .mv (.slot 3) },
      { op := .mv (.slot 0) },
      { op := .len false (.loc 1) },
      { op := .bin .lss (.loc 0) (.loc 2) }], sets := [(5, 3)] }
def slaws_eqEndpointS_r5 : Reg :=
  { id := 6, draw := true, ops := [{ op := .mv (.slot 0), tau := some [], om := [] },
      { op := .mv (.slot 3), tau := some [], om := [] },
      { op := .indexAddr 4 (.loc 0) (.loc 1), tau := some [], om := [] },
      { op := .load (some 4) (.loc 2), tau := some [], om := [] },
      { op := .mv (.slot 1), tau := some [], om := [] },
      { op := .mv (.slot 3), tau := some [], om := [] },
      { op := .indexAddr 4 (.loc 4) (.loc 5), tau := some [], om := [] },
      { op := .load (some 4) (.loc 6), tau := some [], om := [] },
      { op := .call 134 [(false, .loc 3), (false, .loc 7)] [], tau := some [], om := [] },
      { op := .un .not (.loc 8), tau := some [], om := [] }], sets := [(6, 9)] }
def slaws_eqEndpointS_r6 : Reg :=
  { id := 7, ops := [{ op := .mv (.con (.sc (.bool false))) }], sets := [(2, 0)], clr := [0, 1, 3] }
def slaws_eqEndpointS_r7 : Reg :=
  { id := 5, ops := [{ op := .mv (.slot 3) },
      { op := .bin .add (.loc 0) (.con (.sc (.int .i64 1))) },
      { op := .mv (.loc 1) }], sets := [(3, 2)] }
def slaws_eqEndpointS_r8 : Reg :=
  { id := 8, ops := [{ op := .mv (.con (.sc (.bool true))) }], sets := [(2, 0)], clr := [0, 1, 3] }
def slaws_eqEndpointS_b : SC := .seq (.reg slaws_eqEndpointS_r0) (.seq (.seq (.reg slaws_eqEndpointS_r1) (.cond 4 (.seq (.reg slaws_eqEndpointS_r2) (.ret)) (.skip))) (.seq (.seq (.reg slaws_eqEndpointS_r3) (.block 0 (.loop (.seq (.seq (.reg slaws_eqEndpointS_r4) (.cond 5 (.skip) (.exit 0))) (.seq (.block 1 (.seq (.reg slaws_eqEndpointS_r5) (.cond 6 (.seq (.reg slaws_eqEndpointS_r6) (.ret)) (.skip)))) (.reg slaws_eqEndpointS_r7)))))) (.seq (.reg slaws_eqEndpointS_r8) (.ret))))
def slaws_eqEndpointS : SFn := { nslots := 7, nobjs := 0, params := [0, 1], ngiven := 0, bor := false, takes := [], body := slaws_eqEndpointS_b, results := [.slot 2] }
def slaws_eqEndpointS_t : List Tmp := [0, 1, 4, 5, 10, 14, 26]
attribute [simp] slaws_eqEndpointS_r0 slaws_eqEndpointS_r1 slaws_eqEndpointS_r2 slaws_eqEndpointS_r3 slaws_eqEndpointS_r4 slaws_eqEndpointS_r5 slaws_eqEndpointS_r6 slaws_eqEndpointS_r7 slaws_eqEndpointS_r8 slaws_eqEndpointS_b slaws_eqEndpointS
def sspec_l1In_r0 : Reg :=
  { id := 0, ops := [{ op := .mv (.con (.sc (.bool false))) }], clr := [3] }
def sspec_l1In_r1 : Reg :=
  { id := 1, ops := [{ op := .mv (.slot 0) },
      { op := .mv (.slot 1) },
      { op := .bin .geq (.loc 0) (.loc 1) },
      { op := .mv (.loc 2) },
      { op := .mv (.slot 0), guard := some (3, true) },
      { op := .mv (.slot 2), guard := some (3, true) },
      { op := .bin .leq (.loc 4) (.loc 5), guard := some (3, true) },
      { op := .pick (.loc 3) (.loc 6) (.con (.sc (.bool false))) },
      { op := .mv (.loc 7) }], sets := [(3, 8)], clr := [0, 1, 2] }
def sspec_l1In_b : SC := .seq (.reg sspec_l1In_r0) (.seq (.reg sspec_l1In_r1) (.ret))
def sspec_l1In : SFn := { nslots := 4, nobjs := 0, params := [0, 1, 2], ngiven := 0, bor := false, takes := [], body := sspec_l1In_b, results := [.slot 3] }
def sspec_l1In_t : List Tmp := [0, 1, 2, 6]
attribute [simp] sspec_l1In_r0 sspec_l1In_r1 sspec_l1In_b sspec_l1In
def simpl_InRange_r0 : Reg :=
  { id := 0, ops := [{ op := .mv (.con (.sc (.bool false))) }], clr := [3] }
def simpl_InRange_r1 : Reg :=
  { id := 1, ops := [{ op := .mv (.slot 1) },
      { op := .mv (.slot 0) },
      { op := .bin .leq (.loc 0) (.loc 1) },
      { op := .mv (.loc 2) },
      { op := .mv (.slot 0), guard := some (3, true) },
      { op := .mv (.slot 2), guard := some (3, true) },
      { op := .bin .leq (.loc 4) (.loc 5), guard := some (3, true) },
      { op := .pick (.loc 3) (.loc 6) (.con (.sc (.bool false))) },
      { op := .mv (.loc 7) }], sets := [(3, 8)], clr := [0, 1, 2] }
def simpl_InRange_b : SC := .seq (.reg simpl_InRange_r0) (.seq (.reg simpl_InRange_r1) (.ret))
def simpl_InRange : SFn := { nslots := 4, nobjs := 0, params := [0, 1, 2], ngiven := 0, bor := false, takes := [], body := simpl_InRange_b, results := [.slot 3] }
def simpl_InRange_t : List Tmp := [0, 1, 2, 6]
attribute [simp] simpl_InRange_r0 simpl_InRange_r1 simpl_InRange_b simpl_InRange
def slaws_szDeal_r0 : Reg :=
  { id := 0, ops := [{ op := .box 0 (.slot 0) },
      { op := .mv (.con (.sc (.int .i64 0))) }], sets := [(2, 0)], clr := [0, 3] }
def slaws_szDeal_r1 : Reg :=
  { id := 1, ops := [{ op := .fieldAddr (.slot 2) 2 },
      { op := .load none (.loc 0) },
      { op := .mv (.slot 1) },
      { op := .call 16 [(false, .loc 1), (false, .loc 2)] [] },
      { op := .mv (.loc 3) }], sets := [(1, 4)], clr := [2] }
def slaws_szDeal_r2 : Reg :=
  { id := 2, ops := [{ op := .mv (.slot 1) },
      { op := .bin .lss (.loc 0) (.con (.sc (.int .i64 0))) }], sets := [(4, 1)] }
def slaws_szDeal_r3 : Reg :=
  { id := 3, ops := [{ op := .mv (.con (.sc (.int .i64 (-1)))) }], sets := [(3, 0)], clr := [1] }
def slaws_szDeal_r4 : Reg :=
  { id := 4, ops := [{ op := .mv (.slot 1) },
      { op := .mv (.loc 0) }], sets := [(3, 1)], clr := [1] }
def slaws_szDeal_b : SC := .seq (.reg slaws_szDeal_r0) (.seq (.reg slaws_szDeal_r1) (.seq (.seq (.reg slaws_szDeal_r2) (.cond 4 (.seq (.reg slaws_szDeal_r3) (.ret)) (.skip))) (.seq (.reg slaws_szDeal_r4) (.ret))))
def slaws_szDeal : SFn := { nslots := 5, nobjs := 1, params := [0, 1], ngiven := 0, bor := false, takes := [], body := slaws_szDeal_b, results := [.slot 3] }
def slaws_szDeal_t : List Tmp := [0, 1, 2, 4, 10]
attribute [simp] slaws_szDeal_r0 slaws_szDeal_r1 slaws_szDeal_r2 slaws_szDeal_r3 slaws_szDeal_r4 slaws_szDeal_b slaws_szDeal
def slaws_szIntS_r0 : Reg :=
  { id := 0, ops := [{ op := .mv (.con (.sc (.int .i64 0))) }], clr := [2] }
def slaws_szIntS_r1 : Reg :=
  { id := 1, ops := [{ op := .mv (.slot 1) },
      { op := .mv (.slot 0) },
      { op := .len false (.loc 1) },
      { op := .bin .sub (.loc 0) (.loc 2) },
      { op := .mv (.loc 3) }], sets := [(1, 4)], clr := [0] }
def slaws_szIntS_r2 : Reg :=
  { id := 2, ops := [{ op := .mv (.slot 1) },
      { op := .bin .lss (.loc 0) (.con (.sc (.int .i64 0))) }], sets := [(3, 1)] }
def slaws_szIntS_r3 : Reg :=
  { id := 3, ops := [{ op := .mv (.con (.sc (.int .i64 (-1)))) }], sets := [(2, 0)], clr := [1] }
def slaws_szIntS_r4 : Reg :=
  { id := 4, ops := [{ op := .mv (.slot 1) },
      { op := .mv (.loc 0) }], sets := [(2, 1)], clr := [1] }
def slaws_szIntS_b : SC := .seq (.reg slaws_szIntS_r0) (.seq (.reg slaws_szIntS_r1) (.seq (.seq (.reg slaws_szIntS_r2) (.cond 3 (.seq (.reg slaws_szIntS_r3) (.ret)) (.skip))) (.seq (.reg slaws_szIntS_r4) (.ret))))
def slaws_szIntS : SFn := { nslots := 4, nobjs := 0, params := [0, 1], ngiven := 0, bor := false, takes := [], body := slaws_szIntS_b, results := [.slot 2] }
def slaws_szIntS_t : List Tmp := [0, 1, 4, 10]
attribute [simp] slaws_szIntS_r0 slaws_szIntS_r1 slaws_szIntS_r2 slaws_szIntS_r3 slaws_szIntS_r4 slaws_szIntS_b slaws_szIntS
def sspec_MaskedBy_r0 : Reg :=
  { id := 0, ops := [{ op := .mv (.con (.sc (.int .i64 0))) },
      { op := .mv (.con (.sc (.int .i64 0))) }], clr := [2, 3] }
def sspec_MaskedBy_r1 : Reg :=
  { id := 1, ops := [{ op := .mv (.con (.sc (.int .i64 0))) }], sets := [(4, 0)] }
def sspec_MaskedBy_r2 : Reg :=
  { id := 2, ops := [{ op := .mv (.con (.sc (.int .i64 0))) }], sets := [(5, 0)] }
def sspec_MaskedBy_r3 : Reg :=
  { id := 3, ops := [{ op := .mv (.con (.sc (.int .i64 0))) }], sets := [(6, 0)] }
def sspec_MaskedBy_r4 : Reg :=
  { id := 4, ops := [{ op := .mv (.slot 6) },
      { op := .mv (.slot 0) },
      { op := .len false (.loc 1) },
      { op := .bin .lss (.loc 0) (.loc 2) }], sets := [(8, 3)] }
def sspec_MaskedBy_r5 : Reg :=
  { id := 6, fresh := [0], ops := [{ op := .mv (.slot 0) },
      { op := .mv (.slot 6) },
      { op := .indexAddr 5 (.loc 0) (.loc 1) },
      { op := .load (some 5) (.loc 2) },
      { op := .alloc 0 [.sc (.bool false), .sc (.int .i64 0), .nil 1, .sc (.int .i64 0), .nil 1] },
      { op := .store 5 (.loc 4) (.loc 3) }], sets := [(7, 4)] }
def sspec_MaskedBy_r6 : Reg :=
  { id := 7, ops := [{ op := .fieldAddr (.slot 7) 0 },
      { op := .fieldAddr (.loc 0) 0 },
      { op := .load none (.loc 1) },
      { op := .un .not (.loc 2) },
      { op := .mv (.loc 3) },
      { op := .fieldAddr (.slot 7) 0, guard := some (4, false) },
      { op := .fieldAddr (.loc 5) 1, guard := some (4, false) },
      { op := .load none (.loc 6), guard := some (4, false) },
      { op := .mv (.slot 1), guard := some (4, false) },
      { op := .bin .lss (.loc 7) (.loc 8), guard := some (4, false) },
      { op := .mv (.loc 9), guard := some (4, false) },
      { op := .fieldAddr (.slot 7) 4, guard := some (10, true) },
      { op := .load none (.loc 11), guard := some (10, true) },
      { op := .mv (.slot 1), guard := some (10, true) },
      { op := .call 166 [(false, .loc 12), (false, .loc 13)] [], guard := some (10, true) },
      { op := .pick (.loc 10) (.loc 14) (.con (.sc (.bool false))), guard := some (4, false) },
      { op := .pick (.loc 4) (.con (.sc (.bool true))) (.loc 15) },
      { op := .mv (.loc 16) }], sets := [(9, 17)] }
def sspec_MaskedBy_r7 : Reg :=
  { id := 8, ops := [{ op := .mv (.slot 5) },
      { op := .bin .add (.loc 0) (.con (.sc (.int .i64 1))) },
      { op := .mv (.loc 1) }], sets := [(5, 2)], clr := [7] }
def sspec_MaskedBy_r8 : Reg :=
  { id := 9, ops := [{ op := .fieldAddr (.slot 7) 0 },
      { op := .fieldAddr (.loc 0) 1 },
      { op := .load none (.loc 1) },
      { op := .mv (.slot 1) },
      { op := .bin .geq (.loc 2) (.loc 3) },
      { op := .mv (.loc 4) }], sets := [(10, 5)], clr := [7] }
def sspec_MaskedBy_r9 : Reg :=
  { id := 10, ops := [{ op := .mv (.slot 4) },
      { op := .bin .add (.loc 0) (.con (.sc (.int .i64 1))) },
      { op := .mv (.loc 1) }], sets := [(4, 2)] }
def sspec_MaskedBy_r10 : Reg :=
  { id := 5, ops := [{ op := .mv (.slot 6) },
      { op := .bin .add (.loc 0) (.con (.sc (.int .i64 1))) },
      { op := .mv (.loc 1) }], sets := [(6, 2)] }
def sspec_MaskedBy_r11 : Reg :=
  { id := 11, ops := [{ op := .mv (.slot 4) },
      { op := .mv (.slot 5) },
      { op := .mv (.loc 0) },
      { op := .mv (.loc 1) }], sets := [(2, 2), (3, 3)], clr := [0, 1, 4, 5, 6] }
def sspec_MaskedBy_b : SC := .seq (.reg sspec_MaskedBy_r0) (.seq (.reg sspec_MaskedBy_r1) (.seq (.reg sspec_MaskedBy_r2) (.seq (.seq (.reg sspec_MaskedBy_r3) (.block 0 (.loop (.seq (.seq (.reg sspec_MaskedBy_r4) (.cond 8 (.skip) (.exit 0))) (.seq (.block 1 (.seq (.reg sspec_MaskedBy_r5) (.block 2 (.seq (.reg sspec_MaskedBy_r6) (.cond 9 (.reg sspec_MaskedBy_r7) (.seq (.reg sspec_MaskedBy_r8) (.cond 10 (.reg sspec_MaskedBy_r9) (.skip)))))))) (.reg sspec_MaskedBy_r10)))))) (.seq (.reg sspec_MaskedBy_r11) (.ret)))))
def sspec_MaskedBy : SFn := { nslots := 11, nobjs := 1, params := [0, 1], ngiven := 0, bor := false, takes := [], body := sspec_MaskedBy_b, results := [.slot 2, .slot 3] }
def sspec_MaskedBy_t : List Tmp := [0, 1, 4, 5, 6, 7, 8, 9, 13, 20, 40]
attribute [simp] sspec_MaskedBy_r0 sspec_MaskedBy_r1 sspec_MaskedBy_r2 sspec_MaskedBy_r3 sspec_MaskedBy_r4 sspec_MaskedBy_r5 sspec_MaskedBy_r6 sspec_MaskedBy_r7 sspec_MaskedBy_r8 sspec_MaskedBy_r9 sspec_MaskedBy_r10 sspec_MaskedBy_r11 sspec_MaskedBy_b sspec_MaskedBy
def slaws_toDeal_r0 : Reg :=
  { id := 0, ops := [{ op := .box 0 (.slot 0) },
      { op := .alloc 1 [.sc (.bool false), .sc (.int .i64 0), .nil 1] }], sets := [(1, 0), (2, 1)], clr := [0] }
def slaws_toDeal_r1 : Reg :=
  { id := 1, ops := [{ op := .alloc 2 [.sc (.bool false), .sc (.int .i64 0), .nil 1] }], sets := [(3, 0)] }
def slaws_toDeal_r2 : Reg :=
  { id := 2, ops := [{ op := .fieldAddr (.slot 1) 0 },
      { op := .load none (.loc 0) },
      { op := .fieldAddr (.slot 3) 0 },
      { op := .store 1 (.loc 2) (.loc 1) }] }
def slaws_toDeal_r3 : Reg :=
  { id := 3, ops := [{ op := .fieldAddr (.slot 1) 1 },
      { op := .load none (.loc 0) },
      { op := .fieldAddr (.slot 3) 1 },
      { op := .store 1 (.loc 2) (.loc 1) }] }
def slaws_toDeal_r4 : Reg :=
  { id := 4, ops := [{ op := .fieldAddr (.slot 1) 2 },
      { op := .load none (.loc 0) },
      { op := .call 31 [(false, .loc 1)] [3] },
      { op := .fieldAddr (.slot 3) 2 },
      { op := .store 1 (.loc 3) (.loc 2) }], clr := [1] }
def slaws_toDeal_r5 : Reg :=
  { id := 5, ops := [{ op := .load (some 3) (.slot 3) },
      { op := .store 3 (.slot 2) (.loc 0) }], clr := [3] }
def slaws_toDeal_b : SC := .seq (.reg slaws_toDeal_r0) (.seq (.reg slaws_toDeal_r1) (.seq (.reg slaws_toDeal_r2) (.seq (.reg slaws_toDeal_r3) (.seq (.reg slaws_toDeal_r4) (.seq (.reg slaws_toDeal_r5) (.ret))))))
def slaws_toDeal : SFn := { nslots := 4, nobjs := 4, params := [0], ngiven := 0, bor := false, takes := [], body := slaws_toDeal_b, results := [.cell 2 (some 3)] }
def slaws_toDeal_t : List Tmp := [0, 1, 2, 3]
attribute [simp] slaws_toDeal_r0 slaws_toDeal_r1 slaws_toDeal_r2 slaws_toDeal_r3 slaws_toDeal_r4 slaws_toDeal_r5 slaws_toDeal_b slaws_toDeal
def slaws_toIntS_r0 : Reg :=
  { id := 0, ops := [{ op := .mv (.con (.nil 1)) }], clr := [1] }
def slaws_toIntS_r1 : Reg :=
  { id := 1, ops := [{ op := .mv (.slot 0) },
      { op := .len false (.loc 0) },
      { op := .makeSlice 0 1 8 [.sc (.int .i64 0)] (.loc 1) },
      { op := .mv (.loc 2) }], sets := [(2, 3)] }
def slaws_toIntS_r2 : Reg :=
  { id := 2, ops := [{ op := .mv (.con (.sc (.int .i64 0))) }], sets := [(3, 0)] }
def slaws_toIntS_r3 : Reg :=
  { id := 3, ops := [{ op := .mv (.slot 3) },
      { op := .mv (.slot 0) },
      { op := .len false (.loc 1) },
      { op := .bin .lss (.loc 0) (.loc 2) }], sets := [(4, 3)] }
def slaws_toIntS_r4 : Reg :=
  { id := 5, ops := [{ op := .mv (.slot 2) },
      { op := .mv (.slot 3) },
      { op := .mv (.slot 0) },
      { op := .mv (.slot 3) },
      { op := .indexAddr 1 (.loc 2) (.loc 3) },
      { op := .load none (.loc 4) },
      { op := .indexAddr 1 (.loc 0) (.loc 1) },
      { op := .store 1 (.loc 6) (.loc 5) }] }
def slaws_toIntS_r5 : Reg :=
  { id := 4, ops := [{ op := .mv (.slot 3) },
      { op := .bin .add (.loc 0) (.con (.sc (.int .i64 1))) },
      { op := .mv (.loc 1) }], sets := [(3, 2)] }
def slaws_toIntS_r6 : Reg :=
  { id := 6, ops := [{ op := .mv (.slot 2) },
      { op := .mv (.loc 0) }], sets := [(1, 1)], clr := [0, 2, 3] }
def slaws_toIntS_b : SC := .seq (.reg slaws_toIntS_r0) (.seq (.reg slaws_toIntS_r1) (.seq (.seq (.reg slaws_toIntS_r2) (.block 0 (.loop (.seq (.seq (.reg slaws_toIntS_r3) (.cond 4 (.skip) (.exit 0))) (.seq (.block 1 (.reg slaws_toIntS_r4)) (.reg slaws_toIntS_r5)))))) (.seq (.reg slaws_toIntS_r6) (.ret))))
def slaws_toIntS : SFn := { nslots := 5, nobjs := 1, params := [0], ngiven := 0, bor := false, takes := [], body := slaws_toIntS_b, results := [.slot 1] }
def slaws_toIntS_t : List Tmp := [0, 2, 3, 4, 11]
attribute [simp] slaws_toIntS_r0 slaws_toIntS_r1 slaws_toIntS_r2 slaws_toIntS_r3 slaws_toIntS_r4 slaws_toIntS_r5 slaws_toIntS_r6 slaws_toIntS_b slaws_toIntS
def simpl_isBad_r0 : Reg :=
  { id := 0, ops := [{ op := .box 0 (.slot 0) },
      { op := .mv (.con (.sc (.bool false))) }], sets := [(2, 0)], clr := [0, 3] }
def simpl_isBad_r1 : Reg :=
  { id := 1, ops := [{ op := .fieldAddr (.slot 2) 0 },
      { op := .fieldAddr (.loc 0) 0 },
      { op := .load none (.loc 1) },
      { op := .un .not (.loc 2) },
      { op := .mv (.loc 3) },
      { op := .fieldAddr (.slot 2) 0, guard := some (4, false) },
      { op := .fieldAddr (.loc 5) 1, guard := some (4, false) },
      { op := .load none (.loc 6), guard := some (4, false) },
      { op := .mv (.slot 1), guard := some (4, false) },
      { op := .bin .lss (.loc 7) (.loc 8), guard := some (4, false) },
      { op := .mv (.loc 9), guard := some (4, false) },
      { op := .fieldAddr (.slot 2) 4, guard := some (10, true) },
      { op := .load none (.loc 11), guard := some (10, true) },
      { op := .mv (.slot 1), guard := some (10, true) },
      { op := .call 188 [(false, .loc 12), (false, .loc 13)] [], guard := some (10, true) },
      { op := .pick (.loc 10) (.loc 14) (.con (.sc (.bool false))), guard := some (4, false) },
      { op := .pick (.loc 4) (.con (.sc (.bool true))) (.loc 15) },
      { op := .mv (.loc 16) }], sets := [(3, 17)], clr := [1, 2] }
def simpl_isBad_b : SC := .seq (.reg simpl_isBad_r0) (.seq (.reg simpl_isBad_r1) (.ret))
def simpl_isBad : SFn := { nslots := 4, nobjs := 1, params := [0, 1], ngiven := 0, bor := false, takes := [], body := simpl_isBad_b, results := [.slot 3] }
def simpl_isBad_t : List Tmp := [0, 1, 2, 4]
attribute [simp] simpl_isBad_r0 simpl_isBad_r1 simpl_isBad_b simpl_isBad
def slaws_eqDeal_r0 : Reg :=
  { id := 0, ops := [{ op := .box 0 (.slot 0) },
      { op := .box 1 (.slot 1) },
      { op := .mv (.con (.sc (.bool false))) }], sets := [(2, 0), (3, 1)], clr := [0, 1, 4] }
def slaws_eqDeal_r1 : Reg :=
  { id := 1, ops := [{ op := .fieldAddr (.slot 2) 0 },
      { op := .load none (.loc 0) },
      { op := .fieldAddr (.slot 3) 0 },
      { op := .load none (.loc 2) },
      { op := .beq true (.loc 1) (.loc 3) }], sets := [(5, 4)] }
def slaws_eqDeal_r2 : Reg :=
  { id := 2, ops := [{ op := .mv (.con (.sc (.bool false))) }], sets := [(4, 0)], clr := [2, 3] }
def slaws_eqDeal_r3 : Reg :=
  { id := 3, ops := [{ op := .fieldAddr (.slot 2) 1 },
      { op := .load none (.loc 0) },
      { op := .fieldAddr (.slot 3) 1 },
      { op := .load none (.loc 2) },
      { op := .bin .neq (.loc 1) (.loc 3) }], sets := [(6, 4)] }
def slaws_eqDeal_r4 : Reg :=
  { id := 4, ops := [{ op := .mv (.con (.sc (.bool false))) }], sets := [(4, 0)], clr := [2, 3] }
def slaws_eqDeal_r5 : Reg :=
  { id := 5, ops := [{ op := .fieldAddr (.slot 2) 2 },
      { op := .load none (.loc 0) },
      { op := .fieldAddr (.slot 3) 2 },
      { op := .load none (.loc 2) },
      { op := .call 47 [(false, .loc 1), (false, .loc 3)] [] },
      { op := .un .not (.loc 4) }], sets := [(7, 5)], clr := [2, 3] }
def slaws_eqDeal_r6 : Reg :=
  { id := 6, ops := [{ op := .mv (.con (.sc (.bool false))) }], sets := [(4, 0)] }
def slaws_eqDeal_r7 : Reg :=
  { id := 7, ops := [{ op := .mv (.con (.sc (.bool true))) }], sets := [(4, 0)] }
def slaws_eqDeal_b : SC := .seq (.reg slaws_eqDeal_r0) (.seq (.seq (.reg slaws_eqDeal_r1) (.cond 5 (.seq (.reg slaws_eqDeal_r2) (.ret)) (.skip))) (.seq (.seq (.reg slaws_eqDeal_r3) (.cond 6 (.seq (.reg slaws_eqDeal_r4) (.ret)) (.skip))) (.seq (.seq (.reg slaws_eqDeal_r5) (.cond 7 (.seq (.reg slaws_eqDeal_r6) (.ret)) (.skip))) (.seq (.reg slaws_eqDeal_r7) (.ret)))))
def slaws_eqDeal : SFn := { nslots := 8, nobjs := 2, params := [0, 1], ngiven := 0, bor := false, takes := [], body := slaws_eqDeal_b, results := [.slot 4] }
def slaws_eqDeal_t : List Tmp := [0, 1, 2, 3, 4, 9, 14, 20]
attribute [simp] slaws_eqDeal_r0 slaws_eqDeal_r1 slaws_eqDeal_r2 slaws_eqDeal_r3 slaws_eqDeal_r4 slaws_eqDeal_r5 slaws_eqDeal_r6 slaws_eqDeal_r7 slaws_eqDeal_b slaws_eqDeal
def slaws_eqIntS_r0 : Reg :=
  { id := 0, ops := [{ op := .mv (.con (.sc (.bool false))) }], clr := [2] }
def slaws_eqIntS_r1 : Reg :=
  { id := 1, ops := [{ op := .mv (.slot 0) },
      { op := .len false (.loc 0) },
      { op := .mv (.slot 1) },
      { op := .len false (.loc 2) },
      { op := .bin .neq (.loc 1) (.loc 3) }], sets := [(4, 4)] }
def slaws_eqIntS_r2 : Reg :=
  { id := 2, ops := [{ op := .mv (.con (.sc (.bool false))) }], sets := [(2, 0)], clr := [0, 1] }
def slaws_eqIntS_r3 : Reg :=
  { id := 3, ops := [{ op := .mv (.con (.sc (.int .i64 0))) }], sets := [(3, 0)] }
def slaws_eqIntS_r4 : Reg :=
  { id := 4, ops := [{ op := .mv (.slot 3) },
      { op := .mv (.slot 0) },
      { op := .len false (.loc 1) },
      { op := .bin .lss (.loc 0) (.loc 2) }], sets := [(5, 3)] }
def slaws_eqIntS_r5 : Reg :=
  { id := 6, draw := true, ops := [{ op := .mv (.slot 0), tau := some [], om := [] },
      { op := .mv (.slot 3), tau := some [], om := [] },
      { op := .indexAddr 1 (.loc 0) (.loc 1), tau := some [], om := [] },
      { op := .load none (.loc 2), tau := some [], om := [] },
      { op := .mv (.slot 1), tau := some [], om := [] },
      { op := .mv (.slot 3), tau := some [], om := [] },
      { op := .indexAddr 1 (.loc 4) (.loc 5), tau := some [], om := [] },
      { op := .load none (.loc 6), tau := some [], om := [] },
      { op := .bin .neq (.loc 3) (.loc 7), tau := some [], om := [] }], sets := [(6, 8)] }
def slaws_eqIntS_r6 : Reg :=
  { id := 7, ops := [{ op := .mv (.con (.sc (.bool false))) }], sets := [(2, 0)], clr := [0, 1, 3] }
def slaws_eqIntS_r7 : Reg :=
  { id := 5, ops := [{ op := .mv (.slot 3) },
      { op := .bin .add (.loc 0) (.con (.sc (.int .i64 1))) },
      { op := .mv (.loc 1) }], sets := [(3, 2)] }
def slaws_eqIntS_r8 : Reg :=
  { id := 8, ops := [{ op := .mv (.con (.sc (.bool true))) }], sets := [(2, 0)], clr := [0, 1, 3] }
def slaws_eqIntS_b : SC := .seq (.reg slaws_eqIntS_r0) (.seq (.seq (.reg slaws_eqIntS_r1) (.cond 4 (.seq (.reg slaws_eqIntS_r2) (.ret)) (.skip))) (.seq (.seq (.reg slaws_eqIntS_r3) (.block 0 (.loop (.seq (.seq (.reg slaws_eqIntS_r4) (.cond 5 (.skip) (.exit 0))) (.seq (.block 1 (.seq (.reg slaws_eqIntS_r5) (.cond 6 (.seq (.reg slaws_eqIntS_r6) (.ret)) (.skip)))) (.reg slaws_eqIntS_r7)))))) (.seq (.reg slaws_eqIntS_r8) (.ret))))
def slaws_eqIntS : SFn := { nslots := 7, nobjs := 0, params := [0, 1], ngiven := 0, bor := false, takes := [], body := slaws_eqIntS_b, results := [.slot 2] }
def slaws_eqIntS_t : List Tmp := [0, 1, 4, 5, 10, 14, 25]
attribute [simp] slaws_eqIntS_r0 slaws_eqIntS_r1 slaws_eqIntS_r2 slaws_eqIntS_r3 slaws_eqIntS_r4 slaws_eqIntS_r5 slaws_eqIntS_r6 slaws_eqIntS_r7 slaws_eqIntS_r8 slaws_eqIntS_b slaws_eqIntS
def slaws_eqEndpoint_r0 : Reg :=
  { id := 0, ops := [{ op := .box 0 (.slot 0) },
      { op := .box 1 (.slot 1) },
      { op := .mv (.con (.sc (.bool false))) }], sets := [(2, 0), (3, 1)], clr := [0, 1, 4] }
def slaws_eqEndpoint_r1 : Reg :=
  { id := 1, ops := [{ op := .fieldAddr (.slot 2) 0 },
      { op := .load none (.loc 0) },
      { op := .fieldAddr (.slot 3) 0 },
      { op := .load none (.loc 2) },
      { op := .call 47 [(false, .loc 1), (false, .loc 3)] [] },
      { op := .un .not (.loc 4) }], sets := [(5, 5)] }
def slaws_eqEndpoint_r2 : Reg :=
  { id := 2, ops := [{ op := .mv (.con (.sc (.bool false))) }], sets := [(4, 0)], clr := [2, 3] }
def slaws_eqEndpoint_r3 : Reg :=
  { id := 3, ops := [{ op := .fieldAddr (.slot 2) 1 },
      { op := .load none (.loc 0) },
      { op := .fieldAddr (.slot 3) 1 },
      { op := .load none (.loc 2) },
      { op := .call 47 [(false, .loc 1), (false, .loc 3)] [] },
      { op := .un .not (.loc 4) }], sets := [(6, 5)] }
def slaws_eqEndpoint_r4 : Reg :=
  { id := 4, ops := [{ op := .mv (.con (.sc (.bool false))) }], sets := [(4, 0)], clr := [2, 3] }
def slaws_eqEndpoint_r5 : Reg :=
  { id := 5, ops := [{ op := .fieldAddr (.slot 2) 2 },
      { op := .load none (.loc 0) },
      { op := .fieldAddr (.slot 3) 2 },
      { op := .load none (.loc 2) },
      { op := .call 204 [(false, .loc 1), (false, .loc 3)] [] },
      { op := .un .not (.loc 4) }], sets := [(7, 5)] }
def slaws_eqEndpoint_r6 : Reg :=
  { id := 6, ops := [{ op := .mv (.con (.sc (.bool false))) }], sets := [(4, 0)], clr := [2, 3] }
def slaws_eqEndpoint_r7 : Reg :=
  { id := 7, ops := [{ op := .fieldAddr (.slot 2) 3 },
      { op := .load none (.loc 0) },
      { op := .fieldAddr (.slot 3) 3 },
      { op := .load none (.loc 2) },
      { op := .bin .neq (.loc 1) (.loc 3) }], sets := [(8, 4)], clr := [2, 3] }
def slaws_eqEndpoint_r8 : Reg :=
  { id := 8, ops := [{ op := .mv (.con (.sc (.bool false))) }], sets := [(4, 0)] }
def slaws_eqEndpoint_r9 : Reg :=
  { id := 9, ops := [{ op := .mv (.con (.sc (.bool true))) }], sets := [(4, 0)] }
def slaws_eqEndpoint_b : SC := .seq (.reg slaws_eqEndpoint_r0) (.seq (.seq (.reg slaws_eqEndpoint_r1) (.cond 5 (.seq (.reg slaws_eqEndpoint_r2) (.ret)) (.skip))) (.seq (.seq (.reg slaws_eqEndpoint_r3) (.cond 6 (.seq (.reg slaws_eqEndpoint_r4) (.ret)) (.skip))) (.seq (.seq (.reg slaws_eqEndpoint_r5) (.cond 7 (.seq (.reg slaws_eqEndpoint_r6) (.ret)) (.skip))) (.seq (.seq (.reg slaws_eqEndpoint_r7) (.cond 8 (.seq (.reg slaws_eqEndpoint_r8) (.ret)) (.skip))) (.seq (.reg slaws_eqEndpoint_r9) (.ret))))))
def slaws_eqEndpoint : SFn := { nslots := 9, nobjs := 2, params := [0, 1], ngiven := 0, bor := false, takes := [], body := slaws_eqEndpoint_b, results := [.slot 4] }
def slaws_eqEndpoint_t : List Tmp := [0, 1, 2, 3, 4, 10, 16, 22, 27]
attribute [simp] slaws_eqEndpoint_r0 slaws_eqEndpoint_r1 slaws_eqEndpoint_r2 slaws_eqEndpoint_r3 slaws_eqEndpoint_r4 slaws_eqEndpoint_r5 slaws_eqEndpoint_r6 slaws_eqEndpoint_r7 slaws_eqEndpoint_r8 slaws_eqEndpoint_r9 slaws_eqEndpoint_b slaws_eqEndpoint
def sspec_l9Has_r0 : Reg :=
  { id := 0, ops := [{ op := .mv (.con (.sc (.bool false))) }], clr := [2] }
def sspec_l9Has_r1 : Reg :=
  { id := 1, ops := [{ op := .mv (.con (.sc (.int .i64 0))) }], sets := [(3, 0)] }
def sspec_l9Has_r2 : Reg :=
  { id := 2, ops := [{ op := .mv (.slot 3) },
      { op := .mv (.slot 0) },
      { op := .len false (.loc 1) },
      { op := .bin .lss (.loc 0) (.loc 2) }], sets := [(4, 3)] }
def sspec_l9Has_r3 : Reg :=
  { id := 4, ops := [{ op := .mv (.slot 0) },
      { op := .mv (.slot 3) },
      { op := .indexAddr 1 (.loc 0) (.loc 1) },
      { op := .load none (.loc 2) },
      { op := .mv (.slot 1) },
      { op := .bin .eql (.loc 3) (.loc 4) }], sets := [(5, 5)] }
def sspec_l9Has_r4 : Reg :=
  { id := 5, ops := [{ op := .mv (.con (.sc (.bool true))) }], sets := [(2, 0)], clr := [0, 1, 3] }
def sspec_l9Has_r5 : Reg :=
  { id := 3, ops := [{ op := .mv (.slot 3) },
      { op := .bin .add (.loc 0) (.con (.sc (.int .i64 1))) },
      { op := .mv (.loc 1) }], sets := [(3, 2)] }
def sspec_l9Has_r6 : Reg :=
  { id := 6, ops := [{ op := .mv (.con (.sc (.bool false))) }], sets := [(2, 0)], clr := [0, 1, 3] }
def sspec_l9Has_b : SC := .seq (.reg sspec_l9Has_r0) (.seq (.seq (.reg sspec_l9Has_r1) (.block 0 (.loop (.seq (.seq (.reg sspec_l9Has_r2) (.cond 4 (.skip) (.exit 0))) (.seq (.block 1 (.seq (.reg sspec_l9Has_r3) (.cond 5 (.seq (.reg sspec_l9Has_r4) (.ret)) (.skip)))) (.reg sspec_l9Has_r5)))))) (.seq (.reg sspec_l9Has_r6) (.ret)))
def sspec_l9Has : SFn := { nslots := 6, nobjs := 0, params := [0, 1], ngiven := 0, bor := false, takes := [], body := sspec_l9Has_b, results := [.slot 2] }
def sspec_l9Has_t : List Tmp := [0, 1, 4, 5, 9, 17]
attribute [simp] sspec_l9Has_r0 sspec_l9Has_r1 sspec_l9Has_r2 sspec_l9Has_r3 sspec_l9Has_r4 sspec_l9Has_r5 sspec_l9Has_r6 sspec_l9Has_b sspec_l9Has
def sslices_Contains___int_int__r0 : Reg :=
  { id := 0, ops := [{ op := .mv (.con (.sc (.bool false))) }], clr := [2] }
def sslices_Contains___int_int__r1 : Reg :=
  { id := 1, ops := [{ op := .mv (.slot 0) },
      { op := .mv (.slot 1) },
      { op := .call 389 [(false, .loc 0), (false, .loc 1)] [] },
      { op := .bin .geq (.loc 2) (.con (.sc (.int .i64 0))) },
      { op := .mv (.loc 3) }], sets := [(2, 4)], clr := [0, 1] }
def sslices_Contains___int_int__b : SC := .seq (.reg sslices_Contains___int_int__r0) (.seq (.reg sslices_Contains___int_int__r1) (.ret))
def sslices_Contains___int_int_ : SFn := { nslots := 3, nobjs := 0, params := [0, 1], ngiven := 0, bor := false, takes := [], body := sslices_Contains___int_int__b, results := [.slot 2] }
def sslices_Contains___int_int__t : List Tmp := [0, 1, 4]
attribute [simp] sslices_Contains___int_int__r0 sslices_Contains___int_int__r1 sslices_Contains___int_int__b sslices_Contains___int_int_
def slaws_szBox_r0 : Reg :=
  { id := 0, ops := [{ op := .box 0 (.slot 0) },
      { op := .mv (.con (.sc (.int .i64 0))) }], sets := [(2, 0)], clr := [0, 3] }
def slaws_szBox_r1 : Reg :=
  { id := 1, ops := [{ op := .fieldAddr (.slot 2) 1 },
      { op := .load none (.loc 0) },
      { op := .mv (.slot 1) },
      { op := .call 16 [(false, .loc 1), (false, .loc 2)] [] },
      { op := .mv (.loc 3) }], sets := [(1, 4)] }
def slaws_szBox_r2 : Reg :=
  { id := 2, ops := [{ op := .mv (.slot 1) },
      { op := .bin .lss (.loc 0) (.con (.sc (.int .i64 0))) }], sets := [(4, 1)] }
def slaws_szBox_r3 : Reg :=
  { id := 3, ops := [{ op := .mv (.con (.sc (.int .i64 (-1)))) }], sets := [(3, 0)], clr := [1, 2] }
def slaws_szBox_r4 : Reg :=
  { id := 4, ops := [{ op := .fieldAddr (.slot 2) 2 },
      { op := .load none (.loc 0) },
      { op := .mv (.slot 1) },
      { op := .call 16 [(false, .loc 1), (false, .loc 2)] [] },
      { op := .mv (.loc 3) }], sets := [(1, 4)], clr := [2] }
def slaws_szBox_r5 : Reg :=
  { id := 5, ops := [{ op := .mv (.slot 1) },
      { op := .bin .lss (.loc 0) (.con (.sc (.int .i64 0))) }], sets := [(5, 1)] }
def slaws_szBox_r6 : Reg :=
  { id := 6, ops := [{ op := .mv (.con (.sc (.int .i64 (-1)))) }], sets := [(3, 0)], clr := [1] }
def slaws_szBox_r7 : Reg :=
  { id := 7, ops := [{ op := .mv (.slot 1) },
      { op := .mv (.loc 0) }], sets := [(3, 1)], clr := [1] }
def slaws_szBox_b : SC := .seq (.reg slaws_szBox_r0) (.seq (.reg slaws_szBox_r1) (.seq (.seq (.reg slaws_szBox_r2) (.cond 4 (.seq (.reg slaws_szBox_r3) (.ret)) (.skip))) (.seq (.reg slaws_szBox_r4) (.seq (.seq (.reg slaws_szBox_r5) (.cond 5 (.seq (.reg slaws_szBox_r6) (.ret)) (.skip))) (.seq (.reg slaws_szBox_r7) (.ret))))))
def slaws_szBox : SFn := { nslots := 6, nobjs := 1, params := [0, 1], ngiven := 0, bor := false, takes := [], body := slaws_szBox_b, results := [.slot 3] }
def slaws_szBox_t : List Tmp := [0, 1, 2, 4, 10, 16]
attribute [simp] slaws_szBox_r0 slaws_szBox_r1 slaws_szBox_r2 slaws_szBox_r3 slaws_szBox_r4 slaws_szBox_r5 slaws_szBox_r6 slaws_szBox_r7 slaws_szBox_b slaws_szBox
def slaws_toBox_r0 : Reg :=
  { id := 0, ops := [{ op := .box 0 (.slot 0) },
      { op := .alloc 1 [.sc (.int .i64 0), .nil 1, .nil 1, .sc (.bool false)] }], sets := [(1, 0), (2, 1)], clr := [0] }
def slaws_toBox_r1 : Reg :=
  { id := 1, ops := [{ op := .alloc 2 [.sc (.int .i64 0), .nil 1, .nil 1, .sc (.bool false)] }], sets := [(3, 0)] }
def slaws_toBox_r2 : Reg :=
  { id := 2, ops := [{ op := .fieldAddr (.slot 1) 0 },
      { op := .load none (.loc 0) },
      { op := .fieldAddr (.slot 3) 0 },
      { op := .store 1 (.loc 2) (.loc 1) }] }
def slaws_toBox_r3 : Reg :=
  { id := 3, ops := [{ op := .fieldAddr (.slot 1) 1 },
      { op := .load none (.loc 0) },
      { op := .call 31 [(false, .loc 1)] [3] },
      { op := .fieldAddr (.slot 3) 1 },
      { op := .store 1 (.loc 3) (.loc 2) }] }
def slaws_toBox_r4 : Reg :=
  { id := 4, ops := [{ op := .fieldAddr (.slot 1) 2 },
      { op := .load none (.loc 0) },
      { op := .call 31 [(false, .loc 1)] [4] },
      { op := .fieldAddr (.slot 3) 2 },
      { op := .store 1 (.loc 3) (.loc 2) }] }
def slaws_toBox_r5 : Reg :=
  { id := 5, ops := [{ op := .fieldAddr (.slot 1) 3 },
      { op := .load none (.loc 0) },
      { op := .fieldAddr (.slot 3) 3 },
      { op := .store 1 (.loc 2) (.loc 1) }], clr := [1] }
def slaws_toBox_r6 : Reg :=
  { id := 6, ops := [{ op := .load (some 4) (.slot 3) },
      { op := .store 4 (.slot 2) (.loc 0) }], clr := [3] }
def slaws_toBox_b : SC := .seq (.reg slaws_toBox_r0) (.seq (.reg slaws_toBox_r1) (.seq (.reg slaws_toBox_r2) (.seq (.reg slaws_toBox_r3) (.seq (.reg slaws_toBox_r4) (.seq (.reg slaws_toBox_r5) (.seq (.reg slaws_toBox_r6) (.ret)))))))
def slaws_toBox : SFn := { nslots := 4, nobjs := 5, params := [0], ngiven := 0, bor := false, takes := [], body := slaws_toBox_b, results := [.cell 2 (some 4)] }
def slaws_toBox_t : List Tmp := [0, 1, 2, 3]
attribute [simp] slaws_toBox_r0 slaws_toBox_r1 slaws_toBox_r2 slaws_toBox_r3 slaws_toBox_r4 slaws_toBox_r5 slaws_toBox_r6 slaws_toBox_b slaws_toBox
def slaws_eqBox_r0 : Reg :=
  { id := 0, ops := [{ op := .box 0 (.slot 0) },
      { op := .box 1 (.slot 1) },
      { op := .mv (.con (.sc (.bool false))) }], sets := [(2, 0), (3, 1)], clr := [0, 1, 4] }
def slaws_eqBox_r1 : Reg :=
  { id := 1, ops := [{ op := .fieldAddr (.slot 2) 0 },
      { op := .load none (.loc 0) },
      { op := .fieldAddr (.slot 3) 0 },
      { op := .load none (.loc 2) },
      { op := .bin .neq (.loc 1) (.loc 3) }], sets := [(5, 4)] }
def slaws_eqBox_r2 : Reg :=
  { id := 2, ops := [{ op := .mv (.con (.sc (.bool false))) }], sets := [(4, 0)], clr := [2, 3] }
def slaws_eqBox_r3 : Reg :=
  { id := 3, ops := [{ op := .fieldAddr (.slot 2) 1 },
      { op := .load none (.loc 0) },
      { op := .fieldAddr (.slot 3) 1 },
      { op := .load none (.loc 2) },
      { op := .call 47 [(false, .loc 1), (false, .loc 3)] [] },
      { op := .un .not (.loc 4) }], sets := [(6, 5)] }
def slaws_eqBox_r4 : Reg :=
  { id := 4, ops := [{ op := .mv (.con (.sc (.bool false))) }], sets := [(4, 0)], clr := [2, 3] }
def slaws_eqBox_r5 : Reg :=
  { id := 5, ops := [{ op := .fieldAddr (.slot 2) 2 },
      { op := .load none (.loc 0) },
      { op := .fieldAddr (.slot 3) 2 },
      { op := .load none (.loc 2) },
      { op := .call 47 [(false, .loc 1), (false, .loc 3)] [] },
      { op := .un .not (.loc 4) }], sets := [(7, 5)] }
def slaws_eqBox_r6 : Reg :=
  { id := 6, ops := [{ op := .mv (.con (.sc (.bool false))) }], sets := [(4, 0)], clr := [2, 3] }
def slaws_eqBox_r7 : Reg :=
  { id := 7, ops := [{ op := .fieldAddr (.slot 2) 3 },
      { op := .load none (.loc 0) },
      { op := .fieldAddr (.slot 3) 3 },
      { op := .load none (.loc 2) },
      { op := .beq true (.loc 1) (.loc 3) }], sets := [(8, 4)], clr := [2, 3] }
def slaws_eqBox_r8 : Reg :=
  { id := 8, ops := [{ op := .mv (.con (.sc (.bool false))) }], sets := [(4, 0)] }
def slaws_eqBox_r9 : Reg :=
  { id := 9, ops := [{ op := .mv (.con (.sc (.bool true))) }], sets := [(4, 0)] }
def slaws_eqBox_b : SC := .seq (.reg slaws_eqBox_r0) (.seq (.seq (.reg slaws_eqBox_r1) (.cond 5 (.seq (.reg slaws_eqBox_r2) (.ret)) (.skip))) (.seq (.seq (.reg slaws_eqBox_r3) (.cond 6 (.seq (.reg slaws_eqBox_r4) (.ret)) (.skip))) (.seq (.seq (.reg slaws_eqBox_r5) (.cond 7 (.seq (.reg slaws_eqBox_r6) (.ret)) (.skip))) (.seq (.seq (.reg slaws_eqBox_r7) (.cond 8 (.seq (.reg slaws_eqBox_r8) (.ret)) (.skip))) (.seq (.reg slaws_eqBox_r9) (.ret))))))
def slaws_eqBox : SFn := { nslots := 9, nobjs := 2, params := [0, 1], ngiven := 0, bor := false, takes := [], body := slaws_eqBox_b, results := [.slot 4] }
def slaws_eqBox_t : List Tmp := [0, 1, 2, 3, 4, 9, 15, 21, 26]
attribute [simp] slaws_eqBox_r0 slaws_eqBox_r1 slaws_eqBox_r2 slaws_eqBox_r3 slaws_eqBox_r4 slaws_eqBox_r5 slaws_eqBox_r6 slaws_eqBox_r7 slaws_eqBox_r8 slaws_eqBox_r9 slaws_eqBox_b slaws_eqBox
def slaws_eqBoxS_r0 : Reg :=
  { id := 0, ops := [{ op := .mv (.con (.sc (.bool false))) }], clr := [2] }
def slaws_eqBoxS_r1 : Reg :=
  { id := 1, ops := [{ op := .mv (.slot 0) },
      { op := .len false (.loc 0) },
      { op := .mv (.slot 1) },
      { op := .len false (.loc 2) },
      { op := .bin .neq (.loc 1) (.loc 3) }], sets := [(4, 4)] }
def slaws_eqBoxS_r2 : Reg :=
  { id := 2, ops := [{ op := .mv (.con (.sc (.bool false))) }], sets := [(2, 0)], clr := [0, 1] }
def slaws_eqBoxS_r3 : Reg :=
  { id := 3, ops := [{ op := .mv (.con (.sc (.int .i64 0))) }], sets := [(3, 0)] }
def slaws_eqBoxS_r4 : Reg :=
  { id := 4, ops := [{ op := .mv (.slot 3) },
      { op := .mv (.slot 0) },
      { op := .len false (.loc 1) },
      { op := .bin .lss (.loc 0) (.loc 2) }], sets := [(5, 3)] }
def slaws_eqBoxS_r5 : Reg :=
  { id := 6, draw := true, ops := [{ op := .mv (.slot 0), tau := some [], om := [] },
      { op := .mv (.slot 3), tau := some [], om := [] },
      { op := .indexAddr 4 (.loc 0) (.loc 1), tau := some [], om := [] },
      { op := .load (some 4) (.loc 2), tau := some [], om := [] },
      { op := .mv (.slot 1), tau := some [], om := [] },
      { op := .mv (.slot 3), tau := some [], om := [] },
      { op := .indexAddr 4 (.loc 4) (.loc 5), tau := some [], om := [] },
      { op := .load (some 4) (.loc 6), tau := some [], om := [] },
      { op := .call 249 [(false, .loc 3), (false, .loc 7)] [], tau := some [], om := [] },
      { op := .un .not (.loc 8), tau := some [], om := [] }], sets := [(6, 9)] }
def slaws_eqBoxS_r6 : Reg :=
  { id := 7, ops := [{ op := .mv (.con (.sc (.bool false))) }], sets := [(2, 0)], clr := [0, 1, 3] }
def slaws_eqBoxS_r7 : Reg :=
  { id := 5, ops := [{ op := .mv (.slot 3) },
      { op := .bin .add (.loc 0) (.con (.sc (.int .i64 1))) },
      { op := .mv (.loc 1) }], sets := [(3, 2)] }
def slaws_eqBoxS_r8 : Reg :=
  { id := 8, ops := [{ op := .mv (.con (.sc (.bool true))) }], sets := [(2, 0)], clr := [0, 1, 3] }
def slaws_eqBoxS_b : SC := .seq (.reg slaws_eqBoxS_r0) (.seq (.seq (.reg slaws_eqBoxS_r1) (.cond 4 (.seq (.reg slaws_eqBoxS_r2) (.ret)) (.skip))) (.seq (.seq (.reg slaws_eqBoxS_r3) (.block 0 (.loop (.seq (.seq (.reg slaws_eqBoxS_r4) (.cond 5 (.skip) (.exit 0))) (.seq (.block 1 (.seq (.reg slaws_eqBoxS_r5) (.cond 6 (.seq (.reg slaws_eqBoxS_r6) (.ret)) (.skip)))) (.reg slaws_eqBoxS_r7)))))) (.seq (.reg slaws_eqBoxS_r8) (.ret))))
def slaws_eqBoxS : SFn := { nslots := 7, nobjs := 0, params := [0, 1], ngiven := 0, bor := false, takes := [], body := slaws_eqBoxS_b, results := [.slot 2] }
def slaws_eqBoxS_t : List Tmp := [0, 1, 4, 5, 10, 14, 26]
attribute [simp] slaws_eqBoxS_r0 slaws_eqBoxS_r1 slaws_eqBoxS_r2 slaws_eqBoxS_r3 slaws_eqBoxS_r4 slaws_eqBoxS_r5 slaws_eqBoxS_r6 slaws_eqBoxS_r7 slaws_eqBoxS_r8 slaws_eqBoxS_b slaws_eqBoxS
def sslices_Index___int_int__r0 : Reg :=
  { id := 0, ops := [{ op := .mv (.con (.sc (.int .i64 0))) }], clr := [2] }
def sslices_Index___int_int__r1 : Reg :=
  { id := 1, ops := [{ op := .mv (.slot 0) },
      { op := .len false (.loc 0) },
      { op := .mv (.con (.sc (.int .i64 0))) }], sets := [(4, 1), (5, 2)] }
def sslices_Index___int_int__r2 : Reg :=
  { id := 2, ops := [{ op := .bin .lss (.slot 5) (.slot 4) }], sets := [(6, 0)] }
def sslices_Index___int_int__r3 : Reg :=
  { id := 3, ops := [{ op := .mv (.slot 5) },
      { op := .mv (.loc 0) }], sets := [(3, 1)] }
def sslices_Index___int_int__r4 : Reg :=
  { id := 4, ops := [{ op := .mv (.slot 1) },
      { op := .mv (.slot 0) },
      { op := .mv (.slot 3) },
      { op := .indexAddr 1 (.loc 1) (.loc 2) },
      { op := .load none (.loc 3) },
      { op := .bin .eql (.loc 0) (.loc 4) }], sets := [(7, 5)] }
def sslices_Index___int_int__r5 : Reg :=
  { id := 5, ops := [{ op := .mv (.slot 3) },
      { op := .mv (.loc 0) }], sets := [(2, 1)], clr := [0, 1, 3, 4, 5] }
def sslices_Index___int_int__r6 : Reg :=
  { id := 6, ops := [{ op := .bin .add (.slot 5) (.con (.sc (.int .i64 1))) },
      { op := .mv (.loc 0) }], sets := [(5, 1)], clr := [3] }
def sslices_Index___int_int__r7 : Reg :=
  { id := 7, ops := [{ op := .mv (.con (.sc (.int .i64 (-1)))) }], sets := [(2, 0)], clr := [0, 1, 4, 5] }
def sslices_Index___int_int__b : SC := .seq (.reg sslices_Index___int_int__r0) (.seq (.seq (.reg sslices_Index___int_int__r1) (.block 0 (.loop (.seq (.reg sslices_Index___int_int__r2) (.seq (.cond 6 (.skip) (.exit 0)) (.seq (.block 1 (.seq (.reg sslices_Index___int_int__r3) (.seq (.reg sslices_Index___int_int__r4) (.cond 7 (.seq (.reg sslices_Index___int_int__r5) (.ret)) (.skip))))) (.reg sslices_Index___int_int__r6))))))) (.seq (.reg sslices_Index___int_int__r7) (.ret)))
def sslices_Index___int_int_ : SFn := { nslots := 8, nobjs := 0, params := [0, 1], ngiven := 0, bor := false, takes := [], body := sslices_Index___int_int__b, results := [.slot 2] }
def sslices_Index___int_int__t : List Tmp := [0, 1, 4, 5, 7, 8, 9, 16]
attribute [simp] sslices_Index___int_int__r0 sslices_Index___int_int__r1 sslices_Index___int_int__r2 sslices_Index___int_int__r3 sslices_Index___int_int__r4 sslices_Index___int_int__r5 sslices_Index___int_int__r6 sslices_Index___int_int__r7 sslices_Index___int_int__b sslices_Index___int_int_
def slaws_szWorld_r0 : Reg :=
  { id := 0, ops := [{ op := .box 0 (.slot 0) },
      { op := .mv (.con (.sc (.int .i64 0))) }], sets := [(2, 0)], clr := [0, 3] }
def slaws_szWorld_r1 : Reg :=
  { id := 1, ops := [{ op := .fieldAddr (.slot 2) 0 },
      { op := .load none (.loc 0) },
      { op := .mv (.slot 1) },
      { op := .call 16 [(false, .loc 1), (false, .loc 2)] [] },
      { op := .mv (.loc 3) }], sets := [(1, 4)] }
def slaws_szWorld_r2 : Reg :=
  { id := 2, ops := [{ op := .mv (.slot 1) },
      { op := .bin .lss (.loc 0) (.con (.sc (.int .i64 0))) }], sets := [(4, 1)] }
def slaws_szWorld_r3 : Reg :=
  { id := 3, ops := [{ op := .mv (.con (.sc (.int .i64 (-1)))) }], sets := [(3, 0)], clr := [1, 2] }
def slaws_szWorld_r4 : Reg :=
  { id := 4, ops := [{ op := .fieldAddr (.slot 2) 1 },
      { op := .load none (.loc 0) },
      { op := .mv (.slot 1) },
      { op := .call 16 [(false, .loc 1), (false, .loc 2)] [] },
      { op := .mv (.loc 3) }], sets := [(1, 4)] }
def slaws_szWorld_r5 : Reg :=
  { id := 5, ops := [{ op := .mv (.slot 1) },
      { op := .bin .lss (.loc 0) (.con (.sc (.int .i64 0))) }], sets := [(5, 1)] }
def slaws_szWorld_r6 : Reg :=
  { id := 6, ops := [{ op := .mv (.con (.sc (.int .i64 (-1)))) }], sets := [(3, 0)], clr := [1, 2] }
def slaws_szWorld_r7 : Reg :=
  { id := 7, ops := [{ op := .fieldAddr (.slot 2) 3 },
      { op := .load none (.loc 0) },
      { op := .mv (.slot 1) },
      { op := .call 17 [(false, .loc 1), (false, .loc 2)] [] },
      { op := .mv (.loc 3) }], sets := [(1, 4)] }
def slaws_szWorld_r8 : Reg :=
  { id := 8, ops := [{ op := .mv (.slot 1) },
      { op := .bin .lss (.loc 0) (.con (.sc (.int .i64 0))) }], sets := [(6, 1)] }
def slaws_szWorld_r9 : Reg :=
  { id := 9, ops := [{ op := .mv (.con (.sc (.int .i64 (-1)))) }], sets := [(3, 0)], clr := [1, 2] }
def slaws_szWorld_r10 : Reg :=
  { id := 10, ops := [{ op := .fieldAddr (.slot 2) 4 },
      { op := .load (some 4) (.loc 0) },
      { op := .mv (.slot 1) },
      { op := .call 18 [(false, .loc 1), (false, .loc 2)] [] },
      { op := .mv (.loc 3) }], sets := [(1, 4)] }
def slaws_szWorld_r11 : Reg :=
  { id := 11, ops := [{ op := .mv (.slot 1) },
      { op := .bin .lss (.loc 0) (.con (.sc (.int .i64 0))) }], sets := [(7, 1)] }
def slaws_szWorld_r12 : Reg :=
  { id := 12, ops := [{ op := .mv (.con (.sc (.int .i64 (-1)))) }], sets := [(3, 0)], clr := [1, 2] }
def slaws_szWorld_r13 : Reg :=
  { id := 13, ops := [{ op := .fieldAddr (.slot 2) 10 },
      { op := .load none (.loc 0) },
      { op := .mv (.slot 1) },
      { op := .call 19 [(false, .loc 1), (false, .loc 2)] [] },
      { op := .mv (.loc 3) }], sets := [(1, 4)] }
def slaws_szWorld_r14 : Reg :=
  { id := 14, ops := [{ op := .mv (.slot 1) },
      { op := .bin .lss (.loc 0) (.con (.sc (.int .i64 0))) }], sets := [(8, 1)] }
def slaws_szWorld_r15 : Reg :=
  { id := 15, ops := [{ op := .mv (.con (.sc (.int .i64 (-1)))) }], sets := [(3, 0)], clr := [1, 2] }
def slaws_szWorld_r16 : Reg :=
  { id := 16, ops := [{ op := .fieldAddr (.slot 2) 11 },
      { op := .load none (.loc 0) },
      { op := .mv (.slot 1) },
      { op := .call 20 [(false, .loc 1), (false, .loc 2)] [] },
      { op := .mv (.loc 3) }], sets := [(1, 4)], clr := [2] }
def slaws_szWorld_r17 : Reg :=
  { id := 17, ops := [{ op := .mv (.slot 1) },
      { op := .bin .lss (.loc 0) (.con (.sc (.int .i64 0))) }], sets := [(9, 1)] }
def slaws_szWorld_r18 : Reg :=
  { id := 18, ops := [{ op := .mv (.con (.sc (.int .i64 (-1)))) }], sets := [(3, 0)], clr := [1] }
def slaws_szWorld_r19 : Reg :=
  { id := 19, ops := [{ op := .mv (.slot 1) },
      { op := .mv (.loc 0) }], sets := [(3, 1)], clr := [1] }
def slaws_szWorld_b : SC := .seq (.reg slaws_szWorld_r0) (.seq (.reg slaws_szWorld_r1) (.seq (.seq (.reg slaws_szWorld_r2) (.cond 4 (.seq (.reg slaws_szWorld_r3) (.ret)) (.skip))) (.seq (.reg slaws_szWorld_r4) (.seq (.seq (.reg slaws_szWorld_r5) (.cond 5 (.seq (.reg slaws_szWorld_r6) (.ret)) (.skip))) (.seq (.reg slaws_szWorld_r7) (.seq (.seq (.reg slaws_szWorld_r8) (.cond 6 (.seq (.reg slaws_szWorld_r9) (.ret)) (.skip))) (.seq (.reg slaws_szWorld_r10) (.seq (.seq (.reg slaws_szWorld_r11) (.cond 7 (.seq (.reg slaws_szWorld_r12) (.ret)) (.skip))) (.seq (.reg slaws_szWorld_r13) (.seq (.seq (.reg slaws_szWorld_r14) (.cond 8 (.seq (.reg slaws_szWorld_r15) (.ret)) (.skip))) (.seq (.reg slaws_szWorld_r16) (.seq (.seq (.reg slaws_szWorld_r17) (.cond 9 (.seq (.reg slaws_szWorld_r18) (.ret)) (.skip))) (.seq (.reg slaws_szWorld_r19) (.ret))))))))))))))
def slaws_szWorld : SFn := { nslots := 10, nobjs := 1, params := [0, 1], ngiven := 0, bor := false, takes := [], body := slaws_szWorld_b, results := [.slot 3] }
def slaws_szWorld_t : List Tmp := [0, 1, 2, 4, 10, 16, 22, 28, 34, 40]
attribute [simp] slaws_szWorld_r0 slaws_szWorld_r1 slaws_szWorld_r2 slaws_szWorld_r3 slaws_szWorld_r4 slaws_szWorld_r5 slaws_szWorld_r6 slaws_szWorld_r7 slaws_szWorld_r8 slaws_szWorld_r9 slaws_szWorld_r10 slaws_szWorld_r11 slaws_szWorld_r12 slaws_szWorld_r13 slaws_szWorld_r14 slaws_szWorld_r15 slaws_szWorld_r16 slaws_szWorld_r17 slaws_szWorld_r18 slaws_szWorld_r19 slaws_szWorld_b slaws_szWorld
def slaws_toWorld_r0 : Reg :=
  { id := 0, ops := [{ op := .box 0 (.slot 0) },
      { op := .alloc 1 [.nil 1, .nil 1, .sc (.int .i64 0), .nil 4, .sc (.int .i64 0), .nil 1, .sc (.int .i64 0), .sc (.bool false), .sc (.int .i64 0), .sc (.int .i64 0), .nil 5, .nil 8, .sc (.int .i64 0), .sc (.int .i64 0), .sc (.int .i64 0)] }], sets := [(1, 0), (2, 1)], clr := [0] }
def slaws_toWorld_r1 : Reg :=
  { id := 1, ops := [{ op := .alloc 2 [.nil 1, .nil 1, .sc (.int .i64 0), .nil 4, .sc (.int .i64 0), .nil 1, .sc (.int .i64 0), .sc (.bool false), .sc (.int .i64 0), .sc (.int .i64 0), .nil 5, .nil 8, .sc (.int .i64 0), .sc (.int .i64 0), .sc (.int .i64 0)] }], sets := [(3, 0)] }
def slaws_toWorld_r2 : Reg :=
  { id := 2, ops := [{ op := .fieldAddr (.slot 1) 0 },
      { op := .load none (.loc 0) },
      { op := .call 31 [(false, .loc 1)] [3] },
      { op := .fieldAddr (.slot 3) 0 },
      { op := .store 1 (.loc 3) (.loc 2) }] }
def slaws_toWorld_r3 : Reg :=
  { id := 3, ops := [{ op := .fieldAddr (.slot 1) 1 },
      { op := .load none (.loc 0) },
      { op := .call 31 [(false, .loc 1)] [4] },
      { op := .fieldAddr (.slot 3) 1 },
      { op := .store 1 (.loc 3) (.loc 2) }] }
def slaws_toWorld_r4 : Reg :=
  { id := 4, ops := [{ op := .fieldAddr (.slot 1) 2 },
      { op := .load none (.loc 0) },
      { op := .fieldAddr (.slot 3) 2 },
      { op := .store 1 (.loc 2) (.loc 1) }] }
def slaws_toWorld_r5 : Reg :=
  { id := 5, ops := [{ op := .fieldAddr (.slot 1) 3 },
      { op := .load none (.loc 0) },
      { op := .call 32 [(false, .loc 1)] [5] },
      { op := .fieldAddr (.slot 3) 3 },
      { op := .store 1 (.loc 3) (.loc 2) }] }
def slaws_toWorld_r6 : Reg :=
  { id := 6, ops := [{ op := .fieldAddr (.slot 1) 4 },
      { op := .load (some 4) (.loc 0) },
      { op := .call 33 [(false, .loc 1)] [6] },
      { op := .fieldAddr (.slot 3) 4 },
      { op := .store 4 (.loc 3) (.loc 2) }] }
def slaws_toWorld_r7 : Reg :=
  { id := 7, ops := [{ op := .fieldAddr (.slot 1) 8 },
      { op := .load none (.loc 0) },
      { op := .fieldAddr (.slot 3) 8 },
      { op := .store 1 (.loc 2) (.loc 1) }] }
def slaws_toWorld_r8 : Reg :=
  { id := 8, ops := [{ op := .fieldAddr (.slot 1) 9 },
      { op := .load none (.loc 0) },
      { op := .fieldAddr (.slot 3) 9 },
      { op := .store 1 (.loc 2) (.loc 1) }] }
def slaws_toWorld_r9 : Reg :=
  { id := 9, ops := [{ op := .fieldAddr (.slot 1) 10 },
      { op := .load none (.loc 0) },
      { op := .call 34 [(false, .loc 1)] [7] },
      { op := .fieldAddr (.slot 3) 10 },
      { op := .store 1 (.loc 3) (.loc 2) }] }
def slaws_toWorld_r10 : Reg :=
  { id := 10, ops := [{ op := .fieldAddr (.slot 1) 11 },
      { op := .load none (.loc 0) },
      { op := .call 35 [(false, .loc 1)] [8] },
      { op := .fieldAddr (.slot 3) 11 },
      { op := .store 1 (.loc 3) (.loc 2) }] }
def slaws_toWorld_r11 : Reg :=
  { id := 11, ops := [{ op := .fieldAddr (.slot 1) 12 },
      { op := .load none (.loc 0) },
      { op := .fieldAddr (.slot 3) 12 },
      { op := .store 1 (.loc 2) (.loc 1) }] }
def slaws_toWorld_r12 : Reg :=
  { id := 12, ops := [{ op := .fieldAddr (.slot 1) 13 },
      { op := .load none (.loc 0) },
      { op := .fieldAddr (.slot 3) 13 },
      { op := .store 1 (.loc 2) (.loc 1) }] }
def slaws_toWorld_r13 : Reg :=
  { id := 13, ops := [{ op := .fieldAddr (.slot 1) 14 },
      { op := .load none (.loc 0) },
      { op := .fieldAddr (.slot 3) 14 },
      { op := .store 1 (.loc 2) (.loc 1) }], clr := [1] }
def slaws_toWorld_r14 : Reg :=
  { id := 14, ops := [{ op := .load (some 15) (.slot 3) },
      { op := .store 15 (.slot 2) (.loc 0) }], clr := [3] }
def slaws_toWorld_b : SC := .seq (.reg slaws_toWorld_r0) (.seq (.reg slaws_toWorld_r1) (.seq (.reg slaws_toWorld_r2) (.seq (.reg slaws_toWorld_r3) (.seq (.reg slaws_toWorld_r4) (.seq (.reg slaws_toWorld_r5) (.seq (.reg slaws_toWorld_r6) (.seq (.reg slaws_toWorld_r7) (.seq (.reg slaws_toWorld_r8) (.seq (.reg slaws_toWorld_r9) (.seq (.reg slaws_toWorld_r10) (.seq (.reg slaws_toWorld_r11) (.seq (.reg slaws_toWorld_r12) (.seq (.reg slaws_toWorld_r13) (.seq (.reg slaws_toWorld_r14) (.ret)))))))))))))))
def slaws_toWorld : SFn := { nslots := 4, nobjs := 9, params := [0], ngiven := 0, bor := false, takes := [], body := slaws_toWorld_b, results := [.cell 2 (some 15)] }
def slaws_toWorld_t : List Tmp := [0, 1, 2, 3]
attribute [simp] slaws_toWorld_r0 slaws_toWorld_r1 slaws_toWorld_r2 slaws_toWorld_r3 slaws_toWorld_r4 slaws_toWorld_r5 slaws_toWorld_r6 slaws_toWorld_r7 slaws_toWorld_r8 slaws_toWorld_r9 slaws_toWorld_r10 slaws_toWorld_r11 slaws_toWorld_r12 slaws_toWorld_r13 slaws_toWorld_r14 slaws_toWorld_b slaws_toWorld
def slaws_eqWorld_r0 : Reg :=
  { id := 0, ops := [{ op := .box 0 (.slot 0) },
      { op := .box 1 (.slot 1) },
      { op := .mv (.con (.sc (.bool false))) }], sets := [(2, 0), (3, 1)], clr := [0, 1, 4] }
def slaws_eqWorld_r1 : Reg :=
  { id := 1, ops := [{ op := .fieldAddr (.slot 2) 0 },
      { op := .load none (.loc 0) },
      { op := .fieldAddr (.slot 3) 0 },
      { op := .load none (.loc 2) },
      { op := .call 47 [(false, .loc 1), (false, .loc 3)] [] },
      { op := .un .not (.loc 4) }], sets := [(5, 5)] }
def slaws_eqWorld_r2 : Reg :=
  { id := 2, ops := [{ op := .mv (.con (.sc (.bool false))) }], sets := [(4, 0)], clr := [2, 3] }
def slaws_eqWorld_r3 : Reg :=
  { id := 3, ops := [{ op := .fieldAddr (.slot 2) 1 },
      { op := .load none (.loc 0) },
      { op := .fieldAddr (.slot 3) 1 },
      { op := .load none (.loc 2) },
      { op := .call 47 [(false, .loc 1), (false, .loc 3)] [] },
      { op := .un .not (.loc 4) }], sets := [(6, 5)] }
def slaws_eqWorld_r4 : Reg :=
  { id := 4, ops := [{ op := .mv (.con (.sc (.bool false))) }], sets := [(4, 0)], clr := [2, 3] }
def slaws_eqWorld_r5 : Reg :=
  { id := 5, ops := [{ op := .fieldAddr (.slot 2) 2 },
      { op := .load none (.loc 0) },
      { op := .fieldAddr (.slot 3) 2 },
      { op := .load none (.loc 2) },
      { op := .bin .neq (.loc 1) (.loc 3) }], sets := [(7, 4)] }
def slaws_eqWorld_r6 : Reg :=
  { id := 6, ops := [{ op := .mv (.con (.sc (.bool false))) }], sets := [(4, 0)], clr := [2, 3] }
def slaws_eqWorld_r7 : Reg :=
  { id := 7, ops := [{ op := .fieldAddr (.slot 2) 3 },
      { op := .load none (.loc 0) },
      { op := .fieldAddr (.slot 3) 3 },
      { op := .load none (.loc 2) },
      { op := .call 48 [(false, .loc 1), (false, .loc 3)] [] },
      { op := .un .not (.loc 4) }], sets := [(8, 5)] }
def slaws_eqWorld_r8 : Reg :=
  { id := 8, ops := [{ op := .mv (.con (.sc (.bool false))) }], sets := [(4, 0)], clr := [2, 3] }
def slaws_eqWorld_r9 : Reg :=
  { id := 9, ops := [{ op := .fieldAddr (.slot 2) 4 },
      { op := .load (some 4) (.loc 0) },
      { op := .fieldAddr (.slot 3) 4 },
      { op := .load (some 4) (.loc 2) },
      { op := .call 49 [(false, .loc 1), (false, .loc 3)] [] },
      { op := .un .not (.loc 4) }], sets := [(9, 5)] }
def slaws_eqWorld_r10 : Reg :=
  { id := 10, ops := [{ op := .mv (.con (.sc (.bool false))) }], sets := [(4, 0)], clr := [2, 3] }
def slaws_eqWorld_r11 : Reg :=
  { id := 11, ops := [{ op := .fieldAddr (.slot 2) 8 },
      { op := .load none (.loc 0) },
      { op := .fieldAddr (.slot 3) 8 },
      { op := .load none (.loc 2) },
      { op := .bin .neq (.loc 1) (.loc 3) }], sets := [(10, 4)] }
def slaws_eqWorld_r12 : Reg :=
  { id := 12, ops := [{ op := .mv (.con (.sc (.bool false))) }], sets := [(4, 0)], clr := [2, 3] }
def slaws_eqWorld_r13 : Reg :=
  { id := 13, ops := [{ op := .fieldAddr (.slot 2) 9 },
      { op := .load none (.loc 0) },
      { op := .fieldAddr (.slot 3) 9 },
      { op := .load none (.loc 2) },
      { op := .bin .neq (.loc 1) (.loc 3) }], sets := [(11, 4)] }
def slaws_eqWorld_r14 : Reg :=
  { id := 14, ops := [{ op := .mv (.con (.sc (.bool false))) }], sets := [(4, 0)], clr := [2, 3] }
def slaws_eqWorld_r15 : Reg :=
  { id := 15, ops := [{ op := .fieldAddr (.slot 2) 10 },
      { op := .load none (.loc 0) },
      { op := .fieldAddr (.slot 3) 10 },
      { op := .load none (.loc 2) },
      { op := .call 50 [(false, .loc 1), (false, .loc 3)] [] },
      { op := .un .not (.loc 4) }], sets := [(12, 5)] }
def slaws_eqWorld_r16 : Reg :=
  { id := 16, ops := [{ op := .mv (.con (.sc (.bool false))) }], sets := [(4, 0)], clr := [2, 3] }
def slaws_eqWorld_r17 : Reg :=
  { id := 17, ops := [{ op := .fieldAddr (.slot 2) 11 },
      { op := .load none (.loc 0) },
      { op := .fieldAddr (.slot 3) 11 },
      { op := .load none (.loc 2) },
      { op := .call 51 [(false, .loc 1), (false, .loc 3)] [] },
      { op := .un .not (.loc 4) }], sets := [(13, 5)] }
def slaws_eqWorld_r18 : Reg :=
  { id := 18, ops := [{ op := .mv (.con (.sc (.bool false))) }], sets := [(4, 0)], clr := [2, 3] }
def slaws_eqWorld_r19 : Reg :=
  { id := 19, ops := [{ op := .fieldAddr (.slot 2) 12 },
      { op := .load none (.loc 0) },
      { op := .fieldAddr (.slot 3) 12 },
      { op := .load none (.loc 2) },
      { op := .bin .neq (.loc 1) (.loc 3) }], sets := [(14, 4)] }
def slaws_eqWorld_r20 : Reg :=
  { id := 20, ops := [{ op := .mv (.con (.sc (.bool false))) }], sets := [(4, 0)], clr := [2, 3] }
def slaws_eqWorld_r21 : Reg :=
  { id := 21, ops := [{ op := .fieldAddr (.slot 2) 13 },
      { op := .load none (.loc 0) },
      { op := .fieldAddr (.slot 3) 13 },
      { op := .load none (.loc 2) },
      { op := .bin .neq (.loc 1) (.loc 3) }], sets := [(15, 4)] }
def slaws_eqWorld_r22 : Reg :=
  { id := 22, ops := [{ op := .mv (.con (.sc (.bool false))) }], sets := [(4, 0)], clr := [2, 3] }
def slaws_eqWorld_r23 : Reg :=
  { id := 23, ops := [{ op := .fieldAddr (.slot 2) 14 },
      { op := .load none (.loc 0) },
      { op := .fieldAddr (.slot 3) 14 },
      { op := .load none (.loc 2) },
      { op := .bin .neq (.loc 1) (.loc 3) }], sets := [(16, 4)], clr := [2, 3] }
def slaws_eqWorld_r24 : Reg :=
  { id := 24, ops := [{ op := .mv (.con (.sc (.bool false))) }], sets := [(4, 0)] }
def slaws_eqWorld_r25 : Reg :=
  { id := 25, ops := [{ op := .mv (.con (.sc (.bool true))) }], sets := [(4, 0)] }
def slaws_eqWorld_b : SC := .seq (.reg slaws_eqWorld_r0) (.seq (.seq (.reg slaws_eqWorld_r1) (.cond 5 (.seq (.reg slaws_eqWorld_r2) (.ret)) (.skip))) (.seq (.seq (.reg slaws_eqWorld_r3) (.cond 6 (.seq (.reg slaws_eqWorld_r4) (.ret)) (.skip))) (.seq (.seq (.reg slaws_eqWorld_r5) (.cond 7 (.seq (.reg slaws_eqWorld_r6) (.ret)) (.skip))) (.seq (.seq (.reg slaws_eqWorld_r7) (.cond 8 (.seq (.reg slaws_eqWorld_r8) (.ret)) (.skip))) (.seq (.seq (.reg slaws_eqWorld_r9) (.cond 9 (.seq (.reg slaws_eqWorld_r10) (.ret)) (.skip))) (.seq (.seq (.reg slaws_eqWorld_r11) (.cond 10 (.seq (.reg slaws_eqWorld_r12) (.ret)) (.skip))) (.seq (.seq (.reg slaws_eqWorld_r13) (.cond 11 (.seq (.reg slaws_eqWorld_r14) (.ret)) (.skip))) (.seq (.seq (.reg slaws_eqWorld_r15) (.cond 12 (.seq (.reg slaws_eqWorld_r16) (.ret)) (.skip))) (.seq (.seq (.reg slaws_eqWorld_r17) (.cond 13 (.seq (.reg slaws_eqWorld_r18) (.ret)) (.skip))) (.seq (.seq (.reg slaws_eqWorld_r19) (.cond 14 (.seq (.reg slaws_eqWorld_r20) (.ret)) (.skip))) (.seq (.seq (.reg slaws_eqWorld_r21) (.cond 15 (.seq (.reg slaws_eqWorld_r22) (.ret)) (.skip))) (.seq (.seq (.reg slaws_eqWorld_r23) (.cond 16 (.seq (.reg slaws_eqWorld_r24) (.ret)) (.skip))) (.seq (.reg slaws_eqWorld_r25) (.ret))))))))))))))
def slaws_eqWorld : SFn := { nslots := 17, nobjs := 2, params := [0, 1], ngiven := 0, bor := false, takes := [], body := slaws_eqWorld_b, results := [.slot 4] }
def slaws_eqWorld_t : List Tmp := [0, 1, 2, 3, 4, 10, 16, 21, 27, 33, 38, 43, 49, 55, 60, 65, 70]
attribute [simp] slaws_eqWorld_r0 slaws_eqWorld_r1 slaws_eqWorld_r2 slaws_eqWorld_r3 slaws_eqWorld_r4 slaws_eqWorld_r5 slaws_eqWorld_r6 slaws_eqWorld_r7 slaws_eqWorld_r8 slaws_eqWorld_r9 slaws_eqWorld_r10 slaws_eqWorld_r11 slaws_eqWorld_r12 slaws_eqWorld_r13 slaws_eqWorld_r14 slaws_eqWorld_r15 slaws_eqWorld_r16 slaws_eqWorld_r17 slaws_eqWorld_r18 slaws_eqWorld_r19 slaws_eqWorld_r20 slaws_eqWorld_r21 slaws_eqWorld_r22 slaws_eqWorld_r23 slaws_eqWorld_r24 slaws_eqWorld_r25 slaws_eqWorld_b slaws_eqWorld
def slaws_szEndpointS_r0 : Reg :=
  { id := 0, ops := [{ op := .mv (.con (.sc (.int .i64 0))) }], clr := [2] }
def slaws_szEndpointS_r1 : Reg :=
  { id := 1, ops := [{ op := .mv (.slot 1) },
      { op := .mv (.slot 0) },
      { op := .len false (.loc 1) },
      { op := .bin .sub (.loc 0) (.loc 2) },
      { op := .mv (.loc 3) }], sets := [(1, 4)] }
def slaws_szEndpointS_r2 : Reg :=
  { id := 2, ops := [{ op := .mv (.slot 1) },
      { op := .bin .lss (.loc 0) (.con (.sc (.int .i64 0))) }], sets := [(4, 1)] }
def slaws_szEndpointS_r3 : Reg :=
  { id := 3, ops := [{ op := .mv (.con (.sc (.int .i64 (-1)))) }], sets := [(2, 0)], clr := [0, 1] }
def slaws_szEndpointS_r4 : Reg :=
  { id := 4, ops := [{ op := .mv (.con (.sc (.int .i64 0))) }], sets := [(3, 0)] }
def slaws_szEndpointS_r5 : Reg :=
  { id := 5, ops := [{ op := .mv (.slot 3) },
      { op := .mv (.slot 0) },
      { op := .len false (.loc 1) },
      { op := .bin .lss (.loc 0) (.loc 2) }], sets := [(5, 3)] }
def slaws_szEndpointS_r6 : Reg :=
  { id := 7, ops := [{ op := .mv (.slot 0) },
      { op := .mv (.slot 3) },
      { op := .indexAddr 4 (.loc 0) (.loc 1) },
      { op := .load (some 4) (.loc 2) },
      { op := .mv (.slot 1) },
      { op := .call 62 [(false, .loc 3), (false, .loc 4)] [] },
      { op := .mv (.loc 5) }], sets := [(1, 6)] }
def slaws_szEndpointS_r7 : Reg :=
  { id := 8, ops := [{ op := .mv (.slot 1) },
      { op := .bin .lss (.loc 0) (.con (.sc (.int .i64 0))) }], sets := [(6, 1)] }
def slaws_szEndpointS_r8 : Reg :=
  { id := 9, ops := [{ op := .mv (.con (.sc (.int .i64 (-1)))) }], sets := [(2, 0)], clr := [0, 1, 3] }
def slaws_szEndpointS_r9 : Reg :=
  { id := 6, ops := [{ op := .mv (.slot 3) },
      { op := .bin .add (.loc 0) (.con (.sc (.int .i64 1))) },
      { op := .mv (.loc 1) }], sets := [(3, 2)] }
def slaws_szEndpointS_r10 : Reg :=
  { id := 10, ops := [{ op := .mv (.slot 1) },
      { op := .mv (.loc 0) }], sets := [(2, 1)], clr := [0, 1, 3] }
def slaws_szEndpointS_b : SC := .seq (.reg slaws_szEndpointS_r0) (.seq (.reg slaws_szEndpointS_r1) (.seq (.seq (.reg slaws_szEndpointS_r2) (.cond 4 (.seq (.reg slaws_szEndpointS_r3) (.ret)) (.skip))) (.seq (.seq (.reg slaws_szEndpointS_r4) (.block 0 (.loop (.seq (.seq (.reg slaws_szEndpointS_r5) (.cond 5 (.skip) (.exit 0))) (.seq (.block 1 (.seq (.reg slaws_szEndpointS_r6) (.seq (.reg slaws_szEndpointS_r7) (.cond 6 (.seq (.reg slaws_szEndpointS_r8) (.ret)) (.skip))))) (.reg slaws_szEndpointS_r9)))))) (.seq (.reg slaws_szEndpointS_r10) (.ret)))))
def slaws_szEndpointS : SFn := { nslots := 7, nobjs := 0, params := [0, 1], ngiven := 0, bor := false, takes := [], body := slaws_szEndpointS_b, results := [.slot 2] }
def slaws_szEndpointS_t : List Tmp := [0, 1, 4, 5, 11, 15, 25]
attribute [simp] slaws_szEndpointS_r0 slaws_szEndpointS_r1 slaws_szEndpointS_r2 slaws_szEndpointS_r3 slaws_szEndpointS_r4 slaws_szEndpointS_r5 slaws_szEndpointS_r6 slaws_szEndpointS_r7 slaws_szEndpointS_r8 slaws_szEndpointS_r9 slaws_szEndpointS_r10 slaws_szEndpointS_b slaws_szEndpointS
def slaws_szRollout_r0 : Reg :=
  { id := 0, ops := [{ op := .box 0 (.slot 0) },
      { op := .mv (.con (.sc (.int .i64 0))) }], sets := [(2, 0)], clr := [0, 3] }
def slaws_szRollout_r1 : Reg :=
  { id := 1, ops := [{ op := .fieldAddr (.slot 2) 1 },
      { op := .load none (.loc 0) },
      { op := .mv (.slot 1) },
      { op := .call 16 [(false, .loc 1), (false, .loc 2)] [] },
      { op := .mv (.loc 3) }], sets := [(1, 4)], clr := [2] }
def slaws_szRollout_r2 : Reg :=
  { id := 2, ops := [{ op := .mv (.slot 1) },
      { op := .bin .lss (.loc 0) (.con (.sc (.int .i64 0))) }], sets := [(4, 1)] }
def slaws_szRollout_r3 : Reg :=
  { id := 3, ops := [{ op := .mv (.con (.sc (.int .i64 (-1)))) }], sets := [(3, 0)], clr := [1] }
def slaws_szRollout_r4 : Reg :=
  { id := 4, ops := [{ op := .mv (.slot 1) },
      { op := .mv (.loc 0) }], sets := [(3, 1)], clr := [1] }
def slaws_szRollout_b : SC := .seq (.reg slaws_szRollout_r0) (.seq (.reg slaws_szRollout_r1) (.seq (.seq (.reg slaws_szRollout_r2) (.cond 4 (.seq (.reg slaws_szRollout_r3) (.ret)) (.skip))) (.seq (.reg slaws_szRollout_r4) (.ret))))
def slaws_szRollout : SFn := { nslots := 5, nobjs := 1, params := [0, 1], ngiven := 0, bor := false, takes := [], body := slaws_szRollout_b, results := [.slot 3] }
def slaws_szRollout_t : List Tmp := [0, 1, 2, 4, 10]
attribute [simp] slaws_szRollout_r0 slaws_szRollout_r1 slaws_szRollout_r2 slaws_szRollout_r3 slaws_szRollout_r4 slaws_szRollout_b slaws_szRollout
def slaws_szDialedS_r0 : Reg :=
  { id := 0, ops := [{ op := .mv (.con (.sc (.int .i64 0))) }], clr := [2] }
def slaws_szDialedS_r1 : Reg :=
  { id := 1, ops := [{ op := .mv (.slot 1) },
      { op := .mv (.slot 0) },
      { op := .len false (.loc 1) },
      { op := .bin .sub (.loc 0) (.loc 2) },
      { op := .mv (.loc 3) }], sets := [(1, 4)] }
def slaws_szDialedS_r2 : Reg :=
  { id := 2, ops := [{ op := .mv (.slot 1) },
      { op := .bin .lss (.loc 0) (.con (.sc (.int .i64 0))) }], sets := [(4, 1)] }
def slaws_szDialedS_r3 : Reg :=
  { id := 3, ops := [{ op := .mv (.con (.sc (.int .i64 (-1)))) }], sets := [(2, 0)], clr := [0, 1] }
def slaws_szDialedS_r4 : Reg :=
  { id := 4, ops := [{ op := .mv (.con (.sc (.int .i64 0))) }], sets := [(3, 0)] }
def slaws_szDialedS_r5 : Reg :=
  { id := 5, ops := [{ op := .mv (.slot 3) },
      { op := .mv (.slot 0) },
      { op := .len false (.loc 1) },
      { op := .bin .lss (.loc 0) (.loc 2) }], sets := [(5, 3)] }
def slaws_szDialedS_r6 : Reg :=
  { id := 7, ops := [{ op := .mv (.slot 0) },
      { op := .mv (.slot 3) },
      { op := .indexAddr 5 (.loc 0) (.loc 1) },
      { op := .load (some 5) (.loc 2) },
      { op := .mv (.slot 1) },
      { op := .call 63 [(false, .loc 3), (false, .loc 4)] [] },
      { op := .mv (.loc 5) }], sets := [(1, 6)] }
def slaws_szDialedS_r7 : Reg :=
  { id := 8, ops := [{ op := .mv (.slot 1) },
      { op := .bin .lss (.loc 0) (.con (.sc (.int .i64 0))) }], sets := [(6, 1)] }
def slaws_szDialedS_r8 : Reg :=
  { id := 9, ops := [{ op := .mv (.con (.sc (.int .i64 (-1)))) }], sets := [(2, 0)], clr := [0, 1, 3] }
def slaws_szDialedS_r9 : Reg :=
  { id := 6, ops := [{ op := .mv (.slot 3) },
      { op := .bin .add (.loc 0) (.con (.sc (.int .i64 1))) },
      { op := .mv (.loc 1) }], sets := [(3, 2)] }
def slaws_szDialedS_r10 : Reg :=
  { id := 10, ops := [{ op := .mv (.slot 1) },
      { op := .mv (.loc 0) }], sets := [(2, 1)], clr := [0, 1, 3] }
def slaws_szDialedS_b : SC := .seq (.reg slaws_szDialedS_r0) (.seq (.reg slaws_szDialedS_r1) (.seq (.seq (.reg slaws_szDialedS_r2) (.cond 4 (.seq (.reg slaws_szDialedS_r3) (.ret)) (.skip))) (.seq (.seq (.reg slaws_szDialedS_r4) (.block 0 (.loop (.seq (.seq (.reg slaws_szDialedS_r5) (.cond 5 (.skip) (.exit 0))) (.seq (.block 1 (.seq (.reg slaws_szDialedS_r6) (.seq (.reg slaws_szDialedS_r7) (.cond 6 (.seq (.reg slaws_szDialedS_r8) (.ret)) (.skip))))) (.reg slaws_szDialedS_r9)))))) (.seq (.reg slaws_szDialedS_r10) (.ret)))))
def slaws_szDialedS : SFn := { nslots := 7, nobjs := 0, params := [0, 1], ngiven := 0, bor := false, takes := [], body := slaws_szDialedS_b, results := [.slot 2] }
def slaws_szDialedS_t : List Tmp := [0, 1, 4, 5, 11, 15, 25]
attribute [simp] slaws_szDialedS_r0 slaws_szDialedS_r1 slaws_szDialedS_r2 slaws_szDialedS_r3 slaws_szDialedS_r4 slaws_szDialedS_r5 slaws_szDialedS_r6 slaws_szDialedS_r7 slaws_szDialedS_r8 slaws_szDialedS_r9 slaws_szDialedS_r10 slaws_szDialedS_b slaws_szDialedS
def slaws_szLoggedS_r0 : Reg :=
  { id := 0, ops := [{ op := .mv (.con (.sc (.int .i64 0))) }], clr := [2] }
def slaws_szLoggedS_r1 : Reg :=
  { id := 1, ops := [{ op := .mv (.slot 1) },
      { op := .mv (.slot 0) },
      { op := .len false (.loc 1) },
      { op := .bin .sub (.loc 0) (.loc 2) },
      { op := .mv (.loc 3) }], sets := [(1, 4)] }
def slaws_szLoggedS_r2 : Reg :=
  { id := 2, ops := [{ op := .mv (.slot 1) },
      { op := .bin .lss (.loc 0) (.con (.sc (.int .i64 0))) }], sets := [(4, 1)] }
def slaws_szLoggedS_r3 : Reg :=
  { id := 3, ops := [{ op := .mv (.con (.sc (.int .i64 (-1)))) }], sets := [(2, 0)], clr := [0, 1] }
def slaws_szLoggedS_r4 : Reg :=
  { id := 4, ops := [{ op := .mv (.con (.sc (.int .i64 0))) }], sets := [(3, 0)] }
def slaws_szLoggedS_r5 : Reg :=
  { id := 5, ops := [{ op := .mv (.slot 3) },
      { op := .mv (.slot 0) },
      { op := .len false (.loc 1) },
      { op := .bin .lss (.loc 0) (.loc 2) }], sets := [(5, 3)] }
def slaws_szLoggedS_r6 : Reg :=
  { id := 7, ops := [{ op := .mv (.slot 0) },
      { op := .mv (.slot 3) },
      { op := .indexAddr 8 (.loc 0) (.loc 1) },
      { op := .load (some 8) (.loc 2) },
      { op := .mv (.slot 1) },
      { op := .call 64 [(false, .loc 3), (false, .loc 4)] [] },
      { op := .mv (.loc 5) }], sets := [(1, 6)] }
def slaws_szLoggedS_r7 : Reg :=
  { id := 8, ops := [{ op := .mv (.slot 1) },
      { op := .bin .lss (.loc 0) (.con (.sc (.int .i64 0))) }], sets := [(6, 1)] }
def slaws_szLoggedS_r8 : Reg :=
  { id := 9, ops := [{ op := .mv (.con (.sc (.int .i64 (-1)))) }], sets := [(2, 0)], clr := [0, 1, 3] }
def slaws_szLoggedS_r9 : Reg :=
  { id := 6, ops := [{ op := .mv (.slot 3) },
      { op := .bin .add (.loc 0) (.con (.sc (.int .i64 1))) },
      { op := .mv (.loc 1) }], sets := [(3, 2)] }
def slaws_szLoggedS_r10 : Reg :=
  { id := 10, ops := [{ op := .mv (.slot 1) },
      { op := .mv (.loc 0) }], sets := [(2, 1)], clr := [0, 1, 3] }
def slaws_szLoggedS_b : SC := .seq (.reg slaws_szLoggedS_r0) (.seq (.reg slaws_szLoggedS_r1) (.seq (.seq (.reg slaws_szLoggedS_r2) (.cond 4 (.seq (.reg slaws_szLoggedS_r3) (.ret)) (.skip))) (.seq (.seq (.reg slaws_szLoggedS_r4) (.block 0 (.loop (.seq (.seq (.reg slaws_szLoggedS_r5) (.cond 5 (.skip) (.exit 0))) (.seq (.block 1 (.seq (.reg slaws_szLoggedS_r6) (.seq (.reg slaws_szLoggedS_r7) (.cond 6 (.seq (.reg slaws_szLoggedS_r8) (.ret)) (.skip))))) (.reg slaws_szLoggedS_r9)))))) (.seq (.reg slaws_szLoggedS_r10) (.ret)))))
def slaws_szLoggedS : SFn := { nslots := 7, nobjs := 0, params := [0, 1], ngiven := 0, bor := false, takes := [], body := slaws_szLoggedS_b, results := [.slot 2] }
def slaws_szLoggedS_t : List Tmp := [0, 1, 4, 5, 11, 15, 25]
attribute [simp] slaws_szLoggedS_r0 slaws_szLoggedS_r1 slaws_szLoggedS_r2 slaws_szLoggedS_r3 slaws_szLoggedS_r4 slaws_szLoggedS_r5 slaws_szLoggedS_r6 slaws_szLoggedS_r7 slaws_szLoggedS_r8 slaws_szLoggedS_r9 slaws_szLoggedS_r10 slaws_szLoggedS_b slaws_szLoggedS
def slaws_toEndpointS_r0 : Reg :=
  { id := 0, ops := [{ op := .mv (.con (.nil 4)) }], clr := [1] }
def slaws_toEndpointS_r1 : Reg :=
  { id := 1, ops := [{ op := .mv (.slot 0) },
      { op := .len false (.loc 0) },
      { op := .makeSlice 0 4 80 [.sl 0 1 0 [], .sl 0 1 0 [], .sl 0 4 0 [], .sc (.int .i64 0)] (.loc 1) },
      { op := .mv (.loc 2) }], sets := [(2, 3)] }
def slaws_toEndpointS_r2 : Reg :=
  { id := 2, ops := [{ op := .mv (.con (.sc (.int .i64 0))) }], sets := [(3, 0)] }
def slaws_toEndpointS_r3 : Reg :=
  { id := 3, ops := [{ op := .mv (.slot 3) },
      { op := .mv (.slot 0) },
      { op := .len false (.loc 1) },
      { op := .bin .lss (.loc 0) (.loc 2) }], sets := [(4, 3)] }
def slaws_toEndpointS_r4 : Reg :=
  { id := 5, fresh := [1, 2, 3], ops := [{ op := .mv (.slot 2) },
      { op := .mv (.slot 3) },
      { op := .mv (.slot 0) },
      { op := .mv (.slot 3) },
      { op := .indexAddr 4 (.loc 2) (.loc 3) },
      { op := .load (some 4) (.loc 4) },
      { op := .call 98 [(false, .loc 5)] [1, 2, 3] },
      { op := .indexAddr 4 (.loc 0) (.loc 1) },
      { op := .store 4 (.loc 7) (.loc 6) }] }
def slaws_toEndpointS_r5 : Reg :=
  { id := 4, ops := [{ op := .mv (.slot 3) },
      { op := .bin .add (.loc 0) (.con (.sc (.int .i64 1))) },
      { op := .mv (.loc 1) }], sets := [(3, 2)] }
def slaws_toEndpointS_r6 : Reg :=
  { id := 6, ops := [{ op := .mv (.slot 2) },
      { op := .mv (.loc 0) }], sets := [(1, 1)], clr := [0, 2, 3] }
def slaws_toEndpointS_b : SC := .seq (.reg slaws_toEndpointS_r0) (.seq (.reg slaws_toEndpointS_r1) (.seq (.seq (.reg slaws_toEndpointS_r2) (.block 0 (.loop (.seq (.seq (.reg slaws_toEndpointS_r3) (.cond 4 (.skip) (.exit 0))) (.seq (.block 1 (.reg slaws_toEndpointS_r4)) (.reg slaws_toEndpointS_r5)))))) (.seq (.reg slaws_toEndpointS_r6) (.ret))))
def slaws_toEndpointS : SFn := { nslots := 5, nobjs := 4, params := [0], ngiven := 0, bor := false, takes := [], body := slaws_toEndpointS_b, results := [.slot 1] }
def slaws_toEndpointS_t : List Tmp := [0, 2, 3, 4, 11]
attribute [simp] slaws_toEndpointS_r0 slaws_toEndpointS_r1 slaws_toEndpointS_r2 slaws_toEndpointS_r3 slaws_toEndpointS_r4 slaws_toEndpointS_r5 slaws_toEndpointS_r6 slaws_toEndpointS_b slaws_toEndpointS
def slaws_toRollout_r0 : Reg :=
  { id := 0, ops := [{ op := .box 0 (.slot 0) },
      { op := .alloc 1 [.sc (.int .i64 0), .nil 1, .sc (.int .i64 0), .sc (.bool false)] }], sets := [(1, 0), (2, 1)], clr := [0] }
def slaws_toRollout_r1 : Reg :=
  { id := 1, ops := [{ op := .alloc 2 [.sc (.int .i64 0), .nil 1, .sc (.int .i64 0), .sc (.bool false)] }], sets := [(3, 0)] }
def slaws_toRollout_r2 : Reg :=
  { id := 2, ops := [{ op := .fieldAddr (.slot 1) 0 },
      { op := .load none (.loc 0) },
      { op := .fieldAddr (.slot 3) 0 },
      { op := .store 1 (.loc 2) (.loc 1) }] }
def slaws_toRollout_r3 : Reg :=
  { id := 3, ops := [{ op := .fieldAddr (.slot 1) 1 },
      { op := .load none (.loc 0) },
      { op := .call 31 [(false, .loc 1)] [3] },
      { op := .fieldAddr (.slot 3) 1 },
      { op := .store 1 (.loc 3) (.loc 2) }] }
def slaws_toRollout_r4 : Reg :=
  { id := 4, ops := [{ op := .fieldAddr (.slot 1) 2 },
      { op := .load none (.loc 0) },
      { op := .fieldAddr (.slot 3) 2 },
      { op := .store 1 (.loc 2) (.loc 1) }] }
def slaws_toRollout_r5 : Reg :=
  { id := 5, ops := [{ op := .fieldAddr (.slot 1) 3 },
      { op := .load none (.loc 0) },
      { op := .fieldAddr (.slot 3) 3 },
      { op := .store 1 (.loc 2) (.loc 1) }], clr := [1] }
def slaws_toRollout_r6 : Reg :=
  { id := 6, ops := [{ op := .load (some 4) (.slot 3) },
      { op := .store 4 (.slot 2) (.loc 0) }], clr := [3] }
def slaws_toRollout_b : SC := .seq (.reg slaws_toRollout_r0) (.seq (.reg slaws_toRollout_r1) (.seq (.reg slaws_toRollout_r2) (.seq (.reg slaws_toRollout_r3) (.seq (.reg slaws_toRollout_r4) (.seq (.reg slaws_toRollout_r5) (.seq (.reg slaws_toRollout_r6) (.ret)))))))
def slaws_toRollout : SFn := { nslots := 4, nobjs := 4, params := [0], ngiven := 0, bor := false, takes := [], body := slaws_toRollout_b, results := [.cell 2 (some 4)] }
def slaws_toRollout_t : List Tmp := [0, 1, 2, 3]
attribute [simp] slaws_toRollout_r0 slaws_toRollout_r1 slaws_toRollout_r2 slaws_toRollout_r3 slaws_toRollout_r4 slaws_toRollout_r5 slaws_toRollout_r6 slaws_toRollout_b slaws_toRollout
def slaws_toDialedS_r0 : Reg :=
  { id := 0, ops := [{ op := .mv (.con (.nil 5)) }], clr := [1] }
def slaws_toDialedS_r1 : Reg :=
  { id := 1, ops := [{ op := .mv (.slot 0) },
      { op := .len false (.loc 0) },
      { op := .makeSlice 0 5 72 [.sc (.bool false), .sc (.int .i64 0), .sl 0 1 0 [], .sc (.int .i64 0), .sl 0 1 0 []] (.loc 1) },
      { op := .mv (.loc 2) }], sets := [(2, 3)] }
def slaws_toDialedS_r2 : Reg :=
  { id := 2, ops := [{ op := .mv (.con (.sc (.int .i64 0))) }], sets := [(3, 0)] }
def slaws_toDialedS_r3 : Reg :=
  { id := 3, ops := [{ op := .mv (.slot 3) },
      { op := .mv (.slot 0) },
      { op := .len false (.loc 1) },
      { op := .bin .lss (.loc 0) (.loc 2) }], sets := [(4, 3)] }
def slaws_toDialedS_r4 : Reg :=
  { id := 5, fresh := [1, 2], ops := [{ op := .mv (.slot 2) },
      { op := .mv (.slot 3) },
      { op := .mv (.slot 0) },
      { op := .mv (.slot 3) },
      { op := .indexAddr 5 (.loc 2) (.loc 3) },
      { op := .load (some 5) (.loc 4) },
      { op := .call 99 [(false, .loc 5)] [1, 2] },
      { op := .indexAddr 5 (.loc 0) (.loc 1) },
      { op := .store 5 (.loc 7) (.loc 6) }] }
def slaws_toDialedS_r5 : Reg :=
  { id := 4, ops := [{ op := .mv (.slot 3) },
      { op := .bin .add (.loc 0) (.con (.sc (.int .i64 1))) },
      { op := .mv (.loc 1) }], sets := [(3, 2)] }
def slaws_toDialedS_r6 : Reg :=
  { id := 6, ops := [{ op := .mv (.slot 2) },
      { op := .mv (.loc 0) }], sets := [(1, 1)], clr := [0, 2, 3] }
def slaws_toDialedS_b : SC := .seq (.reg slaws_toDialedS_r0) (.seq (.reg slaws_toDialedS_r1) (.seq (.seq (.reg slaws_toDialedS_r2) (.block 0 (.loop (.seq (.seq (.reg slaws_toDialedS_r3) (.cond 4 (.skip) (.exit 0))) (.seq (.block 1 (.reg slaws_toDialedS_r4)) (.reg slaws_toDialedS_r5)))))) (.seq (.reg slaws_toDialedS_r6) (.ret))))
def slaws_toDialedS : SFn := { nslots := 5, nobjs := 3, params := [0], ngiven := 0, bor := false, takes := [], body := slaws_toDialedS_b, results := [.slot 1] }
def slaws_toDialedS_t : List Tmp := [0, 2, 3, 4, 11]
attribute [simp] slaws_toDialedS_r0 slaws_toDialedS_r1 slaws_toDialedS_r2 slaws_toDialedS_r3 slaws_toDialedS_r4 slaws_toDialedS_r5 slaws_toDialedS_r6 slaws_toDialedS_b slaws_toDialedS
def slaws_toLoggedS_r0 : Reg :=
  { id := 0, ops := [{ op := .mv (.con (.nil 8)) }], clr := [1] }
def slaws_toLoggedS_r1 : Reg :=
  { id := 1, ops := [{ op := .mv (.slot 0) },
      { op := .len false (.loc 0) },
      { op := .makeSlice 0 8 96 [.sc (.int .i64 0), .sc (.int .i64 0), .sc (.bool false), .sc (.bool false), .sc (.int .i64 0), .sl 0 1 0 [], .sc (.int .i64 0), .sl 0 1 0 []] (.loc 1) },
      { op := .mv (.loc 2) }], sets := [(2, 3)] }
def slaws_toLoggedS_r2 : Reg :=
  { id := 2, ops := [{ op := .mv (.con (.sc (.int .i64 0))) }], sets := [(3, 0)] }
def slaws_toLoggedS_r3 : Reg :=
  { id := 3, ops := [{ op := .mv (.slot 3) },
      { op := .mv (.slot 0) },
      { op := .len false (.loc 1) },
      { op := .bin .lss (.loc 0) (.loc 2) }], sets := [(4, 3)] }
def slaws_toLoggedS_r4 : Reg :=
  { id := 5, fresh := [1, 2], ops := [{ op := .mv (.slot 2) },
      { op := .mv (.slot 3) },
      { op := .mv (.slot 0) },
      { op := .mv (.slot 3) },
      { op := .indexAddr 8 (.loc 2) (.loc 3) },
      { op := .load (some 8) (.loc 4) },
      { op := .call 100 [(false, .loc 5)] [1, 2] },
      { op := .indexAddr 8 (.loc 0) (.loc 1) },
      { op := .store 8 (.loc 7) (.loc 6) }] }
def slaws_toLoggedS_r5 : Reg :=
  { id := 4, ops := [{ op := .mv (.slot 3) },
      { op := .bin .add (.loc 0) (.con (.sc (.int .i64 1))) },
      { op := .mv (.loc 1) }], sets := [(3, 2)] }
def slaws_toLoggedS_r6 : Reg :=
  { id := 6, ops := [{ op := .mv (.slot 2) },
      { op := .mv (.loc 0) }], sets := [(1, 1)], clr := [0, 2, 3] }
def slaws_toLoggedS_b : SC := .seq (.reg slaws_toLoggedS_r0) (.seq (.reg slaws_toLoggedS_r1) (.seq (.seq (.reg slaws_toLoggedS_r2) (.block 0 (.loop (.seq (.seq (.reg slaws_toLoggedS_r3) (.cond 4 (.skip) (.exit 0))) (.seq (.block 1 (.reg slaws_toLoggedS_r4)) (.reg slaws_toLoggedS_r5)))))) (.seq (.reg slaws_toLoggedS_r6) (.ret))))
def slaws_toLoggedS : SFn := { nslots := 5, nobjs := 3, params := [0], ngiven := 0, bor := false, takes := [], body := slaws_toLoggedS_b, results := [.slot 1] }
def slaws_toLoggedS_t : List Tmp := [0, 2, 3, 4, 11]
attribute [simp] slaws_toLoggedS_r0 slaws_toLoggedS_r1 slaws_toLoggedS_r2 slaws_toLoggedS_r3 slaws_toLoggedS_r4 slaws_toLoggedS_r5 slaws_toLoggedS_r6 slaws_toLoggedS_b slaws_toLoggedS
def slaws_eqRollout_r0 : Reg :=
  { id := 0, ops := [{ op := .box 0 (.slot 0) },
      { op := .box 1 (.slot 1) },
      { op := .mv (.con (.sc (.bool false))) }], sets := [(2, 0), (3, 1)], clr := [0, 1, 4] }
def slaws_eqRollout_r1 : Reg :=
  { id := 1, ops := [{ op := .fieldAddr (.slot 2) 0 },
      { op := .load none (.loc 0) },
      { op := .fieldAddr (.slot 3) 0 },
      { op := .load none (.loc 2) },
      { op := .bin .neq (.loc 1) (.loc 3) }], sets := [(5, 4)] }
def slaws_eqRollout_r2 : Reg :=
  { id := 2, ops := [{ op := .mv (.con (.sc (.bool false))) }], sets := [(4, 0)], clr := [2, 3] }
def slaws_eqRollout_r3 : Reg :=
  { id := 3, ops := [{ op := .fieldAddr (.slot 2) 1 },
      { op := .load none (.loc 0) },
      { op := .fieldAddr (.slot 3) 1 },
      { op := .load none (.loc 2) },
      { op := .call 47 [(false, .loc 1), (false, .loc 3)] [] },
      { op := .un .not (.loc 4) }], sets := [(6, 5)] }
def slaws_eqRollout_r4 : Reg :=
  { id := 4, ops := [{ op := .mv (.con (.sc (.bool false))) }], sets := [(4, 0)], clr := [2, 3] }
def slaws_eqRollout_r5 : Reg :=
  { id := 5, ops := [{ op := .fieldAddr (.slot 2) 2 },
      { op := .load none (.loc 0) },
      { op := .fieldAddr (.slot 3) 2 },
      { op := .load none (.loc 2) },
      { op := .bin .neq (.loc 1) (.loc 3) }], sets := [(7, 4)] }
def slaws_eqRollout_r6 : Reg :=
  { id := 6, ops := [{ op := .mv (.con (.sc (.bool false))) }], sets := [(4, 0)], clr := [2, 3] }
def slaws_eqRollout_r7 : Reg :=
  { id := 7, ops := [{ op := .fieldAddr (.slot 2) 3 },
      { op := .load none (.loc 0) },
      { op := .fieldAddr (.slot 3) 3 },
      { op := .load none (.loc 2) },
      { op := .beq true (.loc 1) (.loc 3) }], sets := [(8, 4)], clr := [2, 3] }
def slaws_eqRollout_r8 : Reg :=
  { id := 8, ops := [{ op := .mv (.con (.sc (.bool false))) }], sets := [(4, 0)] }
def slaws_eqRollout_r9 : Reg :=
  { id := 9, ops := [{ op := .mv (.con (.sc (.bool true))) }], sets := [(4, 0)] }
def slaws_eqRollout_b : SC := .seq (.reg slaws_eqRollout_r0) (.seq (.seq (.reg slaws_eqRollout_r1) (.cond 5 (.seq (.reg slaws_eqRollout_r2) (.ret)) (.skip))) (.seq (.seq (.reg slaws_eqRollout_r3) (.cond 6 (.seq (.reg slaws_eqRollout_r4) (.ret)) (.skip))) (.seq (.seq (.reg slaws_eqRollout_r5) (.cond 7 (.seq (.reg slaws_eqRollout_r6) (.ret)) (.skip))) (.seq (.seq (.reg slaws_eqRollout_r7) (.cond 8 (.seq (.reg slaws_eqRollout_r8) (.ret)) (.skip))) (.seq (.reg slaws_eqRollout_r9) (.ret))))))
def slaws_eqRollout : SFn := { nslots := 9, nobjs := 2, params := [0, 1], ngiven := 0, bor := false, takes := [], body := slaws_eqRollout_b, results := [.slot 4] }
def slaws_eqRollout_t : List Tmp := [0, 1, 2, 3, 4, 9, 15, 20, 25]
attribute [simp] slaws_eqRollout_r0 slaws_eqRollout_r1 slaws_eqRollout_r2 slaws_eqRollout_r3 slaws_eqRollout_r4 slaws_eqRollout_r5 slaws_eqRollout_r6 slaws_eqRollout_r7 slaws_eqRollout_r8 slaws_eqRollout_r9 slaws_eqRollout_b slaws_eqRollout
def slaws_eqDialedS_r0 : Reg :=
  { id := 0, ops := [{ op := .mv (.con (.sc (.bool false))) }], clr := [2] }
def slaws_eqDialedS_r1 : Reg :=
  { id := 1, ops := [{ op := .mv (.slot 0) },
      { op := .len false (.loc 0) },
      { op := .mv (.slot 1) },
      { op := .len false (.loc 2) },
      { op := .bin .neq (.loc 1) (.loc 3) }], sets := [(4, 4)] }
def slaws_eqDialedS_r2 : Reg :=
  { id := 2, ops := [{ op := .mv (.con (.sc (.bool false))) }], sets := [(2, 0)], clr := [0, 1] }
def slaws_eqDialedS_r3 : Reg :=
  { id := 3, ops := [{ op := .mv (.con (.sc (.int .i64 0))) }], sets := [(3, 0)] }
def slaws_eqDialedS_r4 : Reg :=
  { id := 4, ops := [{ op := .mv (.slot 3) },
      { op := .mv (.slot 0) },
      { op := .len false (.loc 1) },
      { op := .bin .lss (.loc 0) (.loc 2) }], sets := [(5, 3)] }
def slaws_eqDialedS_r5 : Reg :=
  { id := 6, draw := true, ops := [{ op := .mv (.slot 0), tau := some [], om := [] },
      { op := .mv (.slot 3), tau := some [], om := [] },
      { op := .indexAddr 5 (.loc 0) (.loc 1), tau := some [], om := [] },
      { op := .load (some 5) (.loc 2), tau := some [], om := [] },
      { op := .mv (.slot 1), tau := some [], om := [] },
      { op := .mv (.slot 3), tau := some [], om := [] },
      { op := .indexAddr 5 (.loc 4) (.loc 5), tau := some [], om := [] },
      { op := .load (some 5) (.loc 6), tau := some [], om := [] },
      { op := .call 135 [(false, .loc 3), (false, .loc 7)] [], tau := some [], om := [] },
      { op := .un .not (.loc 8), tau := some [], om := [] }], sets := [(6, 9)] }
def slaws_eqDialedS_r6 : Reg :=
  { id := 7, ops := [{ op := .mv (.con (.sc (.bool false))) }], sets := [(2, 0)], clr := [0, 1, 3] }
def slaws_eqDialedS_r7 : Reg :=
  { id := 5, ops := [{ op := .mv (.slot 3) },
      { op := .bin .add (.loc 0) (.con (.sc (.int .i64 1))) },
      { op := .mv (.loc 1) }], sets := [(3, 2)] }
def slaws_eqDialedS_r8 : Reg :=
  { id := 8, ops := [{ op := .mv (.con (.sc (.bool true))) }], sets := [(2, 0)], clr := [0, 1, 3] }
def slaws_eqDialedS_b : SC := .seq (.reg slaws_eqDialedS_r0) (.seq (.seq (.reg slaws_eqDialedS_r1) (.cond 4 (.seq (.reg slaws_eqDialedS_r2) (.ret)) (.skip))) (.seq (.seq (.reg slaws_eqDialedS_r3) (.block 0 (.loop (.seq (.seq (.reg slaws_eqDialedS_r4) (.cond 5 (.skip) (.exit 0))) (.seq (.block 1 (.seq (.reg slaws_eqDialedS_r5) (.cond 6 (.seq (.reg slaws_eqDialedS_r6) (.ret)) (.skip)))) (.reg slaws_eqDialedS_r7)))))) (.seq (.reg slaws_eqDialedS_r8) (.ret))))
def slaws_eqDialedS : SFn := { nslots := 7, nobjs := 0, params := [0, 1], ngiven := 0, bor := false, takes := [], body := slaws_eqDialedS_b, results := [.slot 2] }
def slaws_eqDialedS_t : List Tmp := [0, 1, 4, 5, 10, 14, 26]
attribute [simp] slaws_eqDialedS_r0 slaws_eqDialedS_r1 slaws_eqDialedS_r2 slaws_eqDialedS_r3 slaws_eqDialedS_r4 slaws_eqDialedS_r5 slaws_eqDialedS_r6 slaws_eqDialedS_r7 slaws_eqDialedS_r8 slaws_eqDialedS_b slaws_eqDialedS
def slaws_eqLoggedS_r0 : Reg :=
  { id := 0, ops := [{ op := .mv (.con (.sc (.bool false))) }], clr := [2] }
def slaws_eqLoggedS_r1 : Reg :=
  { id := 1, ops := [{ op := .mv (.slot 0) },
      { op := .len false (.loc 0) },
      { op := .mv (.slot 1) },
      { op := .len false (.loc 2) },
      { op := .bin .neq (.loc 1) (.loc 3) }], sets := [(4, 4)] }
def slaws_eqLoggedS_r2 : Reg :=
  { id := 2, ops := [{ op := .mv (.con (.sc (.bool false))) }], sets := [(2, 0)], clr := [0, 1] }
def slaws_eqLoggedS_r3 : Reg :=
  { id := 3, ops := [{ op := .mv (.con (.sc (.int .i64 0))) }], sets := [(3, 0)] }
def slaws_eqLoggedS_r4 : Reg :=
  { id := 4, ops := [{ op := .mv (.slot 3) },
      { op := .mv (.slot 0) },
      { op := .len false (.loc 1) },
      { op := .bin .lss (.loc 0) (.loc 2) }], sets := [(5, 3)] }
def slaws_eqLoggedS_r5 : Reg :=
  { id := 6, draw := true, ops := [{ op := .mv (.slot 0), tau := some [], om := [] },
      { op := .mv (.slot 3), tau := some [], om := [] },
      { op := .indexAddr 8 (.loc 0) (.loc 1), tau := some [], om := [] },
      { op := .load (some 8) (.loc 2), tau := some [], om := [] },
      { op := .mv (.slot 1), tau := some [], om := [] },
      { op := .mv (.slot 3), tau := some [], om := [] },
      { op := .indexAddr 8 (.loc 4) (.loc 5), tau := some [], om := [] },
      { op := .load (some 8) (.loc 6), tau := some [], om := [] },
      { op := .call 136 [(false, .loc 3), (false, .loc 7)] [], tau := some [], om := [] },
      { op := .un .not (.loc 8), tau := some [], om := [] }], sets := [(6, 9)] }
def slaws_eqLoggedS_r6 : Reg :=
  { id := 7, ops := [{ op := .mv (.con (.sc (.bool false))) }], sets := [(2, 0)], clr := [0, 1, 3] }
def slaws_eqLoggedS_r7 : Reg :=
  { id := 5, ops := [{ op := .mv (.slot 3) },
      { op := .bin .add (.loc 0) (.con (.sc (.int .i64 1))) },
      { op := .mv (.loc 1) }], sets := [(3, 2)] }
def slaws_eqLoggedS_r8 : Reg :=
  { id := 8, ops := [{ op := .mv (.con (.sc (.bool true))) }], sets := [(2, 0)], clr := [0, 1, 3] }
def slaws_eqLoggedS_b : SC := .seq (.reg slaws_eqLoggedS_r0) (.seq (.seq (.reg slaws_eqLoggedS_r1) (.cond 4 (.seq (.reg slaws_eqLoggedS_r2) (.ret)) (.skip))) (.seq (.seq (.reg slaws_eqLoggedS_r3) (.block 0 (.loop (.seq (.seq (.reg slaws_eqLoggedS_r4) (.cond 5 (.skip) (.exit 0))) (.seq (.block 1 (.seq (.reg slaws_eqLoggedS_r5) (.cond 6 (.seq (.reg slaws_eqLoggedS_r6) (.ret)) (.skip)))) (.reg slaws_eqLoggedS_r7)))))) (.seq (.reg slaws_eqLoggedS_r8) (.ret))))
def slaws_eqLoggedS : SFn := { nslots := 7, nobjs := 0, params := [0, 1], ngiven := 0, bor := false, takes := [], body := slaws_eqLoggedS_b, results := [.slot 2] }
def slaws_eqLoggedS_t : List Tmp := [0, 1, 4, 5, 10, 14, 26]
attribute [simp] slaws_eqLoggedS_r0 slaws_eqLoggedS_r1 slaws_eqLoggedS_r2 slaws_eqLoggedS_r3 slaws_eqLoggedS_r4 slaws_eqLoggedS_r5 slaws_eqLoggedS_r6 slaws_eqLoggedS_r7 slaws_eqLoggedS_r8 slaws_eqLoggedS_b slaws_eqLoggedS
def slaws_szEndpoint_r0 : Reg :=
  { id := 0, ops := [{ op := .box 0 (.slot 0) },
      { op := .mv (.con (.sc (.int .i64 0))) }], sets := [(2, 0)], clr := [0, 3] }
def slaws_szEndpoint_r1 : Reg :=
  { id := 1, ops := [{ op := .fieldAddr (.slot 2) 0 },
      { op := .load none (.loc 0) },
      { op := .mv (.slot 1) },
      { op := .call 16 [(false, .loc 1), (false, .loc 2)] [] },
      { op := .mv (.loc 3) }], sets := [(1, 4)] }
def slaws_szEndpoint_r2 : Reg :=
  { id := 2, ops := [{ op := .mv (.slot 1) },
      { op := .bin .lss (.loc 0) (.con (.sc (.int .i64 0))) }], sets := [(4, 1)] }
def slaws_szEndpoint_r3 : Reg :=
  { id := 3, ops := [{ op := .mv (.con (.sc (.int .i64 (-1)))) }], sets := [(3, 0)], clr := [1, 2] }
def slaws_szEndpoint_r4 : Reg :=
  { id := 4, ops := [{ op := .fieldAddr (.slot 2) 1 },
      { op := .load none (.loc 0) },
      { op := .mv (.slot 1) },
      { op := .call 16 [(false, .loc 1), (false, .loc 2)] [] },
      { op := .mv (.loc 3) }], sets := [(1, 4)] }
def slaws_szEndpoint_r5 : Reg :=
  { id := 5, ops := [{ op := .mv (.slot 1) },
      { op := .bin .lss (.loc 0) (.con (.sc (.int .i64 0))) }], sets := [(5, 1)] }
def slaws_szEndpoint_r6 : Reg :=
  { id := 6, ops := [{ op := .mv (.con (.sc (.int .i64 (-1)))) }], sets := [(3, 0)], clr := [1, 2] }
def slaws_szEndpoint_r7 : Reg :=
  { id := 7, ops := [{ op := .fieldAddr (.slot 2) 2 },
      { op := .load none (.loc 0) },
      { op := .mv (.slot 1) },
      { op := .call 139 [(false, .loc 1), (false, .loc 2)] [] },
      { op := .mv (.loc 3) }], sets := [(1, 4)], clr := [2] }
def slaws_szEndpoint_r8 : Reg :=
  { id := 8, ops := [{ op := .mv (.slot 1) },
      { op := .bin .lss (.loc 0) (.con (.sc (.int .i64 0))) }], sets := [(6, 1)] }
def slaws_szEndpoint_r9 : Reg :=
  { id := 9, ops := [{ op := .mv (.con (.sc (.int .i64 (-1)))) }], sets := [(3, 0)], clr := [1] }
def slaws_szEndpoint_r10 : Reg :=
  { id := 10, ops := [{ op := .mv (.slot 1) },
      { op := .mv (.loc 0) }], sets := [(3, 1)], clr := [1] }
def slaws_szEndpoint_b : SC := .seq (.reg slaws_szEndpoint_r0) (.seq (.reg slaws_szEndpoint_r1) (.seq (.seq (.reg slaws_szEndpoint_r2) (.cond 4 (.seq (.reg slaws_szEndpoint_r3) (.ret)) (.skip))) (.seq (.reg slaws_szEndpoint_r4) (.seq (.seq (.reg slaws_szEndpoint_r5) (.cond 5 (.seq (.reg slaws_szEndpoint_r6) (.ret)) (.skip))) (.seq (.reg slaws_szEndpoint_r7) (.seq (.seq (.reg slaws_szEndpoint_r8) (.cond 6 (.seq (.reg slaws_szEndpoint_r9) (.ret)) (.skip))) (.seq (.reg slaws_szEndpoint_r10) (.ret))))))))
def slaws_szEndpoint : SFn := { nslots := 7, nobjs := 1, params := [0, 1], ngiven := 0, bor := false, takes := [], body := slaws_szEndpoint_b, results := [.slot 3] }
def slaws_szEndpoint_t : List Tmp := [0, 1, 2, 4, 10, 16, 22]
attribute [simp] slaws_szEndpoint_r0 slaws_szEndpoint_r1 slaws_szEndpoint_r2 slaws_szEndpoint_r3 slaws_szEndpoint_r4 slaws_szEndpoint_r5 slaws_szEndpoint_r6 slaws_szEndpoint_r7 slaws_szEndpoint_r8 slaws_szEndpoint_r9 slaws_szEndpoint_r10 slaws_szEndpoint_b slaws_szEndpoint
def slaws_szLogged_r0 : Reg :=
  { id := 0, ops := [{ op := .box 0 (.slot 0) },
      { op := .mv (.con (.sc (.int .i64 0))) }], sets := [(2, 0)], clr := [0, 3] }
def slaws_szLogged_r1 : Reg :=
  { id := 1, ops := [{ op := .fieldAddr (.slot 2) 3 },
      { op := .load (some 5) (.loc 0) },
      { op := .mv (.slot 1) },
      { op := .call 63 [(false, .loc 1), (false, .loc 2)] [] },
      { op := .mv (.loc 3) }], sets := [(1, 4)], clr := [2] }
def slaws_szLogged_r2 : Reg :=
  { id := 2, ops := [{ op := .mv (.slot 1) },
      { op := .bin .lss (.loc 0) (.con (.sc (.int .i64 0))) }], sets := [(4, 1)] }
def slaws_szLogged_r3 : Reg :=
  { id := 3, ops := [{ op := .mv (.con (.sc (.int .i64 (-1)))) }], sets := [(3, 0)], clr := [1] }
def slaws_szLogged_r4 : Reg :=
  { id := 4, ops := [{ op := .mv (.slot 1) },
      { op := .mv (.loc 0) }], sets := [(3, 1)], clr := [1] }
def slaws_szLogged_b : SC := .seq (.reg slaws_szLogged_r0) (.seq (.reg slaws_szLogged_r1) (.seq (.seq (.reg slaws_szLogged_r2) (.cond 4 (.seq (.reg slaws_szLogged_r3) (.ret)) (.skip))) (.seq (.reg slaws_szLogged_r4) (.ret))))
def slaws_szLogged : SFn := { nslots := 5, nobjs := 1, params := [0, 1], ngiven := 0, bor := false, takes := [], body := slaws_szLogged_b, results := [.slot 3] }
def slaws_szLogged_t : List Tmp := [0, 1, 2, 4, 10]
attribute [simp] slaws_szLogged_r0 slaws_szLogged_r1 slaws_szLogged_r2 slaws_szLogged_r3 slaws_szLogged_r4 slaws_szLogged_b slaws_szLogged
def slaws_toEndpoint_r0 : Reg :=
  { id := 0, ops := [{ op := .box 0 (.slot 0) },
      { op := .alloc 1 [.nil 1, .nil 1, .nil 4, .sc (.int .i64 0)] }], sets := [(1, 0), (2, 1)], clr := [0] }
def slaws_toEndpoint_r1 : Reg :=
  { id := 1, ops := [{ op := .alloc 2 [.nil 1, .nil 1, .nil 4, .sc (.int .i64 0)] }], sets := [(3, 0)] }
def slaws_toEndpoint_r2 : Reg :=
  { id := 2, ops := [{ op := .fieldAddr (.slot 1) 0 },
      { op := .load none (.loc 0) },
      { op := .call 31 [(false, .loc 1)] [3] },
      { op := .fieldAddr (.slot 3) 0 },
      { op := .store 1 (.loc 3) (.loc 2) }] }
def slaws_toEndpoint_r3 : Reg :=
  { id := 3, ops := [{ op := .fieldAddr (.slot 1) 1 },
      { op := .load none (.loc 0) },
      { op := .call 31 [(false, .loc 1)] [4] },
      { op := .fieldAddr (.slot 3) 1 },
      { op := .store 1 (.loc 3) (.loc 2) }] }
def slaws_toEndpoint_r4 : Reg :=
  { id := 4, ops := [{ op := .fieldAddr (.slot 1) 2 },
      { op := .load none (.loc 0) },
      { op := .call 170 [(false, .loc 1)] [5] },
      { op := .fieldAddr (.slot 3) 2 },
      { op := .store 1 (.loc 3) (.loc 2) }] }
def slaws_toEndpoint_r5 : Reg :=
  { id := 5, ops := [{ op := .fieldAddr (.slot 1) 3 },
      { op := .load none (.loc 0) },
      { op := .fieldAddr (.slot 3) 3 },
      { op := .store 1 (.loc 2) (.loc 1) }], clr := [1] }
def slaws_toEndpoint_r6 : Reg :=
  { id := 6, ops := [{ op := .load (some 4) (.slot 3) },
      { op := .store 4 (.slot 2) (.loc 0) }], clr := [3] }
def slaws_toEndpoint_b : SC := .seq (.reg slaws_toEndpoint_r0) (.seq (.reg slaws_toEndpoint_r1) (.seq (.reg slaws_toEndpoint_r2) (.seq (.reg slaws_toEndpoint_r3) (.seq (.reg slaws_toEndpoint_r4) (.seq (.reg slaws_toEndpoint_r5) (.seq (.reg slaws_toEndpoint_r6) (.ret)))))))
def slaws_toEndpoint : SFn := { nslots := 4, nobjs := 6, params := [0], ngiven := 0, bor := false, takes := [], body := slaws_toEndpoint_b, results := [.cell 2 (some 4)] }
def slaws_toEndpoint_t : List Tmp := [0, 1, 2, 3]
attribute [simp] slaws_toEndpoint_r0 slaws_toEndpoint_r1 slaws_toEndpoint_r2 slaws_toEndpoint_r3 slaws_toEndpoint_r4 slaws_toEndpoint_r5 slaws_toEndpoint_r6 slaws_toEndpoint_b slaws_toEndpoint
def slaws_toLogged_r0 : Reg :=
  { id := 0, ops := [{ op := .box 0 (.slot 0) },
      { op := .alloc 1 [.sc (.int .i64 0), .sc (.int .i64 0), .sc (.bool false), .sc (.bool false), .sc (.int .i64 0), .nil 1, .sc (.int .i64 0), .nil 1] }], sets := [(1, 0), (2, 1)], clr := [0] }
def slaws_toLogged_r1 : Reg :=
  { id := 1, ops := [{ op := .alloc 2 [.sc (.int .i64 0), .sc (.int .i64 0), .sc (.bool false), .sc (.bool false), .sc (.int .i64 0), .nil 1, .sc (.int .i64 0), .nil 1] }], sets := [(3, 0)] }
def slaws_toLogged_r2 : Reg :=
  { id := 2, ops := [{ op := .fieldAddr (.slot 1) 0 },
      { op := .load none (.loc 0) },
      { op := .fieldAddr (.slot 3) 0 },
      { op := .store 1 (.loc 2) (.loc 1) }] }
def slaws_toLogged_r3 : Reg :=
  { id := 3, ops := [{ op := .fieldAddr (.slot 1) 1 },
      { op := .load none (.loc 0) },
      { op := .fieldAddr (.slot 3) 1 },
      { op := .store 1 (.loc 2) (.loc 1) }] }
def slaws_toLogged_r4 : Reg :=
  { id := 4, ops := [{ op := .fieldAddr (.slot 1) 2 },
      { op := .load none (.loc 0) },
      { op := .fieldAddr (.slot 3) 2 },
      { op := .store 1 (.loc 2) (.loc 1) }] }
def slaws_toLogged_r5 : Reg :=
  { id := 5, ops := [{ op := .fieldAddr (.slot 1) 3 },
      { op := .load (some 5) (.loc 0) },
      { op := .call 99 [(false, .loc 1)] [3, 4] },
      { op := .fieldAddr (.slot 3) 3 },
      { op := .store 5 (.loc 3) (.loc 2) }], clr := [1] }
def slaws_toLogged_r6 : Reg :=
  { id := 6, ops := [{ op := .load (some 8) (.slot 3) },
      { op := .store 8 (.slot 2) (.loc 0) }], clr := [3] }
def slaws_toLogged_b : SC := .seq (.reg slaws_toLogged_r0) (.seq (.reg slaws_toLogged_r1) (.seq (.reg slaws_toLogged_r2) (.seq (.reg slaws_toLogged_r3) (.seq (.reg slaws_toLogged_r4) (.seq (.reg slaws_toLogged_r5) (.seq (.reg slaws_toLogged_r6) (.ret)))))))
def slaws_toLogged : SFn := { nslots := 4, nobjs := 5, params := [0], ngiven := 0, bor := false, takes := [], body := slaws_toLogged_b, results := [.cell 2 (some 8)] }
def slaws_toLogged_t : List Tmp := [0, 1, 2, 3]
attribute [simp] slaws_toLogged_r0 slaws_toLogged_r1 slaws_toLogged_r2 slaws_toLogged_r3 slaws_toLogged_r4 slaws_toLogged_r5 slaws_toLogged_r6 slaws_toLogged_b slaws_toLogged
def slaws_eqLogged_r0 : Reg :=
  { id := 0, ops := [{ op := .box 0 (.slot 0) },
      { op := .box 1 (.slot 1) },
      { op := .mv (.con (.sc (.bool false))) }], sets := [(2, 0), (3, 1)], clr := [0, 1, 4] }
def slaws_eqLogged_r1 : Reg :=
  { id := 1, ops := [{ op := .fieldAddr (.slot 2) 0 },
      { op := .load none (.loc 0) },
      { op := .fieldAddr (.slot 3) 0 },
      { op := .load none (.loc 2) },
      { op := .bin .neq (.loc 1) (.loc 3) }], sets := [(5, 4)] }
def slaws_eqLogged_r2 : Reg :=
  { id := 2, ops := [{ op := .mv (.con (.sc (.bool false))) }], sets := [(4, 0)], clr := [2, 3] }
def slaws_eqLogged_r3 : Reg :=
  { id := 3, ops := [{ op := .fieldAddr (.slot 2) 1 },
      { op := .load none (.loc 0) },
      { op := .fieldAddr (.slot 3) 1 },
      { op := .load none (.loc 2) },
      { op := .bin .neq (.loc 1) (.loc 3) }], sets := [(6, 4)] }
def slaws_eqLogged_r4 : Reg :=
  { id := 4, ops := [{ op := .mv (.con (.sc (.bool false))) }], sets := [(4, 0)], clr := [2, 3] }
def slaws_eqLogged_r5 : Reg :=
  { id := 5, ops := [{ op := .fieldAddr (.slot 2) 2 },
      { op := .load none (.loc 0) },
      { op := .fieldAddr (.slot 3) 2 },
      { op := .load none (.loc 2) },
      { op := .beq true (.loc 1) (.loc 3) }], sets := [(7, 4)] }
def slaws_eqLogged_r6 : Reg :=
  { id := 6, ops := [{ op := .mv (.con (.sc (.bool false))) }], sets := [(4, 0)], clr := [2, 3] }
def slaws_eqLogged_r7 : Reg :=
  { id := 7, ops := [{ op := .fieldAddr (.slot 2) 3 },
      { op := .load (some 5) (.loc 0) },
      { op := .fieldAddr (.slot 3) 3 },
      { op := .load (some 5) (.loc 2) },
      { op := .call 135 [(false, .loc 1), (false, .loc 3)] [] },
      { op := .un .not (.loc 4) }], sets := [(8, 5)], clr := [2, 3] }
def slaws_eqLogged_r8 : Reg :=
  { id := 8, ops := [{ op := .mv (.con (.sc (.bool false))) }], sets := [(4, 0)] }
def slaws_eqLogged_r9 : Reg :=
  { id := 9, ops := [{ op := .mv (.con (.sc (.bool true))) }], sets := [(4, 0)] }
def slaws_eqLogged_b : SC := .seq (.reg slaws_eqLogged_r0) (.seq (.seq (.reg slaws_eqLogged_r1) (.cond 5 (.seq (.reg slaws_eqLogged_r2) (.ret)) (.skip))) (.seq (.seq (.reg slaws_eqLogged_r3) (.cond 6 (.seq (.reg slaws_eqLogged_r4) (.ret)) (.skip))) (.seq (.seq (.reg slaws_eqLogged_r5) (.cond 7 (.seq (.reg slaws_eqLogged_r6) (.ret)) (.skip))) (.seq (.seq (.reg slaws_eqLogged_r7) (.cond 8 (.seq (.reg slaws_eqLogged_r8) (.ret)) (.skip))) (.seq (.reg slaws_eqLogged_r9) (.ret))))))
def slaws_eqLogged : SFn := { nslots := 9, nobjs := 2, params := [0, 1], ngiven := 0, bor := false, takes := [], body := slaws_eqLogged_b, results := [.slot 4] }
def slaws_eqLogged_t : List Tmp := [0, 1, 2, 3, 4, 9, 14, 19, 25]
attribute [simp] slaws_eqLogged_r0 slaws_eqLogged_r1 slaws_eqLogged_r2 slaws_eqLogged_r3 slaws_eqLogged_r4 slaws_eqLogged_r5 slaws_eqLogged_r6 slaws_eqLogged_r7 slaws_eqLogged_r8 slaws_eqLogged_r9 slaws_eqLogged_b slaws_eqLogged
def slaws_szBoxS_r0 : Reg :=
  { id := 0, ops := [{ op := .mv (.con (.sc (.int .i64 0))) }], clr := [2] }
def slaws_szBoxS_r1 : Reg :=
  { id := 1, ops := [{ op := .mv (.slot 1) },
      { op := .mv (.slot 0) },
      { op := .len false (.loc 1) },
      { op := .bin .sub (.loc 0) (.loc 2) },
      { op := .mv (.loc 3) }], sets := [(1, 4)] }
def slaws_szBoxS_r2 : Reg :=
  { id := 2, ops := [{ op := .mv (.slot 1) },
      { op := .bin .lss (.loc 0) (.con (.sc (.int .i64 0))) }], sets := [(4, 1)] }
def slaws_szBoxS_r3 : Reg :=
  { id := 3, ops := [{ op := .mv (.con (.sc (.int .i64 (-1)))) }], sets := [(2, 0)], clr := [0, 1] }
def slaws_szBoxS_r4 : Reg :=
  { id := 4, ops := [{ op := .mv (.con (.sc (.int .i64 0))) }], sets := [(3, 0)] }
def slaws_szBoxS_r5 : Reg :=
  { id := 5, ops := [{ op := .mv (.slot 3) },
      { op := .mv (.slot 0) },
      { op := .len false (.loc 1) },
      { op := .bin .lss (.loc 0) (.loc 2) }], sets := [(5, 3)] }
def slaws_szBoxS_r6 : Reg :=
  { id := 7, ops := [{ op := .mv (.slot 0) },
      { op := .mv (.slot 3) },
      { op := .indexAddr 4 (.loc 0) (.loc 1) },
      { op := .load (some 4) (.loc 2) },
      { op := .mv (.slot 1) },
      { op := .call 206 [(false, .loc 3), (false, .loc 4)] [] },
      { op := .mv (.loc 5) }], sets := [(1, 6)] }
def slaws_szBoxS_r7 : Reg :=
  { id := 8, ops := [{ op := .mv (.slot 1) },
      { op := .bin .lss (.loc 0) (.con (.sc (.int .i64 0))) }], sets := [(6, 1)] }
def slaws_szBoxS_r8 : Reg :=
  { id := 9, ops := [{ op := .mv (.con (.sc (.int .i64 (-1)))) }], sets := [(2, 0)], clr := [0, 1, 3] }
def slaws_szBoxS_r9 : Reg :=
  { id := 6, ops := [{ op := .mv (.slot 3) },
      { op := .bin .add (.loc 0) (.con (.sc (.int .i64 1))) },
      { op := .mv (.loc 1) }], sets := [(3, 2)] }
def slaws_szBoxS_r10 : Reg :=
  { id := 10, ops := [{ op := .mv (.slot 1) },
      { op := .mv (.loc 0) }], sets := [(2, 1)], clr := [0, 1, 3] }
def slaws_szBoxS_b : SC := .seq (.reg slaws_szBoxS_r0) (.seq (.reg slaws_szBoxS_r1) (.seq (.seq (.reg slaws_szBoxS_r2) (.cond 4 (.seq (.reg slaws_szBoxS_r3) (.ret)) (.skip))) (.seq (.seq (.reg slaws_szBoxS_r4) (.block 0 (.loop (.seq (.seq (.reg slaws_szBoxS_r5) (.cond 5 (.skip) (.exit 0))) (.seq (.block 1 (.seq (.reg slaws_szBoxS_r6) (.seq (.reg slaws_szBoxS_r7) (.cond 6 (.seq (.reg slaws_szBoxS_r8) (.ret)) (.skip))))) (.reg slaws_szBoxS_r9)))))) (.seq (.reg slaws_szBoxS_r10) (.ret)))))
def slaws_szBoxS : SFn := { nslots := 7, nobjs := 0, params := [0, 1], ngiven := 0, bor := false, takes := [], body := slaws_szBoxS_b, results := [.slot 2] }
def slaws_szBoxS_t : List Tmp := [0, 1, 4, 5, 11, 15, 25]
attribute [simp] slaws_szBoxS_r0 slaws_szBoxS_r1 slaws_szBoxS_r2 slaws_szBoxS_r3 slaws_szBoxS_r4 slaws_szBoxS_r5 slaws_szBoxS_r6 slaws_szBoxS_r7 slaws_szBoxS_r8 slaws_szBoxS_r9 slaws_szBoxS_r10 slaws_szBoxS_b slaws_szBoxS
def slaws_toBoxS_r0 : Reg :=
  { id := 0, ops := [{ op := .mv (.con (.nil 4)) }], clr := [1] }
def slaws_toBoxS_r1 : Reg :=
  { id := 1, ops := [{ op := .mv (.slot 0) },
      { op := .len false (.loc 0) },
      { op := .makeSlice 0 4 64 [.sc (.int .i64 0), .sl 0 1 0 [], .sl 0 1 0 [], .sc (.bool false)] (.loc 1) },
      { op := .mv (.loc 2) }], sets := [(2, 3)] }
def slaws_toBoxS_r2 : Reg :=
  { id := 2, ops := [{ op := .mv (.con (.sc (.int .i64 0))) }], sets := [(3, 0)] }
def slaws_toBoxS_r3 : Reg :=
  { id := 3, ops := [{ op := .mv (.slot 3) },
      { op := .mv (.slot 0) },
      { op := .len false (.loc 1) },
      { op := .bin .lss (.loc 0) (.loc 2) }], sets := [(4, 3)] }
def slaws_toBoxS_r4 : Reg :=
  { id := 5, fresh := [1, 2], ops := [{ op := .mv (.slot 2) },
      { op := .mv (.slot 3) },
      { op := .mv (.slot 0) },
      { op := .mv (.slot 3) },
      { op := .indexAddr 4 (.loc 2) (.loc 3) },
      { op := .load (some 4) (.loc 4) },
      { op := .call 226 [(false, .loc 5)] [1, 2] },
      { op := .indexAddr 4 (.loc 0) (.loc 1) },
      { op := .store 4 (.loc 7) (.loc 6) }] }
def slaws_toBoxS_r5 : Reg :=
  { id := 4, ops := [{ op := .mv (.slot 3) },
      { op := .bin .add (.loc 0) (.con (.sc (.int .i64 1))) },
      { op := .mv (.loc 1) }], sets := [(3, 2)] }
def slaws_toBoxS_r6 : Reg :=
  { id := 6, ops := [{ op := .mv (.slot 2) },
      { op := .mv (.loc 0) }], sets := [(1, 1)], clr := [0, 2, 3] }
def slaws_toBoxS_b : SC := .seq (.reg slaws_toBoxS_r0) (.seq (.reg slaws_toBoxS_r1) (.seq (.seq (.reg slaws_toBoxS_r2) (.block 0 (.loop (.seq (.seq (.reg slaws_toBoxS_r3) (.cond 4 (.skip) (.exit 0))) (.seq (.block 1 (.reg slaws_toBoxS_r4)) (.reg slaws_toBoxS_r5)))))) (.seq (.reg slaws_toBoxS_r6) (.ret))))
def slaws_toBoxS : SFn := { nslots := 5, nobjs := 3, params := [0], ngiven := 0, bor := false, takes := [], body := slaws_toBoxS_b, results := [.slot 1] }
def slaws_toBoxS_t : List Tmp := [0, 2, 3, 4, 11]
attribute [simp] slaws_toBoxS_r0 slaws_toBoxS_r1 slaws_toBoxS_r2 slaws_toBoxS_r3 slaws_toBoxS_r4 slaws_toBoxS_r5 slaws_toBoxS_r6 slaws_toBoxS_b slaws_toBoxS
def sspec_l37Bad_r0 : Reg :=
  { id := 0, ops := [{ op := .box 0 (.slot 0) },
      { op := .box 1 (.slot 1) },
      { op := .mv (.con (.sc (.bool false))) }], sets := [(2, 0), (3, 1)], clr := [0, 1, 4] }
def sspec_l37Bad_r1 : Reg :=
  { id := 1, ops := [{ op := .fieldAddr (.slot 3) 2 },
      { op := .load none (.loc 0) },
      { op := .mv (.loc 1) },
      { op := .fieldAddr (.slot 3) 3, guard := some (2, true) },
      { op := .load (some 5) (.loc 3), guard := some (2, true) },
      { op := .fieldAddr (.slot 2) 4, guard := some (2, true) },
      { op := .fieldAddr (.loc 5) 0, guard := some (2, true) },
      { op := .load none (.loc 6), guard := some (2, true) },
      { op := .call 144 [(false, .loc 4), (false, .loc 7)] [], guard := some (2, true) },
      { op := .pick (.loc 2) (.loc 8) (.con (.sc (.bool false))) },
      { op := .mv (.loc 9) }], sets := [(4, 10)], clr := [2, 3] }
def sspec_l37Bad_b : SC := .seq (.reg sspec_l37Bad_r0) (.seq (.reg sspec_l37Bad_r1) (.ret))
def sspec_l37Bad : SFn := { nslots := 5, nobjs := 2, params := [0, 1], ngiven := 0, bor := false, takes := [], body := sspec_l37Bad_b, results := [.slot 4] }
def sspec_l37Bad_t : List Tmp := [0, 1, 2, 3, 4]
attribute [simp] sspec_l37Bad_r0 sspec_l37Bad_r1 sspec_l37Bad_b sspec_l37Bad
def simpl_isHurt_r0 : Reg :=
  { id := 0, ops := [{ op := .box 0 (.slot 0) },
      { op := .box 1 (.slot 1) },
      { op := .mv (.con (.sc (.bool false))) }], sets := [(2, 0), (3, 1)], clr := [0, 1, 4] }
def simpl_isHurt_r1 : Reg :=
  { id := 1, ops := [{ op := .fieldAddr (.slot 3) 2 },
      { op := .load none (.loc 0) },
      { op := .mv (.loc 1) },
      { op := .fieldAddr (.slot 3) 3, guard := some (2, true) },
      { op := .load (some 5) (.loc 3), guard := some (2, true) },
      { op := .fieldAddr (.slot 2) 4, guard := some (2, true) },
      { op := .fieldAddr (.loc 5) 0, guard := some (2, true) },
      { op := .load none (.loc 6), guard := some (2, true) },
      { op := .call 175 [(false, .loc 4), (false, .loc 7)] [], guard := some (2, true) },
      { op := .pick (.loc 2) (.loc 8) (.con (.sc (.bool false))) },
      { op := .mv (.loc 9) }], sets := [(4, 10)], clr := [2, 3] }
def simpl_isHurt_b : SC := .seq (.reg simpl_isHurt_r0) (.seq (.reg simpl_isHurt_r1) (.ret))
def simpl_isHurt : SFn := { nslots := 5, nobjs := 2, params := [0, 1], ngiven := 0, bor := false, takes := [], body := simpl_isHurt_b, results := [.slot 4] }
def simpl_isHurt_t : List Tmp := [0, 1, 2, 3, 4]
attribute [simp] simpl_isHurt_r0 simpl_isHurt_r1 simpl_isHurt_b simpl_isHurt
def sspec_CountIn_r0 : Reg :=
  { id := 0, ops := [{ op := .box 0 (.slot 0) },
      { op := .mv (.con (.sc (.int .i64 0))) }], sets := [(2, 0)], clr := [0, 3] }
def sspec_CountIn_r1 : Reg :=
  { id := 1, ops := [{ op := .load (some 4) (.slot 2) },
      { op := .call 145 [(false, .loc 0)] [] },
      { op := .un .not (.loc 1) },
      { op := .mv (.loc 2) },
      { op := .fieldAddr (.slot 2) 3, guard := some (3, false) },
      { op := .load none (.loc 4), guard := some (3, false) },
      { op := .pick (.loc 3) (.con (.sc (.bool true))) (.loc 5) },
      { op := .mv (.loc 6) },
      { op := .mv (.slot 1), guard := some (7, false) },
      { op := .call 71 [(false, .loc 8), (false, .con (.sc (.int .i64 0))), (false, .con (.sc (.int .i64 10000)))] [], guard := some (7, false) },
      { op := .un .not (.loc 9), guard := some (7, false) },
      { op := .pick (.loc 7) (.con (.sc (.bool true))) (.loc 10) }], sets := [(4, 11)] }
def sspec_CountIn_r2 : Reg :=
  { id := 2, ops := [{ op := .mv (.con (.sc (.int .i64 0))) }], sets := [(3, 0)], clr := [1, 2] }
def sspec_CountIn_r3 : Reg :=
  { id := 3, ops := [{ op := .mv (.slot 1) },
      { op := .fieldAddr (.slot 2) 1 },
      { op := .load none (.loc 1) },
      { op := .fieldAddr (.slot 2) 2 },
      { op := .load none (.loc 3) },
      { op := .indexAddr 1 (.loc 2) (.loc 4) },
      { op := .load none (.loc 5) },
      { op := .bin .mul (.loc 0) (.loc 6) },
      { op := .call 284 [(false, .loc 7), (false, .con (.sc (.int .i64 100)))] [] },
      { op := .mv (.loc 8) }], sets := [(3, 9)], clr := [1, 2] }
def sspec_CountIn_b : SC := .seq (.reg sspec_CountIn_r0) (.seq (.seq (.reg sspec_CountIn_r1) (.cond 4 (.seq (.reg sspec_CountIn_r2) (.ret)) (.skip))) (.seq (.reg sspec_CountIn_r3) (.ret)))
def sspec_CountIn : SFn := { nslots := 5, nobjs := 1, params := [0, 1], ngiven := 0, bor := false, takes := [], body := sspec_CountIn_b, results := [.slot 3] }
def sspec_CountIn_t : List Tmp := [0, 1, 2, 4, 16]
attribute [simp] sspec_CountIn_r0 sspec_CountIn_r1 sspec_CountIn_r2 sspec_CountIn_r3 sspec_CountIn_b sspec_CountIn
def simpl_CountIn_r0 : Reg :=
  { id := 0, ops := [{ op := .box 0 (.slot 0) },
      { op := .mv (.con (.sc (.int .i64 0))) }], sets := [(2, 0)], clr := [0, 3] }
def simpl_CountIn_r1 : Reg :=
  { id := 1, ops := [{ op := .load (some 4) (.slot 2) },
      { op := .call 176 [(false, .loc 0)] [] },
      { op := .un .not (.loc 1) },
      { op := .mv (.loc 2) },
      { op := .fieldAddr (.slot 2) 3, guard := some (3, false) },
      { op := .load none (.loc 4), guard := some (3, false) },
      { op := .pick (.loc 3) (.con (.sc (.bool true))) (.loc 5) },
      { op := .mv (.loc 6) },
      { op := .mv (.slot 1), guard := some (7, false) },
      { op := .call 114 [(false, .loc 8), (false, .con (.sc (.int .i64 0))), (false, .con (.sc (.int .i64 10000)))] [], guard := some (7, false) },
      { op := .un .not (.loc 9), guard := some (7, false) },
      { op := .pick (.loc 7) (.con (.sc (.bool true))) (.loc 10) }], sets := [(4, 11)] }
def simpl_CountIn_r2 : Reg :=
  { id := 2, ops := [{ op := .mv (.con (.sc (.int .i64 0))) }], sets := [(3, 0)], clr := [1, 2] }
def simpl_CountIn_r3 : Reg :=
  { id := 3, ops := [{ op := .mv (.slot 1) },
      { op := .fieldAddr (.slot 2) 1 },
      { op := .load none (.loc 1) },
      { op := .fieldAddr (.slot 2) 2 },
      { op := .load none (.loc 3) },
      { op := .indexAddr 1 (.loc 2) (.loc 4) },
      { op := .load none (.loc 5) },
      { op := .bin .mul (.loc 0) (.loc 6) },
      { op := .call 291 [(false, .loc 7), (false, .con (.sc (.int .i64 100)))] [] },
      { op := .mv (.loc 8) }], sets := [(3, 9)], clr := [1, 2] }
def simpl_CountIn_b : SC := .seq (.reg simpl_CountIn_r0) (.seq (.seq (.reg simpl_CountIn_r1) (.cond 4 (.seq (.reg simpl_CountIn_r2) (.ret)) (.skip))) (.seq (.reg simpl_CountIn_r3) (.ret)))
def simpl_CountIn : SFn := { nslots := 5, nobjs := 1, params := [0, 1], ngiven := 0, bor := false, takes := [], body := simpl_CountIn_b, results := [.slot 3] }
def simpl_CountIn_t : List Tmp := [0, 1, 2, 4, 16]
attribute [simp] simpl_CountIn_r0 simpl_CountIn_r1 simpl_CountIn_r2 simpl_CountIn_r3 simpl_CountIn_b simpl_CountIn
def sspec_IsRollout_r0 : Reg :=
  { id := 0, ops := [{ op := .box 0 (.slot 0) },
      { op := .mv (.con (.sc (.bool false))) }], sets := [(1, 0)], clr := [0, 2] }
def sspec_IsRollout_r1 : Reg :=
  { id := 1, ops := [{ op := .mv (.con (.sc (.int .i64 0))) }], sets := [(3, 0)] }
def sspec_IsRollout_r2 : Reg :=
  { id := 2, ops := [{ op := .mv (.slot 3) },
      { op := .fieldAddr (.slot 1) 1 },
      { op := .load none (.loc 1) },
      { op := .len false (.loc 2) },
      { op := .bin .lss (.loc 0) (.loc 3) }], sets := [(4, 4)] }
def sspec_IsRollout_r3 : Reg :=
  { id := 4, draw := true, ops := [{ op := .fieldAddr (.slot 1) 1, tau := some [], om := [] },
      { op := .load none (.loc 0), tau := some [0], om := [] },
      { op := .mv (.slot 3), tau := some [], om := [] },
      { op := .indexAddr 1 (.loc 1) (.loc 2), tau := some [], om := [] },
      { op := .load none (.loc 3), tau := some [], om := [] },
      { op := .call 71 [(false, .loc 4), (false, .con (.sc (.int .i64 1))), (false, .con (.sc (.int .i64 100)))] [], tau := some [], om := [] },
      { op := .un .not (.loc 5), tau := some [], om := [] },
      { op := .mv (.loc 6), tau := some [], om := [] },
      { op := .mv (.slot 3), guard := some (7, false), tau := some [], om := [] },
      { op := .bin .gtr (.loc 8) (.con (.sc (.int .i64 0))), guard := some (7, false), tau := some [], om := [] },
      { op := .mv (.loc 9), guard := some (7, false), tau := some [], om := [] },
      { op := .fieldAddr (.slot 1) 1, guard := some (10, true), tau := some [], om := [] },
      { op := .load none (.loc 11), guard := some (10, true), tau := some [0], om := [] },
      { op := .mv (.slot 3), guard := some (10, true), tau := some [], om := [] },
      { op := .bin .sub (.loc 13) (.con (.sc (.int .i64 1))), guard := some (10, true), tau := some [], om := [] },
      { op := .indexAddr 1 (.loc 12) (.loc 14), guard := some (10, true), tau := some [], om := [] },
      { op := .load none (.loc 15), guard := some (10, true), tau := some [], om := [] },
      { op := .fieldAddr (.slot 1) 1, guard := some (10, true), tau := some [], om := [] },
      { op := .load none (.loc 17), guard := some (10, true), tau := some [0], om := [] },
      { op := .mv (.slot 3), guard := some (10, true), tau := some [], om := [] },
      { op := .indexAddr 1 (.loc 18) (.loc 19), guard := some (10, true), tau := some [], om := [] },
      { op := .load none (.loc 20), guard := some (10, true), tau := some [], om := [] },
      { op := .bin .geq (.loc 16) (.loc 21), guard := some (10, true), tau := some [], om := [] },
      { op := .pick (.loc 10) (.loc 22) (.con (.sc (.bool false))), guard := some (7, false), tau := some [], om := [] },
      { op := .pick (.loc 7) (.con (.sc (.bool true))) (.loc 23), tau := some [], om := [] }], sets := [(5, 24)] }
def sspec_IsRollout_r4 : Reg :=
  { id := 5, ops := [{ op := .mv (.con (.sc (.bool false))) }], sets := [(2, 0)], clr := [1, 3] }
def sspec_IsRollout_r5 : Reg :=
  { id := 3, ops := [{ op := .mv (.slot 3) },
      { op := .bin .add (.loc 0) (.con (.sc (.int .i64 1))) },
      { op := .mv (.loc 1) }], sets := [(3, 2)] }
def sspec_IsRollout_r6 : Reg :=
  { id := 6, ops := [{ op := .fieldAddr (.slot 1) 0 },
      { op := .load none (.loc 0) },
      { op := .call 71 [(false, .loc 1), (false, .con (.sc (.int .i64 1))), (false, .con (.sc (.int .i64 9)))] [] },
      { op := .mv (.loc 2) },
      { op := .fieldAddr (.slot 1) 1, guard := some (3, true) },
      { op := .load none (.loc 4), guard := some (3, true) },
      { op := .len false (.loc 5), guard := some (3, true) },
      { op := .call 71 [(false, .loc 6), (false, .con (.sc (.int .i64 1))), (false, .con (.sc (.int .i64 5)))] [], guard := some (3, true) },
      { op := .pick (.loc 3) (.loc 7) (.con (.sc (.bool false))) },
      { op := .mv (.loc 8) },
      { op := .fieldAddr (.slot 1) 1, guard := some (9, true) },
      { op := .load none (.loc 10), guard := some (9, true) },
      { op := .fieldAddr (.slot 1) 1, guard := some (9, true) },
      { op := .load none (.loc 12), guard := some (9, true) },
      { op := .len false (.loc 13), guard := some (9, true) },
      { op := .bin .sub (.loc 14) (.con (.sc (.int .i64 1))), guard := some (9, true) },
      { op := .indexAddr 1 (.loc 11) (.loc 15), guard := some (9, true) },
      { op := .load none (.loc 16), guard := some (9, true) },
      { op := .bin .eql (.loc 17) (.con (.sc (.int .i64 100))), guard := some (9, true) },
      { op := .pick (.loc 9) (.loc 18) (.con (.sc (.bool false))) },
      { op := .mv (.loc 19) },
      { op := .fieldAddr (.slot 1) 2, guard := some (20, true) },
      { op := .load none (.loc 21), guard := some (20, true) },
      { op := .fieldAddr (.slot 1) 1, guard := some (20, true) },
      { op := .load none (.loc 23), guard := some (20, true) },
      { op := .len false (.loc 24), guard := some (20, true) },
      { op := .bin .sub (.loc 25) (.con (.sc (.int .i64 1))), guard := some (20, true) },
      { op := .call 71 [(false, .loc 22), (false, .con (.sc (.int .i64 0))), (false, .loc 26)] [], guard := some (20, true) },
      { op := .pick (.loc 20) (.loc 27) (.con (.sc (.bool false))) },
      { op := .mv (.loc 28) }], sets := [(2, 29)], clr := [1, 3] }
def sspec_IsRollout_b : SC := .seq (.reg sspec_IsRollout_r0) (.seq (.seq (.reg sspec_IsRollout_r1) (.block 0 (.loop (.seq (.seq (.reg sspec_IsRollout_r2) (.cond 4 (.skip) (.exit 0))) (.seq (.block 1 (.seq (.reg sspec_IsRollout_r3) (.cond 5 (.seq (.reg sspec_IsRollout_r4) (.ret)) (.skip)))) (.reg sspec_IsRollout_r5)))))) (.seq (.reg sspec_IsRollout_r6) (.ret)))
def sspec_IsRollout : SFn := { nslots := 6, nobjs := 1, params := [0], ngiven := 0, bor := false, takes := [], body := sspec_IsRollout_b, results := [.slot 2] }
def sspec_IsRollout_t : List Tmp := [0, 1, 2, 3, 8, 35]
attribute [simp] sspec_IsRollout_r0 sspec_IsRollout_r1 sspec_IsRollout_r2 sspec_IsRollout_r3 sspec_IsRollout_r4 sspec_IsRollout_r5 sspec_IsRollout_r6 sspec_IsRollout_b sspec_IsRollout
def sspec_CeilDiv_r0 : Reg :=
  { id := 0, ops := [{ op := .mv (.con (.sc (.int .i64 0))) }], clr := [2] }
def sspec_CeilDiv_r1 : Reg :=
  { id := 1, ops := [{ op := .mv (.slot 0) },
      { op := .call 71 [(false, .loc 0), (false, .con (.sc (.int .i64 0))), (false, .con (.sc (.int .i64 1000000000000)))] [] },
      { op := .un .not (.loc 1) },
      { op := .mv (.loc 2) },
      { op := .mv (.slot 1), guard := some (3, false) },
      { op := .call 71 [(false, .loc 4), (false, .con (.sc (.int .i64 1))), (false, .con (.sc (.int .i64 1000000000000)))] [], guard := some (3, false) },
      { op := .un .not (.loc 5), guard := some (3, false) },
      { op := .pick (.loc 3) (.con (.sc (.bool true))) (.loc 6) }], sets := [(3, 7)] }
def sspec_CeilDiv_r2 : Reg :=
  { id := 2, ops := [{ op := .mv (.con (.sc (.int .i64 0))) }], sets := [(2, 0)], clr := [0, 1] }
def sspec_CeilDiv_r3 : Reg :=
  { id := 3, ops := [{ op := .mv (.slot 0) },
      { op := .mv (.slot 1) },
      { op := .bin .add (.loc 0) (.loc 1) },
      { op := .bin .sub (.loc 2) (.con (.sc (.int .i64 1))) },
      { op := .mv (.slot 1) },
      { op := .bin .quo (.loc 3) (.loc 4) },
      { op := .mv (.loc 5) }], sets := [(2, 6)], clr := [0, 1] }
def sspec_CeilDiv_b : SC := .seq (.reg sspec_CeilDiv_r0) (.seq (.seq (.reg sspec_CeilDiv_r1) (.cond 3 (.seq (.reg sspec_CeilDiv_r2) (.ret)) (.skip))) (.seq (.reg sspec_CeilDiv_r3) (.ret)))
def sspec_CeilDiv : SFn := { nslots := 4, nobjs := 0, params := [0, 1], ngiven := 0, bor := false, takes := [], body := sspec_CeilDiv_b, results := [.slot 2] }
def sspec_CeilDiv_t : List Tmp := [0, 1, 4, 12]
attribute [simp] sspec_CeilDiv_r0 sspec_CeilDiv_r1 sspec_CeilDiv_r2 sspec_CeilDiv_r3 sspec_CeilDiv_b sspec_CeilDiv
def simpl_IsRollout_r0 : Reg :=
  { id := 0, ops := [{ op := .box 0 (.slot 0) },
      { op := .mv (.con (.sc (.bool false))) }], sets := [(1, 0)], clr := [0, 2] }
def simpl_IsRollout_r1 : Reg :=
  { id := 1, ops := [{ op := .fieldAddr (.slot 1) 1 },
      { op := .load none (.loc 0) },
      { op := .len false (.loc 1) },
      { op := .mv (.con (.sc (.int .i64 0))) }], sets := [(5, 1), (6, 2), (7, 3)] }
def simpl_IsRollout_r2 : Reg :=
  { id := 2, ops := [{ op := .bin .lss (.slot 7) (.slot 6) }], sets := [(8, 0)] }
def simpl_IsRollout_r3 : Reg :=
  { id := 3, ops := [{ op := .mv (.slot 7) },
      { op := .indexAddr 1 (.slot 5) (.slot 7) },
      { op := .load none (.loc 1) },
      { op := .mv (.loc 0) },
      { op := .mv (.loc 2) }], sets := [(3, 3), (4, 4)] }
def simpl_IsRollout_r4 : Reg :=
  { id := 4, ops := [{ op := .mv (.slot 4) },
      { op := .call 114 [(false, .loc 0), (false, .con (.sc (.int .i64 1))), (false, .con (.sc (.int .i64 100)))] [] },
      { op := .un .not (.loc 1) },
      { op := .mv (.loc 2) },
      { op := .mv (.slot 3), guard := some (3, false) },
      { op := .bin .gtr (.loc 4) (.con (.sc (.int .i64 0))), guard := some (3, false) },
      { op := .mv (.loc 5), guard := some (3, false) },
      { op := .fieldAddr (.slot 1) 1, guard := some (6, true) },
      { op := .load none (.loc 7), guard := some (6, true) },
      { op := .mv (.slot 3), guard := some (6, true) },
      { op := .bin .sub (.loc 9) (.con (.sc (.int .i64 1))), guard := some (6, true) },
      { op := .indexAddr 1 (.loc 8) (.loc 10), guard := some (6, true) },
      { op := .load none (.loc 11), guard := some (6, true) },
      { op := .mv (.slot 4), guard := some (6, true) },
      { op := .bin .geq (.loc 12) (.loc 13), guard := some (6, true) },
      { op := .pick (.loc 6) (.loc 14) (.con (.sc (.bool false))), guard := some (3, false) },
      { op := .pick (.loc 3) (.con (.sc (.bool true))) (.loc 15) }], sets := [(9, 16)], clr := [3, 4] }
def simpl_IsRollout_r5 : Reg :=
  { id := 5, ops := [{ op := .mv (.con (.sc (.bool false))) }], sets := [(2, 0)], clr := [1, 5, 6, 7] }
def simpl_IsRollout_r6 : Reg :=
  { id := 6, ops := [{ op := .bin .add (.slot 7) (.con (.sc (.int .i64 1))) },
      { op := .mv (.loc 0) }], sets := [(7, 1)] }
def simpl_IsRollout_r7 : Reg :=
  { id := 7, ops := [{ op := .fieldAddr (.slot 1) 0 },
      { op := .load none (.loc 0) },
      { op := .call 114 [(false, .loc 1), (false, .con (.sc (.int .i64 1))), (false, .con (.sc (.int .i64 9)))] [] },
      { op := .mv (.loc 2) },
      { op := .fieldAddr (.slot 1) 1, guard := some (3, true) },
      { op := .load none (.loc 4), guard := some (3, true) },
      { op := .len false (.loc 5), guard := some (3, true) },
      { op := .call 114 [(false, .loc 6), (false, .con (.sc (.int .i64 1))), (false, .con (.sc (.int .i64 5)))] [], guard := some (3, true) },
      { op := .pick (.loc 3) (.loc 7) (.con (.sc (.bool false))) },
      { op := .mv (.loc 8) },
      { op := .fieldAddr (.slot 1) 1, guard := some (9, true) },
      { op := .load none (.loc 10), guard := some (9, true) },
      { op := .fieldAddr (.slot 1) 1, guard := some (9, true) },
      { op := .load none (.loc 12), guard := some (9, true) },
      { op := .len false (.loc 13), guard := some (9, true) },
      { op := .bin .sub (.loc 14) (.con (.sc (.int .i64 1))), guard := some (9, true) },
      { op := .indexAddr 1 (.loc 11) (.loc 15), guard := some (9, true) },
      { op := .load none (.loc 16), guard := some (9, true) },
      { op := .bin .eql (.loc 17) (.con (.sc (.int .i64 100))), guard := some (9, true) },
      { op := .pick (.loc 9) (.loc 18) (.con (.sc (.bool false))) },
      { op := .mv (.loc 19) },
      { op := .fieldAddr (.slot 1) 2, guard := some (20, true) },
      { op := .load none (.loc 21), guard := some (20, true) },
      { op := .fieldAddr (.slot 1) 1, guard := some (20, true) },
      { op := .load none (.loc 23), guard := some (20, true) },
      { op := .len false (.loc 24), guard := some (20, true) },
      { op := .bin .sub (.loc 25) (.con (.sc (.int .i64 1))), guard := some (20, true) },
      { op := .call 114 [(false, .loc 22), (false, .con (.sc (.int .i64 0))), (false, .loc 26)] [], guard := some (20, true) },
      { op := .pick (.loc 20) (.loc 27) (.con (.sc (.bool false))) },
      { op := .mv (.loc 28) }], sets := [(2, 29)], clr := [1, 5, 6, 7] }
def simpl_IsRollout_b : SC := .seq (.reg simpl_IsRollout_r0) (.seq (.seq (.reg simpl_IsRollout_r1) (.block 0 (.loop (.seq (.reg simpl_IsRollout_r2) (.seq (.cond 8 (.skip) (.exit 0)) (.seq (.block 1 (.seq (.reg simpl_IsRollout_r3) (.seq (.reg simpl_IsRollout_r4) (.cond 9 (.seq (.reg simpl_IsRollout_r5) (.ret)) (.skip))))) (.reg simpl_IsRollout_r6))))))) (.seq (.reg simpl_IsRollout_r7) (.ret)))
def simpl_IsRollout : SFn := { nslots := 10, nobjs := 1, params := [0], ngiven := 0, bor := false, takes := [], body := simpl_IsRollout_b, results := [.slot 2] }
def simpl_IsRollout_t : List Tmp := [0, 1, 2, 3, 4, 6, 7, 8, 9, 29]
attribute [simp] simpl_IsRollout_r0 simpl_IsRollout_r1 simpl_IsRollout_r2 simpl_IsRollout_r3 simpl_IsRollout_r4 simpl_IsRollout_r5 simpl_IsRollout_r6 simpl_IsRollout_r7 simpl_IsRollout_b simpl_IsRollout
def simpl_CeilDiv_r0 : Reg :=
  { id := 0, ops := [{ op := .mv (.con (.sc (.int .i64 0))) }], clr := [2] }
def simpl_CeilDiv_r1 : Reg :=
  { id := 1, ops := [{ op := .mv (.slot 0) },
      { op := .call 114 [(false, .loc 0), (false, .con (.sc (.int .i64 0))), (false, .con (.sc (.int .i64 1000000000000)))] [] },
      { op := .un .not (.loc 1) },
      { op := .mv (.loc 2) },
      { op := .mv (.slot 1), guard := some (3, false) },
      { op := .call 114 [(false, .loc 4), (false, .con (.sc (.int .i64 1))), (false, .con (.sc (.int .i64 1000000000000)))] [], guard := some (3, false) },
      { op := .un .not (.loc 5), guard := some (3, false) },
      { op := .pick (.loc 3) (.con (.sc (.bool true))) (.loc 6) }], sets := [(3, 7)] }
def simpl_CeilDiv_r2 : Reg :=
  { id := 2, ops := [{ op := .mv (.con (.sc (.int .i64 0))) }], sets := [(2, 0)], clr := [0, 1] }
def simpl_CeilDiv_r3 : Reg :=
  { id := 3, ops := [{ op := .mv (.slot 0) },
      { op := .mv (.slot 1) },
      { op := .bin .add (.loc 0) (.loc 1) },
      { op := .bin .sub (.loc 2) (.con (.sc (.int .i64 1))) },
      { op := .mv (.slot 1) },
      { op := .bin .quo (.loc 3) (.loc 4) },
      { op := .mv (.loc 5) }], sets := [(2, 6)], clr := [0, 1] }
def simpl_CeilDiv_b : SC := .seq (.reg simpl_CeilDiv_r0) (.seq (.seq (.reg simpl_CeilDiv_r1) (.cond 3 (.seq (.reg simpl_CeilDiv_r2) (.ret)) (.skip))) (.seq (.reg simpl_CeilDiv_r3) (.ret)))
def simpl_CeilDiv : SFn := { nslots := 4, nobjs := 0, params := [0, 1], ngiven := 0, bor := false, takes := [], body := simpl_CeilDiv_b, results := [.slot 2] }
def simpl_CeilDiv_t : List Tmp := [0, 1, 4, 12]
attribute [simp] simpl_CeilDiv_r0 simpl_CeilDiv_r1 simpl_CeilDiv_r2 simpl_CeilDiv_r3 simpl_CeilDiv_b simpl_CeilDiv
def sspec_l26Copy_r0 : Reg :=
  { id := 0, ops := [{ op := .box 0 (.slot 0) },
      { op := .alloc 1 [.sc (.int .i64 0), .nil 1, .sc (.int .i64 0), .sc (.bool false)] }], sets := [(1, 0), (2, 1)], clr := [0] }
def sspec_l26Copy_r1 : Reg :=
  { id := 1, ops := [{ op := .buildSlice 2 1 0 [] },
      { op := .fieldAddr (.slot 1) 1 },
      { op := .load none (.loc 1) },
      { op := .append 3 1 8 false (.loc 0) (.loc 2) },
      { op := .fieldAddr (.slot 1) 1 },
      { op := .store 1 (.loc 4) (.loc 3) }] }
def sspec_l26Copy_r2 : Reg :=
  { id := 2, ops := [{ op := .load (some 4) (.slot 1) },
      { op := .store 4 (.slot 2) (.loc 0) }], clr := [1] }
def sspec_l26Copy_b : SC := .seq (.reg sspec_l26Copy_r0) (.seq (.reg sspec_l26Copy_r1) (.seq (.reg sspec_l26Copy_r2) (.ret)))
def sspec_l26Copy : SFn := { nslots := 3, nobjs := 4, params := [0], ngiven := 0, bor := false, takes := [], body := sspec_l26Copy_b, results := [.cell 2 (some 4)] }
def sspec_l26Copy_t : List Tmp := [0, 1, 2]
attribute [simp] sspec_l26Copy_r0 sspec_l26Copy_r1 sspec_l26Copy_r2 sspec_l26Copy_b sspec_l26Copy
def sspec_HurtEnds_r0 : Reg :=
  { id := 0, ops := [{ op := .box 0 (.slot 0) },
      { op := .mv (.con (.nil 1)) }], sets := [(1, 0)], clr := [0, 2] }
def sspec_HurtEnds_r1 : Reg :=
  { id := 1, ops := [{ op := .buildSlice 1 1 0 [] },
      { op := .mv (.loc 0) }], sets := [(3, 1)], ghosts := [.ren 1 3] }
def sspec_HurtEnds_r2 : Reg :=
  { id := 2, ops := [{ op := .mv (.con (.sc (.int .i64 0))) }], sets := [(4, 0)] }
def sspec_HurtEnds_r3 : Reg :=
  { id := 3, ops := [{ op := .mv (.slot 4) },
      { op := .fieldAddr (.slot 1) 11 },
      { op := .load none (.loc 1) },
      { op := .len false (.loc 2) },
      { op := .bin .lss (.loc 0) (.loc 3) }], sets := [(5, 4)] }
def sspec_HurtEnds_r4 : Reg :=
  { id := 5, draw := true, ops := [{ op := .load (some 15) (.slot 1), tau := some [0], om := [] },
      { op := .fieldAddr (.slot 1) 11, tau := some [], om := [] },
      { op := .load none (.loc 1), tau := some [0], om := [] },
      { op := .mv (.slot 4), tau := some [], om := [] },
      { op := .indexAddr 8 (.loc 2) (.loc 3), tau := some [], om := [] },
      { op := .load (some 8) (.loc 4), tau := some [], om := [] },
      { op := .call 158 [(false, .loc 0), (false, .loc 5)] [], tau := some [], om := [] }], sets := [(6, 6)] }
def sspec_HurtEnds_r5 : Reg :=
  { id := 6, fresh := [2], ops := [{ op := .mv (.slot 3) },
      { op := .fieldAddr (.slot 1) 11 },
      { op := .load none (.loc 1) },
      { op := .mv (.slot 4) },
      { op := .indexAddr 8 (.loc 2) (.loc 3) },
      { op := .fieldAddr (.loc 4) 0 },
      { op := .load none (.loc 5) },
      { op := .call 159 [(false, .loc 0), (false, .loc 6)] [2] },
      { op := .mv (.loc 7) }], sets := [(3, 8)], ghosts := [.ren 2 3] }
def sspec_HurtEnds_r6 : Reg :=
  { id := 4, ops := [{ op := .mv (.slot 4) },
      { op := .bin .add (.loc 0) (.con (.sc (.int .i64 1))) },
      { op := .mv (.loc 1) }], sets := [(4, 2)] }
def sspec_HurtEnds_r7 : Reg :=
  { id := 7, ops := [{ op := .mv (.slot 3) },
      { op := .mv (.loc 0) }], sets := [(2, 1)], clr := [1, 3, 4] }
def sspec_HurtEnds_b : SC := .seq (.reg sspec_HurtEnds_r0) (.seq (.reg sspec_HurtEnds_r1) (.seq (.seq (.reg sspec_HurtEnds_r2) (.block 0 (.loop (.seq (.seq (.reg sspec_HurtEnds_r3) (.cond 5 (.skip) (.exit 0))) (.seq (.block 1 (.seq (.reg sspec_HurtEnds_r4) (.cond 6 (.reg sspec_HurtEnds_r5) (.skip)))) (.reg sspec_HurtEnds_r6)))))) (.seq (.reg sspec_HurtEnds_r7) (.ret))))
def sspec_HurtEnds : SFn := { nslots := 7, nobjs := 4, params := [0], ngiven := 0, bor := false, takes := [], body := sspec_HurtEnds_b, results := [.slot 2] }
def sspec_HurtEnds_t : List Tmp := [0, 1, 2, 3, 4, 10, 19]
attribute [simp] sspec_HurtEnds_r0 sspec_HurtEnds_r1 sspec_HurtEnds_r2 sspec_HurtEnds_r3 sspec_HurtEnds_r4 sspec_HurtEnds_r5 sspec_HurtEnds_r6 sspec_HurtEnds_r7 sspec_HurtEnds_b sspec_HurtEnds
def sspec_l4Put_r0 : Reg :=
  { id := 0, ops := [{ op := .mv (.con (.nil 1)) }], clr := [2] }
def sspec_l4Put_r1 : Reg :=
  { id := 1, ops := [{ op := .mv (.con (.sc (.int .i64 0))) }], sets := [(3, 0)] }
def sspec_l4Put_r2 : Reg :=
  { id := 2, ops := [{ op := .mv (.slot 3) },
      { op := .mv (.slot 0) },
      { op := .len false (.loc 1) },
      { op := .bin .lss (.loc 0) (.loc 2) },
      { op := .mv (.loc 3) },
      { op := .mv (.slot 0), guard := some (4, true) },
      { op := .mv (.slot 3), guard := some (4, true) },
      { op := .indexAddr 1 (.loc 5) (.loc 6), guard := some (4, true) },
      { op := .load none (.loc 7), guard := some (4, true) },
      { op := .mv (.slot 1), guard := some (4, true) },
      { op := .bin .lss (.loc 8) (.loc 9), guard := some (4, true) },
      { op := .pick (.loc 4) (.loc 10) (.con (.sc (.bool false))) }], sets := [(4, 11)] }
def sspec_l4Put_r3 : Reg :=
  { id := 3, ops := [{ op := .mv (.slot 3) },
      { op := .bin .add (.loc 0) (.con (.sc (.int .i64 1))) },
      { op := .mv (.loc 1) }], sets := [(3, 2)] }
def sspec_l4Put_r4 : Reg :=
  { id := 4, ops := [{ op := .mv (.slot 3) },
      { op := .mv (.slot 0) },
      { op := .len false (.loc 1) },
      { op := .bin .lss (.loc 0) (.loc 2) },
      { op := .mv (.loc 3) },
      { op := .mv (.slot 0), guard := some (4, true) },
      { op := .mv (.slot 3), guard := some (4, true) },
      { op := .indexAddr 1 (.loc 5) (.loc 6), guard := some (4, true) },
      { op := .load none (.loc 7), guard := some (4, true) },
      { op := .mv (.slot 1), guard := some (4, true) },
      { op := .bin .eql (.loc 8) (.loc 9), guard := some (4, true) },
      { op := .pick (.loc 4) (.loc 10) (.con (.sc (.bool false))) }], sets := [(5, 11)] }
def sspec_l4Put_r5 : Reg :=
  { id := 5, ops := [{ op := .buildSlice 0 1 0 [] },
      { op := .mv (.slot 0) },
      { op := .append 1 1 8 false (.loc 0) (.loc 1) },
      { op := .mv (.loc 2) }], sets := [(2, 3)], clr := [0, 1, 3] }
def sspec_l4Put_r6 : Reg :=
  { id := 6, draw := true, ops := [{ op := .buildSlice 2 1 0 [], tau := some [2], om := [2] },
      { op := .mv (.slot 0), tau := some [], om := [] },
      { op := .mv (.slot 3), tau := some [], om := [] },
      { op := .slice 1 (.loc 1) none (some (.loc 2)), tau := some [], om := [] },
      { op := .append 3 1 8 false (.loc 0) (.loc 3), tau := some [2, 3], om := [2, 3] },
      { op := .mv (.slot 1), tau := some [], om := [] },
      { op := .buildSlice 4 1 1 [.loc 5], tau := some [4], om := [4] },
      { op := .append 5 1 8 false (.loc 4) (.loc 6), tau := some [3, 4, 5], om := [3, 5] },
      { op := .mv (.slot 0), tau := some [], om := [] },
      { op := .mv (.slot 3), tau := some [], om := [] },
      { op := .slice 1 (.loc 8) (some (.loc 9)) none, tau := some [], om := [] },
      { op := .append 6 1 8 false (.loc 7) (.loc 10), tau := some [5, 6], om := [5, 6] },
      { op := .mv (.loc 11), tau := some [], om := [] }], sets := [(2, 12)], clr := [0, 1, 3] }
def sspec_l4Put_b : SC := .seq (.reg sspec_l4Put_r0) (.seq (.reg sspec_l4Put_r1) (.seq (.block 0 (.loop (.seq (.seq (.reg sspec_l4Put_r2) (.cond 4 (.skip) (.exit 0))) (.block 1 (.reg sspec_l4Put_r3))))) (.seq (.seq (.reg sspec_l4Put_r4) (.cond 5 (.seq (.reg sspec_l4Put_r5) (.ret)) (.skip))) (.seq (.reg sspec_l4Put_r6) (.ret)))))
def sspec_l4Put : SFn := { nslots := 6, nobjs := 7, params := [0, 1], ngiven := 0, bor := false, takes := [], body := sspec_l4Put_b, results := [.slot 2] }
def sspec_l4Put_t : List Tmp := [0, 1, 4, 5, 17, 31]
attribute [simp] sspec_l4Put_r0 sspec_l4Put_r1 sspec_l4Put_r2 sspec_l4Put_r3 sspec_l4Put_r4 sspec_l4Put_r5 sspec_l4Put_r6 sspec_l4Put_b sspec_l4Put
def sspec_IsBounded_r0 : Reg :=
  { id := 0, ops := [{ op := .box 0 (.slot 0) },
      { op := .mv (.con (.sc (.bool false))) }], sets := [(1, 0)], clr := [0, 2] }
def sspec_IsBounded_r1 : Reg :=
  { id := 1, ops := [{ op := .fieldAddr (.slot 1) 4 },
      { op := .load (some 4) (.loc 0) },
      { op := .call 66 [(false, .loc 1)] [1] },
      { op := .alloc 2 [.sc (.int .i64 0), .nil 1, .sc (.int .i64 0), .sc (.bool false)] },
      { op := .store 4 (.loc 3) (.loc 2) }], sets := [(3, 3)] }
def sspec_IsBounded_r2 : Reg :=
  { id := 2, ops := [{ op := .fieldAddr (.slot 3) 3 },
      { op := .store 1 (.loc 0) (.con (.sc (.bool false))) }] }
def sspec_IsBounded_r3 : Reg :=
  { id := 3, draw := true, ops := [{ op := .load (some 15) (.slot 1), tau := some [0], om := [] },
      { op := .call 87 [(false, .loc 0)] [3], tau := some [3], om := [3] },
      { op := .len false (.loc 1), tau := some [3], om := [] },
      { op := .load (some 4) (.slot 3), tau := some [2], om := [] },
      { op := .fieldAddr (.slot 1) 3, tau := some [], om := [] },
      { op := .load none (.loc 4), tau := some [0], om := [] },
      { op := .len false (.loc 5), tau := some [], om := [] },
      { op := .fieldAddr (.slot 1) 14, tau := some [], om := [] },
      { op := .load none (.loc 7), tau := some [0], om := [] },
      { op := .call 219 [(false, .loc 3), (false, .loc 6), (false, .loc 8)] [], tau := some [1], om := [] },
      { op := .bin .leq (.loc 2) (.loc 9), tau := some [], om := [] },
      { op := .mv (.loc 10), tau := some [], om := [] }], sets := [(2, 11)], clr := [1, 3] }
def sspec_IsBounded_b : SC := .seq (.reg sspec_IsBounded_r0) (.seq (.reg sspec_IsBounded_r1) (.seq (.reg sspec_IsBounded_r2) (.seq (.reg sspec_IsBounded_r3) (.ret))))
def sspec_IsBounded : SFn := { nslots := 4, nobjs := 4, params := [0], ngiven := 0, bor := false, takes := [], body := sspec_IsBounded_b, results := [.slot 2] }
def sspec_IsBounded_t : List Tmp := [0, 1, 2, 3]
attribute [simp] sspec_IsBounded_r0 sspec_IsBounded_r1 sspec_IsBounded_r2 sspec_IsBounded_r3 sspec_IsBounded_b sspec_IsBounded
def simpl_IsBounded_r0 : Reg :=
  { id := 0, ops := [{ op := .box 0 (.slot 0) },
      { op := .mv (.con (.sc (.bool false))) }], sets := [(1, 0)], clr := [0, 2] }
def simpl_IsBounded_r1 : Reg :=
  { id := 1, ops := [{ op := .fieldAddr (.slot 1) 4 },
      { op := .load (some 4) (.loc 0) },
      { op := .alloc 1 [.sc (.int .i64 0), .nil 1, .sc (.int .i64 0), .sc (.bool false)] },
      { op := .store 4 (.loc 2) (.loc 1) }], sets := [(3, 2)] }
def simpl_IsBounded_r2 : Reg :=
  { id := 2, ops := [{ op := .fieldAddr (.slot 3) 3 },
      { op := .store 1 (.loc 0) (.con (.sc (.bool false))) }] }
def simpl_IsBounded_r3 : Reg :=
  { id := 3, draw := true, ops := [{ op := .load (some 15) (.slot 1), tau := some [0], om := [] },
      { op := .call 131 [(false, .loc 0)] [2], tau := some [2], om := [2] },
      { op := .len false (.loc 1), tau := some [2], om := [] },
      { op := .load (some 4) (.slot 3), tau := some [1], om := [] },
      { op := .fieldAddr (.slot 1) 3, tau := some [], om := [] },
      { op := .load none (.loc 4), tau := some [0], om := [] },
      { op := .len false (.loc 5), tau := some [], om := [] },
      { op := .fieldAddr (.slot 1) 14, tau := some [], om := [] },
      { op := .load none (.loc 7), tau := some [0], om := [] },
      { op := .call 245 [(false, .loc 3), (false, .loc 6), (false, .loc 8)] [], tau := some [], om := [] },
      { op := .bin .leq (.loc 2) (.loc 9), tau := some [], om := [] },
      { op := .mv (.loc 10), tau := some [], om := [] }], sets := [(2, 11)], clr := [1, 3] }
def simpl_IsBounded_b : SC := .seq (.reg simpl_IsBounded_r0) (.seq (.reg simpl_IsBounded_r1) (.seq (.reg simpl_IsBounded_r2) (.seq (.reg simpl_IsBounded_r3) (.ret))))
def simpl_IsBounded : SFn := { nslots := 4, nobjs := 3, params := [0], ngiven := 0, bor := false, takes := [], body := simpl_IsBounded_b, results := [.slot 2] }
def simpl_IsBounded_t : List Tmp := [0, 1, 2, 3]
attribute [simp] simpl_IsBounded_r0 simpl_IsBounded_r1 simpl_IsBounded_r2 simpl_IsBounded_r3 simpl_IsBounded_b simpl_IsBounded
def sspec_Max_r0 : Reg :=
  { id := 0, ops := [{ op := .mv (.con (.sc (.int .i64 0))) }], clr := [2] }
def sspec_Max_r1 : Reg :=
  { id := 1, ops := [{ op := .mv (.slot 1) },
      { op := .mv (.slot 0) },
      { op := .bin .gtr (.loc 0) (.loc 1) }], sets := [(3, 2)] }
def sspec_Max_r2 : Reg :=
  { id := 2, ops := [{ op := .mv (.slot 1) },
      { op := .mv (.loc 0) }], sets := [(2, 1)], clr := [0, 1] }
def sspec_Max_r3 : Reg :=
  { id := 3, ops := [{ op := .mv (.slot 0) },
      { op := .mv (.loc 0) }], sets := [(2, 1)], clr := [0, 1] }
def sspec_Max_b : SC := .seq (.reg sspec_Max_r0) (.seq (.seq (.reg sspec_Max_r1) (.cond 3 (.seq (.reg sspec_Max_r2) (.ret)) (.skip))) (.seq (.reg sspec_Max_r3) (.ret)))
def sspec_Max : SFn := { nslots := 4, nobjs := 0, params := [0, 1], ngiven := 0, bor := false, takes := [], body := sspec_Max_b, results := [.slot 2] }
def sspec_Max_t : List Tmp := [0, 1, 4, 7]
attribute [simp] sspec_Max_r0 sspec_Max_r1 sspec_Max_r2 sspec_Max_r3 sspec_Max_b sspec_Max
def sspec_MostHurt_r0 : Reg :=
  { id := 0, ops := [{ op := .box 0 (.slot 0) },
      { op := .mv (.con (.sc (.int .i64 0))) }], sets := [(3, 0)], clr := [0, 4] }
def sspec_MostHurt_r1 : Reg :=
  { id := 1, ops := [{ op := .mv (.con (.sc (.int .i64 0))) }], sets := [(5, 0)] }
def sspec_MostHurt_r2 : Reg :=
  { id := 2, ops := [{ op := .load (some 4) (.slot 3) },
      { op := .call 145 [(false, .loc 0)] [] },
      { op := .un .not (.loc 1) },
      { op := .mv (.loc 2) },
      { op := .mv (.slot 2), guard := some (3, false) },
      { op := .fieldAddr (.slot 3) 1, guard := some (3, false) },
      { op := .load none (.loc 5), guard := some (3, false) },
      { op := .len false (.loc 6), guard := some (3, false) },
      { op := .call 71 [(false, .loc 4), (false, .con (.sc (.int .i64 1))), (false, .loc 7)] [], guard := some (3, false) },
      { op := .un .not (.loc 8), guard := some (3, false) },
      { op := .pick (.loc 3) (.con (.sc (.bool true))) (.loc 9) }], sets := [(8, 10)] }
def sspec_MostHurt_r3 : Reg :=
  { id := 3, ops := [{ op := .mv (.slot 5) },
      { op := .mv (.loc 0) }], sets := [(4, 1)], clr := [1, 2, 3, 5] }
def sspec_MostHurt_r4 : Reg :=
  { id := 4, ops := [{ op := .load (some 4) (.slot 3) },
      { op := .call 66 [(false, .loc 0)] [1] },
      { op := .alloc 2 [.sc (.int .i64 0), .nil 1, .sc (.int .i64 0), .sc (.bool false)] },
      { op := .store 4 (.loc 2) (.loc 1) }], sets := [(6, 2)], clr := [3] }
def sspec_MostHurt_r5 : Reg :=
  { id := 5, ops := [{ op := .mv (.con (.sc (.int .i64 0))) }], sets := [(7, 0)] }
def sspec_MostHurt_r6 : Reg :=
  { id := 6, ops := [{ op := .mv (.slot 7) },
      { op := .mv (.slot 2) },
      { op := .bin .lss (.loc 0) (.loc 1) }], sets := [(9, 2)] }
def sspec_MostHurt_r7 : Reg :=
  { id := 8, ops := [{ op := .mv (.slot 7) },
      { op := .fieldAddr (.slot 6) 2 },
      { op := .store 1 (.loc 1) (.loc 0) }] }
def sspec_MostHurt_r8 : Reg :=
  { id := 9, ops := [{ op := .mv (.slot 5) },
      { op := .load (some 4) (.slot 6) },
      { op := .mv (.slot 1) },
      { op := .call 254 [(false, .loc 1), (false, .loc 2)] [] },
      { op := .call 215 [(false, .loc 0), (false, .loc 3)] [] },
      { op := .mv (.loc 4) }], sets := [(5, 5)] }
def sspec_MostHurt_r9 : Reg :=
  { id := 7, ops := [{ op := .mv (.slot 7) },
      { op := .bin .add (.loc 0) (.con (.sc (.int .i64 1))) },
      { op := .mv (.loc 1) }], sets := [(7, 2)] }
def sspec_MostHurt_r10 : Reg :=
  { id := 10, ops := [{ op := .mv (.slot 5) },
      { op := .mv (.loc 0) }], sets := [(4, 1)], clr := [1, 2, 5, 6, 7] }
def sspec_MostHurt_b : SC := .seq (.reg sspec_MostHurt_r0) (.seq (.reg sspec_MostHurt_r1) (.seq (.seq (.reg sspec_MostHurt_r2) (.cond 8 (.seq (.reg sspec_MostHurt_r3) (.ret)) (.skip))) (.seq (.reg sspec_MostHurt_r4) (.seq (.seq (.reg sspec_MostHurt_r5) (.block 0 (.loop (.seq (.seq (.reg sspec_MostHurt_r6) (.cond 9 (.skip) (.exit 0))) (.seq (.block 1 (.seq (.reg sspec_MostHurt_r7) (.reg sspec_MostHurt_r8))) (.reg sspec_MostHurt_r9)))))) (.seq (.reg sspec_MostHurt_r10) (.ret))))))
def sspec_MostHurt : SFn := { nslots := 10, nobjs := 3, params := [0, 1, 2], ngiven := 0, bor := false, takes := [], body := sspec_MostHurt_b, results := [.slot 4] }
def sspec_MostHurt_t : List Tmp := [0, 1, 2, 3, 6, 7, 8, 9, 20, 26]
attribute [simp] sspec_MostHurt_r0 sspec_MostHurt_r1 sspec_MostHurt_r2 sspec_MostHurt_r3 sspec_MostHurt_r4 sspec_MostHurt_r5 sspec_MostHurt_r6 sspec_MostHurt_r7 sspec_MostHurt_r8 sspec_MostHurt_r9 sspec_MostHurt_r10 sspec_MostHurt_b sspec_MostHurt
def simpl_MostHurt_r0 : Reg :=
  { id := 0, ops := [{ op := .box 0 (.slot 0) },
      { op := .mv (.con (.sc (.int .i64 0))) }], sets := [(3, 0)], clr := [0, 4] }
def simpl_MostHurt_r1 : Reg :=
  { id := 1, ops := [{ op := .load (some 4) (.slot 3) },
      { op := .call 176 [(false, .loc 0)] [] },
      { op := .un .not (.loc 1) },
      { op := .mv (.loc 2) },
      { op := .mv (.slot 2), guard := some (3, false) },
      { op := .fieldAddr (.slot 3) 1, guard := some (3, false) },
      { op := .load none (.loc 5), guard := some (3, false) },
      { op := .len false (.loc 6), guard := some (3, false) },
      { op := .call 114 [(false, .loc 4), (false, .con (.sc (.int .i64 1))), (false, .loc 7)] [], guard := some (3, false) },
      { op := .un .not (.loc 8), guard := some (3, false) },
      { op := .pick (.loc 3) (.con (.sc (.bool true))) (.loc 9) }], sets := [(7, 10)] }
def simpl_MostHurt_r2 : Reg :=
  { id := 2, ops := [{ op := .mv (.con (.sc (.int .i64 0))) }], sets := [(4, 0)], clr := [1, 2, 3] }
def simpl_MostHurt_r3 : Reg :=
  { id := 3, ops := [{ op := .mv (.con (.sc (.int .i64 0))) }], sets := [(5, 0)] }
def simpl_MostHurt_r4 : Reg :=
  { id := 4, ops := [{ op := .mv (.slot 2) },
      { op := .mv (.con (.sc (.int .i64 0))) }], sets := [(8, 0), (9, 1)], clr := [2] }
def simpl_MostHurt_r5 : Reg :=
  { id := 5, ops := [{ op := .bin .lss (.slot 9) (.slot 8) }], sets := [(10, 0)] }
def simpl_MostHurt_r6 : Reg :=
  { id := 6, ops := [{ op := .mv (.slot 9) },
      { op := .mv (.loc 0) }], sets := [(6, 1)] }
def simpl_MostHurt_r7 : Reg :=
  { id := 7, ops := [{ op := .mv (.slot 6) },
      { op := .fieldAddr (.slot 3) 2 },
      { op := .store 1 (.loc 1) (.loc 0) }], clr := [6] }
def simpl_MostHurt_r8 : Reg :=
  { id := 8, ops := [{ op := .mv (.slot 5) },
      { op := .load (some 4) (.slot 3) },
      { op := .mv (.slot 1) },
      { op := .call 263 [(false, .loc 1), (false, .loc 2)] [] },
      { op := .minmax true (.loc 0) [.loc 3] },
      { op := .mv (.loc 4) }], sets := [(5, 5)] }
def simpl_MostHurt_r9 : Reg :=
  { id := 9, ops := [{ op := .bin .add (.slot 9) (.con (.sc (.int .i64 1))) },
      { op := .mv (.loc 0) }], sets := [(9, 1)] }
def simpl_MostHurt_r10 : Reg :=
  { id := 10, ops := [{ op := .mv (.slot 5) },
      { op := .mv (.loc 0) }], sets := [(4, 1)], clr := [1, 3, 5, 8, 9] }
def simpl_MostHurt_b : SC := .seq (.reg simpl_MostHurt_r0) (.seq (.seq (.reg simpl_MostHurt_r1) (.cond 7 (.seq (.reg simpl_MostHurt_r2) (.ret)) (.skip))) (.seq (.reg simpl_MostHurt_r3) (.seq (.seq (.reg simpl_MostHurt_r4) (.block 0 (.loop (.seq (.reg simpl_MostHurt_r5) (.seq (.cond 10 (.skip) (.exit 0)) (.seq (.block 1 (.seq (.reg simpl_MostHurt_r6) (.seq (.reg simpl_MostHurt_r7) (.reg simpl_MostHurt_r8)))) (.reg simpl_MostHurt_r9))))))) (.seq (.reg simpl_MostHurt_r10) (.ret)))))
def simpl_MostHurt : SFn := { nslots := 11, nobjs := 1, params := [0, 1, 2], ngiven := 0, bor := false, takes := [], body := simpl_MostHurt_b, results := [.slot 4] }
def simpl_MostHurt_t : List Tmp := [0, 1, 2, 3, 6, 7, 8, 19, 20, 21, 22]
attribute [simp] simpl_MostHurt_r0 simpl_MostHurt_r1 simpl_MostHurt_r2 simpl_MostHurt_r3 simpl_MostHurt_r4 simpl_MostHurt_r5 simpl_MostHurt_r6 simpl_MostHurt_r7 simpl_MostHurt_r8 simpl_MostHurt_r9 simpl_MostHurt_r10 simpl_MostHurt_b simpl_MostHurt
end Go.Eng.T

namespace Go.Eng.T
abbrev glaws_FnExactRunConsole : Nat := 0
abbrev gspec_RunConsole : Nat := 1
abbrev gimpl_RunConsole : Nat := 2
abbrev glaws_eqStringS : Nat := 3
abbrev glaws_markStringS : Nat := 4
abbrev glaws_heldStringS : Nat := 5
abbrev glaws_FnExactConsoleLine : Nat := 6
abbrev glaws_szWorld : Nat := 7
abbrev glaws_toWorld : Nat := 8
abbrev gspec_ConsoleLine : Nat := 9
abbrev gimpl_ConsoleLine : Nat := 10
abbrev glaws_eqWorld : Nat := 11
abbrev glaws_markWorld : Nat := 12
abbrev glaws_heldWorld : Nat := 13
abbrev gstrings_Split : Nat := 14
abbrev glaws_markText : Nat := 15
abbrev glaws_szIntS : Nat := 16
abbrev glaws_szEndpointS : Nat := 17
abbrev glaws_szRollout : Nat := 18
abbrev glaws_szDialedS : Nat := 19
abbrev glaws_szLoggedS : Nat := 20
abbrev gspec_l40Words : Nat := 21
abbrev gspec_l32Copy : Nat := 22
abbrev gspec_l40Nums : Nat := 23
abbrev gspec_l40World : Nat := 24
abbrev gspec_TryAll : Nat := 25
abbrev gspec_l40Event : Nat := 26
abbrev gspec_ApplyEvent : Nat := 27
abbrev gspec_l40Said : Nat := 28
abbrev gspec_l40None : Nat := 29
abbrev gspec_l40One : Nat := 30
abbrev glaws_toIntS : Nat := 31
abbrev glaws_toEndpointS : Nat := 32
abbrev glaws_toRollout : Nat := 33
abbrev glaws_toDialedS : Nat := 34
abbrev glaws_toLoggedS : Nat := 35
abbrev gimpl_ConsoleLine_1 : Nat := 36
abbrev gslices_DeleteFunc___string_string_ : Nat := 37
abbrev gimpl_copyWorld : Nat := 38
abbrev gimpl_numbersOf : Nat := 39
abbrev gimpl_eventOf : Nat := 40
abbrev gimpl_ApplyEvent : Nat := 41
abbrev gimpl_told : Nat := 42
abbrev gimpl_newWorldOf : Nat := 43
abbrev gimpl_TryAll : Nat := 44
abbrev gimpl_askNumber : Nat := 45
abbrev gimpl_ask : Nat := 46
abbrev glaws_eqIntS : Nat := 47
abbrev glaws_eqEndpointS : Nat := 48
abbrev glaws_eqRollout : Nat := 49
abbrev glaws_eqDialedS : Nat := 50
abbrev glaws_eqLoggedS : Nat := 51
abbrev glaws_markIntS : Nat := 52
abbrev glaws_markEndpointS : Nat := 53
abbrev glaws_markRollout : Nat := 54
abbrev glaws_markDialedS : Nat := 55
abbrev glaws_markLoggedS : Nat := 56
abbrev glaws_heldIntS : Nat := 57
abbrev glaws_heldEndpointS : Nat := 58
abbrev glaws_heldRollout : Nat := 59
abbrev glaws_heldDialedS : Nat := 60
abbrev glaws_heldLoggedS : Nat := 61
abbrev glaws_szEndpoint : Nat := 62
abbrev glaws_szDialed : Nat := 63
abbrev glaws_szLogged : Nat := 64
abbrev gspec_l32End : Nat := 65
abbrev gspec_l26Copy : Nat := 66
abbrev gspec_l32Dialed : Nat := 67
abbrev gspec_ParseInt : Nat := 68
abbrev gspec_ExampleEnds : Nat := 69
abbrev gspec_NewWorld : Nat := 70
abbrev gspec_l1In : Nat := 71
abbrev gspec_StepDial : Nat := 72
abbrev gspec_EventName : Nat := 73
abbrev gspec_StepStart : Nat := 74
abbrev gspec_StepStage : Nat := 75
abbrev gspec_StepRetire : Nat := 76
abbrev gspec_StepRevive : Nat := 77
abbrev gspec_StepBox : Nat := 78
abbrev gspec_StepClear : Nat := 79
abbrev gspec_StepTick : Nat := 80
abbrev gspec_FormatDialed : Nat := 81
abbrev gspec_SignalNow : Nat := 82
abbrev gspec_SignalName : Nat := 83
abbrev gspec_HardEnds : Nat := 84
abbrev gspec_FormatList : Nat := 85
abbrev gspec_VersionCounts : Nat := 86
abbrev gspec_HurtEnds : Nat := 87
abbrev gspec_FormatWorld : Nat := 88
abbrev gspec_FaultOf : Nat := 89
abbrev gspec_l40Or : Nat := 90
abbrev gspec_FormatEnd : Nat := 91
abbrev gspec_BestNow : Nat := 92
abbrev gspec_FormatInt : Nat := 93
abbrev gspec_HasVersion : Nat := 94
abbrev gspec_ListsOf : Nat := 95
abbrev gspec_Stranded : Nat := 96
abbrev gspec_ReportNow : Nat := 97
abbrev glaws_toEndpoint : Nat := 98
abbrev glaws_toDialed : Nat := 99
abbrev glaws_toLogged : Nat := 100
abbrev gimpl_copyRollout : Nat := 101
abbrev gimpl_copyEndpoint : Nat := 102
abbrev gimpl_copyDialed : Nat := 103
abbrev gimpl_ParseInt : Nat := 104
abbrev gslices_Index___string_string_ : Nat := 105
abbrev gimpl_StepDial : Nat := 106
abbrev gimpl_StepStart : Nat := 107
abbrev gimpl_StepStage : Nat := 108
abbrev gimpl_StepRetire : Nat := 109
abbrev gimpl_StepRevive : Nat := 110
abbrev gimpl_StepBox : Nat := 111
abbrev gimpl_StepClear : Nat := 112
abbrev gimpl_StepTick : Nat := 113
abbrev gimpl_InRange : Nat := 114
abbrev gimpl_ExampleEnds : Nat := 115
abbrev gimpl_NewWorld : Nat := 116
abbrev gimpl_hasEnd : Nat := 117
abbrev gimpl_FormatEnd : Nat := 118
abbrev gimpl_BestNow : Nat := 119
abbrev gimpl_FormatInt : Nat := 120
abbrev gimpl_HasVersion : Nat := 121
abbrev gimpl_FormatList : Nat := 122
abbrev gimpl_ListsOf : Nat := 123
abbrev gimpl_Stranded : Nat := 124
abbrev gimpl_ReportNow : Nat := 125
abbrev gimpl_FormatDialed : Nat := 126
abbrev gimpl_SignalNow : Nat := 127
abbrev gimpl_SignalName : Nat := 128
abbrev gimpl_HardEnds : Nat := 129
abbrev gimpl_VersionCounts : Nat := 130
abbrev gimpl_HurtEnds : Nat := 131
abbrev gimpl_FormatWorld : Nat := 132
abbrev gimpl_FaultOf : Nat := 133
abbrev glaws_eqEndpoint : Nat := 134
abbrev glaws_eqDialed : Nat := 135
abbrev glaws_eqLogged : Nat := 136
abbrev glaws_markBoxS : Nat := 137
abbrev glaws_heldBoxS : Nat := 138
abbrev glaws_szBoxS : Nat := 139
abbrev glaws_szDeal : Nat := 140
abbrev gspec_IsWorld : Nat := 141
abbrev gspec_DialOf : Nat := 142
abbrev gspec_IsOnNew : Nat := 143
abbrev gspec_IsBadDial : Nat := 144
abbrev gspec_IsRollout : Nat := 145
abbrev gspec_EnterStage : Nat := 146
abbrev gspec_NextStage : Nat := 147
abbrev gspec_BackStage : Nat := 148
abbrev gspec_LeaveRollout : Nat := 149
abbrev gspec_RetireVersion : Nat := 150
abbrev gspec_AddVersion : Nat := 151
abbrev gspec_IsBox : Nat := 152
abbrev gspec_FormatDeal : Nat := 153
abbrev gspec_l39Join : Nat := 154
abbrev gspec_MaskedBy : Nat := 155
abbrev gspec_SignalOf : Nat := 156
abbrev gspec_HardenedBoxes : Nat := 157
abbrev gspec_l37Bad : Nat := 158
abbrev gspec_l4Put : Nat := 159
abbrev gspec_FormatRollout : Nat := 160
abbrev gspec_IsBounded : Nat := 161
abbrev gspec_IsTogether : Nat := 162
abbrev gspec_IsCounted : Nat := 163
abbrev gspec_IsSober : Nat := 164
abbrev gspec_BestFor : Nat := 165
abbrev gspec_l9Has : Nat := 166
abbrev gspec_l12Without : Nat := 167
abbrev gspec_BestCommon : Nat := 168
abbrev gspec_HideSmall : Nat := 169
abbrev glaws_toBoxS : Nat := 170
abbrev glaws_toDeal : Nat := 171
abbrev gimpl_copyPath : Nat := 172
abbrev gimpl_DialOf : Nat := 173
abbrev gimpl_IsOnNew : Nat := 174
abbrev gimpl_IsBadDial : Nat := 175
abbrev gimpl_IsRollout : Nat := 176
abbrev gimpl_EnterStage : Nat := 177
abbrev gimpl_NextStage : Nat := 178
abbrev gimpl_BackStage : Nat := 179
abbrev gimpl_LeaveRollout : Nat := 180
abbrev gimpl_RetireVersion : Nat := 181
abbrev gimpl_AddVersion : Nat := 182
abbrev gimpl_IsBox : Nat := 183
abbrev gimpl_IsWorld : Nat := 184
abbrev gstrconv_Itoa : Nat := 185
abbrev gimpl_BestFor : Nat := 186
abbrev gimpl_joined : Nat := 187
abbrev gslices_Contains___int_int_ : Nat := 188
abbrev gimpl_without : Nat := 189
abbrev gimpl_BestCommon : Nat := 190
abbrev gimpl_HideSmall : Nat := 191
abbrev gimpl_FormatDeal : Nat := 192
abbrev gimpl_MaskedBy : Nat := 193
abbrev gimpl_SignalOf : Nat := 194
abbrev gimpl_HardenedBoxes : Nat := 195
abbrev gimpl_isHurt : Nat := 196
abbrev gslices_Sort___int_int_ : Nat := 197
abbrev gslices_Compact___int_int_ : Nat := 198
abbrev gimpl_FormatRollout : Nat := 199
abbrev gimpl_IsBounded : Nat := 200
abbrev gimpl_IsTogether : Nat := 201
abbrev gimpl_IsCounted : Nat := 202
abbrev gimpl_IsSober : Nat := 203
abbrev glaws_eqBoxS : Nat := 204
abbrev glaws_eqDeal : Nat := 205
abbrev glaws_szBox : Nat := 206
abbrev gspec_IsEndpoint : Nat := 207
abbrev gspec_AreVersions : Nat := 208
abbrev gspec_l32Tags : Nat := 209
abbrev gspec_IsValidKey : Nat := 210
abbrev gspec_AllReach : Nat := 211
abbrev gspec_l33Clip : Nat := 212
abbrev gspec_EndDial : Nat := 213
abbrev gspec_IsIn : Nat := 214
abbrev gspec_Max : Nat := 215
abbrev gspec_MayRetire : Nat := 216
abbrev gspec_l9Byte : Nat := 217
abbrev gspec_RefusesGrease : Nat := 218
abbrev gspec_MostHurt : Nat := 219
abbrev gspec_IsClearPath : Nat := 220
abbrev gspec_IsHardened : Nat := 221
abbrev gspec_LostVersions : Nat := 222
abbrev gspec_l21Left : Nat := 223
abbrev gspec_CommonOf : Nat := 224
abbrev gspec_AreCounts : Nat := 225
abbrev glaws_toBox : Nat := 226
abbrev gimpl_EndDial : Nat := 227
abbrev gimpl_IsIn : Nat := 228
abbrev gimpl_isBad : Nat := 229
abbrev gimpl_withVersion : Nat := 230
abbrev gimpl_MayRetire : Nat := 231
abbrev gimpl_AreVersions : Nat := 232
abbrev gimpl_areNumbers : Nat := 233
abbrev gimpl_AllReach : Nat := 234
abbrev gimpl_areTags : Nat := 235
abbrev gimpl_IsValidKey : Nat := 236
abbrev gimpl_IsWorld_1 : Nat := 237
abbrev gslices_ContainsFunc___impl_Endpoint_impl_Endpoint_ : Nat := 238
abbrev gimpl_IsEndpoint : Nat := 239
abbrev gimpl_LostVersions : Nat := 240
abbrev gstrings_Join : Nat := 241
abbrev gimpl_CommonOf : Nat := 242
abbrev gimpl_canHide : Nat := 243
abbrev gimpl_RefusesGrease : Nat := 244
abbrev gimpl_MostHurt : Nat := 245
abbrev gimpl_IsClearPath : Nat := 246
abbrev gimpl_IsSober_1 : Nat := 247
abbrev gslices_ContainsFunc___impl_Logged_impl_Logged_ : Nat := 248
abbrev glaws_eqBox : Nat := 249
abbrev gspec_IsReserved : Nat := 250
abbrev gspec_HelloOf : Nat := 251
abbrev gspec_Dial : Nat := 252
abbrev gspec_Min : Nat := 253
abbrev gspec_CountIn : Nat := 254
abbrev gspec_UseOf : Nat := 255
abbrev gspec_PlainHello : Nat := 256
abbrev gspec_l29One : Nat := 257
abbrev gspec_PassBox : Nat := 258
abbrev gspec_IsClear : Nat := 259
abbrev gspec_IsOpenPath : Nat := 260
abbrev gimpl_HelloOf : Nat := 261
abbrev gimpl_Dial : Nat := 262
abbrev gimpl_CountIn : Nat := 263
abbrev gslices_Insert___int_int_ : Nat := 264
abbrev gimpl_UseOf : Nat := 265
abbrev gimpl_areNumbers_1 : Nat := 266
abbrev gslices_ContainsFunc___int_int_ : Nat := 267
abbrev gimpl_AllReach_1 : Nat := 268
abbrev gslices_ContainsFunc_____int___int_ : Nat := 269
abbrev gimpl_IsHardened : Nat := 270
abbrev gimpl_IsEndpoint_1 : Nat := 271
abbrev gslices_ContainsFunc___impl_Box_impl_Box_ : Nat := 272
abbrev gimpl_PlainHello : Nat := 273
abbrev gimpl_PassPath : Nat := 274
abbrev gimpl_AreCounts : Nat := 275
abbrev gimpl_reservedTags : Nat := 276
abbrev gimpl_RefusesGrease_1 : Nat := 277
abbrev gimpl_IsClearPath_1 : Nat := 278
abbrev gimpl_IsReserved : Nat := 279
abbrev gspec_HelloFor : Nat := 280
abbrev gspec_DialOnce : Nat := 281
abbrev gspec_GivenUp : Nat := 282
abbrev gspec_AddGrease : Nat := 283
abbrev gspec_CeilDiv : Nat := 284
abbrev gspec_IsHello : Nat := 285
abbrev gspec_PassPath : Nat := 286
abbrev gimpl_HelloFor : Nat := 287
abbrev gimpl_DialOnce : Nat := 288
abbrev gimpl_GivenUp : Nat := 289
abbrev gimpl_AddGrease : Nat := 290
abbrev gimpl_CeilDiv : Nat := 291
abbrev gimpl_IsHello : Nat := 292
abbrev gimpl_copyHello : Nat := 293
abbrev gimpl_PassBox : Nat := 294
abbrev gimpl_loses : Nat := 295
abbrev gslices_Clone___int_int_ : Nat := 296
abbrev gimpl_PassBox_1 : Nat := 297
abbrev gimpl_keptExts : Nat := 298
abbrev gimpl_IsClear : Nat := 299
abbrev gspec_PassesWhole : Nat := 300
abbrev gspec_l18Hello : Nat := 301
abbrev gspec_FallbackHello : Nat := 302
abbrev gspec_ChooseAnswer : Nat := 303
abbrev gspec_FitsHello : Nat := 304
abbrev gspec_HelloBytes : Nat := 305
abbrev gspec_AnswerBytes : Nat := 306
abbrev gspec_FinishOf : Nat := 307
abbrev gspec_TagsOf : Nat := 308
abbrev gspec_ExtOf : Nat := 309
abbrev gspec_GreaseTag : Nat := 310
abbrev gspec_l11Copy : Nat := 311
abbrev gspec_AreExts : Nat := 312
abbrev gspec_PickOf : Nat := 313
abbrev gimpl_PassesWhole : Nat := 314
abbrev gimpl_FallbackHello : Nat := 315
abbrev gimpl_dealt : Nat := 316
abbrev gimpl_TagsOf : Nat := 317
abbrev gimpl_copyExts : Nat := 318
abbrev gimpl_GreaseTag : Nat := 319
abbrev gimpl_AreExts : Nat := 320
abbrev gimpl_ExtOf : Nat := 321
abbrev gimpl_PickOf : Nat := 322
abbrev gslices_Repeat___int_int_ : Nat := 323
abbrev gslices_Insert___impl_Ext_impl_Ext_ : Nat := 324
abbrev gslices_Max___int_int_ : Nat := 325
abbrev gimpl_loses_1 : Nat := 326
abbrev gslices_ContainsFunc___impl_Ext_impl_Ext_ : Nat := 327
abbrev gspec_EqualHellos : Nat := 328
abbrev gspec_LostTags : Nat := 329
abbrev gspec_PartHello : Nat := 330
abbrev gspec_KnownOf : Nat := 331
abbrev gspec_StripGrease : Nat := 332
abbrev gspec_IsAnswer : Nat := 333
abbrev gspec_IsTranscript : Nat := 334
abbrev gspec_TranscriptHash : Nat := 335
abbrev gspec_KeyedHash : Nat := 336
abbrev gspec_EncodeExts : Nat := 337
abbrev gspec_Hash : Nat := 338
abbrev gspec_Mod : Nat := 339
abbrev gimpl_EqualHellos : Nat := 340
abbrev gimpl_LostTags : Nat := 341
abbrev gimpl_PartHello : Nat := 342
abbrev gimpl_ChooseAnswer : Nat := 343
abbrev gimpl_EditAnswer : Nat := 344
abbrev gimpl_HelloBytes : Nat := 345
abbrev gimpl_AnswerBytes : Nat := 346
abbrev gimpl_FinishOf : Nat := 347
abbrev gimpl_FitsHello : Nat := 348
abbrev gimpl_ChecksOut : Nat := 349
abbrev gimpl_copyExts_1 : Nat := 350
abbrev gimpl_ExtOf_1 : Nat := 351
abbrev gslices_IndexFunc___impl_Ext_impl_Ext_ : Nat := 352
abbrev gimpl_Hash : Nat := 353
abbrev gimpl_Mod : Nat := 354
abbrev gspec_EqualInts : Nat := 355
abbrev gspec_EqualExts : Nat := 356
abbrev gslices_Equal___int_int_ : Nat := 357
abbrev gimpl_EqualExts : Nat := 358
abbrev gimpl_PartHello_1 : Nat := 359
abbrev gimpl_IsOpenPath : Nat := 360
abbrev gimpl_KnownOf : Nat := 361
abbrev gimpl_StripGrease : Nat := 362
abbrev gimpl_EditAnswer_1 : Nat := 363
abbrev gimpl_IsTranscript : Nat := 364
abbrev gimpl_TranscriptHash : Nat := 365
abbrev gimpl_KeyedHash : Nat := 366
abbrev gimpl_EncodeExts : Nat := 367
abbrev gslices_Concat___int_int_ : Nat := 368
abbrev gimpl_IsAnswer : Nat := 369
abbrev gimpl_HasGrease : Nat := 370
abbrev gimpl_equalExt : Nat := 371
abbrev gslices_EqualFunc___impl_Ext___impl_Ext_impl_Ext_impl_Ext_ : Nat := 372
abbrev gimpl_StripGrease_1 : Nat := 373
abbrev gimpl_KnownOf_1 : Nat := 374
abbrev gimpl_IsTranscript_1 : Nat := 375
abbrev glaws_FnExactEventName : Nat := 376
abbrev gimpl_EventName : Nat := 377
abbrev glaws_FnExactIsBadDial : Nat := 378
abbrev glaws_FnExactCountKind : Nat := 379
abbrev glaws_szEventS : Nat := 380
abbrev glaws_toEventS : Nat := 381
abbrev gspec_CountKind : Nat := 382
abbrev gimpl_CountKind : Nat := 383
abbrev glaws_eqEventS : Nat := 384
abbrev glaws_FnExactExampleEnds : Nat := 385
abbrev glaws_szEvent : Nat := 386
abbrev glaws_toEvent : Nat := 387
abbrev glaws_eqEvent : Nat := 388
abbrev gslices_Index___int_int_ : Nat := 389
abbrev gslices_IndexFunc___string_string_ : Nat := 390
abbrev gmath_bits_Len : Nat := 391
abbrev gslices_pdqsortOrdered_int_ : Nat := 392
abbrev gslices_IndexFunc___impl_Endpoint_impl_Endpoint_ : Nat := 393
abbrev gslices_insertionSortOrdered_int_ : Nat := 394
abbrev gslices_heapSortOrdered_int_ : Nat := 395
abbrev gslices_breakPatternsOrdered_int_ : Nat := 396
abbrev gslices_choosePivotOrdered_int_ : Nat := 397
abbrev gslices_reverseRangeOrdered_int_ : Nat := 398
abbrev gslices_partialInsertionSortOrdered_int_ : Nat := 399
abbrev gcmp_Less_int_ : Nat := 400
abbrev gslices_partitionEqualOrdered_int_ : Nat := 401
abbrev gslices_partitionOrdered_int_ : Nat := 402
abbrev gslices_IndexFunc___impl_Logged_impl_Logged_ : Nat := 403
abbrev gslices_IndexFunc___int_int_ : Nat := 404
abbrev gslices_IndexFunc_____int___int_ : Nat := 405
abbrev gslices_IndexFunc___impl_Box_impl_Box_ : Nat := 406
abbrev gslices_siftDownOrdered_int_ : Nat := 407
abbrev gslices_nextPowerOfTwo : Nat := 408
abbrev g__slices_xorshift__Next : Nat := 409
abbrev gslices_medianAdjacentOrdered_int_ : Nat := 410
abbrev gslices_medianOrdered_int_ : Nat := 411
abbrev gslices_rotateRight_int_ : Nat := 412
abbrev gslices_rotateLeft_int_ : Nat := 413
abbrev gslices_order2Ordered_int_ : Nat := 414
abbrev gslices_Reverse___int_int_ : Nat := 415
abbrev gslices_rotateRight_impl_Ext_ : Nat := 416
abbrev gslices_rotateLeft_impl_Ext_ : Nat := 417
abbrev gslices_Reverse___impl_Ext_impl_Ext_ : Nat := 418
abbrev gslices_Grow___int_int_ : Nat := 419
abbrev glaws_FnExactTriesOf : Nat := 420
abbrev gspec_TriesOf : Nat := 421
abbrev gimpl_TriesOf : Nat := 422
abbrev glaws_FnExactDialsBy : Nat := 423
abbrev gspec_DialsBy : Nat := 424
abbrev gimpl_DialsBy : Nat := 425
abbrev glaws_FnExactOkShare : Nat := 426
abbrev gspec_OkShare : Nat := 427
abbrev gimpl_OkShare : Nat := 428
abbrev glaws_FnExactIsSober : Nat := 429
abbrev glaws_FnExactIsCounted : Nat := 430
abbrev glaws_FnExactIsOnNew : Nat := 431
abbrev glaws_FnExactOnNewCount : Nat := 432
abbrev gspec_OnNewCount : Nat := 433
abbrev gimpl_OnNewCount : Nat := 434
abbrev glaws_FnExactSignalNow : Nat := 435
abbrev glaws_FnExactHasVersion : Nat := 436
abbrev glaws_FnExactHardEnds : Nat := 437
abbrev glaws_FnExactStepTick : Nat := 438
abbrev glaws_FnExactStepClear : Nat := 439
abbrev glaws_FnExactStepBox : Nat := 440
abbrev glaws_markBox : Nat := 441
abbrev glaws_FnExactNewWorld : Nat := 442
abbrev glaws_FnExactLeaveRollout : Nat := 443
abbrev glaws_FnExactStepRetire : Nat := 444
abbrev glaws_FnExactBestNow : Nat := 445
abbrev glaws_FnExactVersionCounts : Nat := 446
abbrev glaws_FnExactReportNow : Nat := 447
abbrev glaws_FnExactFormatDeal : Nat := 448
abbrev glaws_FnExactFormatDialed : Nat := 449
abbrev glaws_FnExactFormatEnd : Nat := 450
abbrev glaws_FnExactFormatWorld : Nat := 451
abbrev glaws_FnExactFormatList : Nat := 452
abbrev glaws_FnExactFormatRollout : Nat := 453
abbrev glaws_FnExactEnterStage : Nat := 454
abbrev glaws_FnExactHurtEnds : Nat := 455
abbrev glaws_FnExactStepStart : Nat := 456
abbrev glaws_FnExactIsBounded : Nat := 457
abbrev glaws_FnExactStepRevive : Nat := 458
abbrev glaws_FnStages : Nat := 459
abbrev glaws_big : Nat := 460
abbrev gspec_DrawEnterStage : Nat := 461
abbrev glaws_left : Nat := 462
abbrev glaws_within : Nat := 463
abbrev glaws_FnMeasured : Nat := 464
abbrev gspec_DrawOkShare : Nat := 465
abbrev glaws_sumOf : Nat := 466
abbrev glaws_FnExactStepStage : Nat := 467
abbrev glaws_FnDialing : Nat := 468
abbrev gspec_DrawDialOf : Nat := 469
abbrev gimpl_EndVersions : Nat := 470
abbrev glaws_contains : Nat := 471
abbrev gspec_DrawSignalNow : Nat := 472
abbrev gspec_l1New : Nat := 473
abbrev gspec_l1Once : Nat := 474
abbrev gspec_l32Any : Nat := 475
abbrev gspec_l33World : Nat := 476
abbrev gspec_l38World : Nat := 477
abbrev gspec_l1Below : Nat := 478
abbrev gspec_l32World : Nat := 479
abbrev gspec_l12Any : Nat := 480
abbrev gspec_l1Int : Nat := 481
abbrev gspec_l31Any : Nat := 482
abbrev gspec_l26Any : Nat := 483
abbrev gspec_l36Events : Nat := 484
abbrev gspec_RunEvents : Nat := 485
abbrev gspec_l1Byte : Nat := 486
abbrev gspec_l26Draw : Nat := 487
abbrev gspec_l31Draw : Nat := 488
abbrev gspec_l17Tags : Nat := 489
abbrev gspec_l12Draw : Nat := 490
abbrev gspec_l19Any : Nat := 491
abbrev gspec_l36Event : Nat := 492
abbrev gspec_l19Path : Nat := 493
abbrev gspec_l19Draw : Nat := 494
abbrev glaws_FnWorlds : Nat := 495
abbrev gspec_DrawNewWorld : Nat := 496
abbrev gspec_DrawEndVersions : Nat := 497
abbrev gimpl_EqualInts : Nat := 498
abbrev gspec_DrawEqualWorlds : Nat := 499
abbrev gimpl_EqualWorlds : Nat := 500
abbrev gslices_EqualFunc___impl_Endpoint___impl_Endpoint_impl_Endpoint_impl_Endpoint_ : Nat := 501
abbrev gimpl_EqualEndpoints : Nat := 502
abbrev gimpl_EqualBoxes : Nat := 503
abbrev gslices_EqualFunc___impl_Box___impl_Box_impl_Box_impl_Box_ : Nat := 504
abbrev gimpl_EqualRollouts : Nat := 505
abbrev gslices_EqualFunc___impl_Dialed___impl_Dialed_impl_Dialed_impl_Dialed_ : Nat := 506
abbrev gimpl_EqualDialed : Nat := 507
abbrev gimpl_EqualDeals : Nat := 508
abbrev gslices_EqualFunc___impl_Logged___impl_Logged_impl_Logged_impl_Logged_ : Nat := 509
abbrev gimpl_equalLogged : Nat := 510
end Go.Eng.T

namespace Go.Eng.T

abbrev I (a : Int) : V := .sc (.int .i64 a)
abbrev B (a : Bool) : V := .sc (.bool a)
abbrev S (a : ByteArray) : V := .sc (.string a)
abbrev Rel := List V → List O → V → List O → Prop

def ints (xs : List Int) : List V := xs.map fun x => .sc (.int .i64 x)

@[simp] theorem ints_len (xs : List Int) : (ints xs).length = xs.length := by simp [ints]
@[simp] theorem ints_nil : ints [] = [] := rfl
theorem ints_get (xs : List Int) (j : Nat) : (ints xs)[j]? = (xs[j]?).map fun x => V.sc (.int .i64 x) := by simp [ints]
@[simp] theorem ints_at {xs : List Int} {j : Nat} (h : j < xs.length) : (ints xs)[j]? = some (V.sc (.int .i64 xs[j])) := by simp [ints, h]
@[simp] theorem ints_elem {xs : List Int} {j : Nat} (h : j < (ints xs).length) : (ints xs)[j] = V.sc (.int .i64 (xs[j]'(by simpa using h))) := by simp [ints]
@[simp] theorem ints_ro (xs : List Int) (k : Nat) : (ints xs).map (roCell k) = ints xs := by simp [ints, Function.comp_def, roCell]
theorem ints_app (xs ys : List Int) : ints xs ++ ints ys = ints (xs ++ ys) := by simp [ints]
@[simp] theorem ints_push (xs : List Int) (y : Int) : ints xs ++ [V.sc (.int .i64 y)] = ints (xs ++ [y]) := by simp [ints]
@[simp] theorem ints_set (xs : List Int) (j : Nat) (y : Int) : (ints xs).set j (V.sc (.int .i64 y)) = ints (xs.set j y) := by simp [ints]
@[simp] theorem ints_rep (n : Nat) : (List.replicate n [V.sc (.int .i64 0)]).flatten = ints (List.replicate n 0) := by
  induction n with
  | zero => rfl
  | succ n ih => simp [List.replicate_succ, ints] at *
@[simp] theorem ints_sc (xs : List Int) : (ints xs).all isSc = true := by simp [ints, isSc]
@[simp] theorem ints_part (xs : List Int) (o n : Nat) : part (ints xs) 1 o n = ints ((xs.drop o).take n) := by simp [part, ints]
@[simp] theorem ints_isSc : ∀ xs : List Int, (∀ x, x ∈ ints xs → isSc x = true) = True := by simp [ints, isSc]

@[simp] theorem getAt_lit (a : V) (cs : List V) (off n : Nat) : getAt (a :: cs) off n = if off + n ≤ cs.length + 1 then some (((a :: cs).drop off).take n) else none := by simp [getAt]

structure Deal where
  ok : Bool
  version : Int
  tags : List Int
  deriving DecidableEq
structure Box where
  limit : Int
  drops : List Int
  strips : List Int
  lists : Bool
  deriving DecidableEq
structure Dialed where
  deal : Deal
  tries : Int
  up : List Int
  deriving DecidableEq
structure Rollout where
  version : Int
  stages : List Int
  pos : Int
  off : Bool
  deriving DecidableEq
structure Endpoint where
  versions : List Int
  tags : List Int
  path : List Box
  cls : Int
  deriving DecidableEq
structure Logged where
  fin : Int
  tick : Int
  on : Bool
  dialed : Dialed
  deriving DecidableEq
structure World where
  server : List Int
  tags : List Int
  key : Int
  ends : List Endpoint
  rollout : Rollout
  least : Int
  percent : Int
  stage : List Dialed
  log : List Logged
  now : Int
  hurt : Int
  reached : Int
  deriving DecidableEq
structure Event where
  kind : Int
  n : Int
  box : Box
  deriving DecidableEq

abbrev sl (fl e n : Nat) (cs : List V) : V := .sl fl e n cs
def eDeal (d : Deal) : List V := [.sc (.bool d.ok), .sc (.int .i64 d.version), .sl 0 1 d.tags.length (ints d.tags)]
def eBox (d : Box) : List V := [.sc (.int .i64 d.limit), .sl 0 1 d.drops.length (ints d.drops), .sl 0 1 d.strips.length (ints d.strips), .sc (.bool d.lists)]
def eDialed (d : Dialed) : List V := [.sc (.bool d.deal.ok), .sc (.int .i64 d.deal.version), .sl 0 1 d.deal.tags.length (ints d.deal.tags), .sc (.int .i64 d.tries), .sl 0 1 d.up.length (ints d.up)]
def eRollout (d : Rollout) : List V := [.sc (.int .i64 d.version), .sl 0 1 d.stages.length (ints d.stages), .sc (.int .i64 d.pos), .sc (.bool d.off)]
def eEndpoint (d : Endpoint) : List V := [.sl 0 1 d.versions.length (ints d.versions), .sl 0 1 d.tags.length (ints d.tags), .sl 0 4 d.path.length (d.path.flatMap eBox), .sc (.int .i64 d.cls)]
def eLogged (d : Logged) : List V := [.sc (.int .i64 d.fin), .sc (.int .i64 d.tick), .sc (.bool d.on), .sc (.bool d.dialed.deal.ok), .sc (.int .i64 d.dialed.deal.version), .sl 0 1 d.dialed.deal.tags.length (ints d.dialed.deal.tags), .sc (.int .i64 d.dialed.tries), .sl 0 1 d.dialed.up.length (ints d.dialed.up)]
def eWorld (d : World) : List V := [.sl 0 1 d.server.length (ints d.server), .sl 0 1 d.tags.length (ints d.tags), .sc (.int .i64 d.key), .sl 0 4 d.ends.length (d.ends.flatMap eEndpoint), .sc (.int .i64 d.rollout.version), .sl 0 1 d.rollout.stages.length (ints d.rollout.stages), .sc (.int .i64 d.rollout.pos), .sc (.bool d.rollout.off), .sc (.int .i64 d.least), .sc (.int .i64 d.percent), .sl 0 5 d.stage.length (d.stage.flatMap eDialed), .sl 0 8 d.log.length (d.log.flatMap eLogged), .sc (.int .i64 d.now), .sc (.int .i64 d.hurt), .sc (.int .i64 d.reached)]
def eEvent (d : Event) : List V := [.sc (.int .i64 d.kind), .sc (.int .i64 d.n), .sc (.int .i64 d.box.limit), .sl 0 1 d.box.drops.length (ints d.box.drops), .sl 0 1 d.box.strips.length (ints d.box.strips), .sc (.bool d.box.lists)]

/-- an argument's cells -/
abbrev arg (cs : List V) : V := .agg (cs.map (roCell 1))

section
variable {α : Type} {f : α → List V} {e : Nat}
theorem flat_ro (hf : ∀ x, (f x).map (roCell 0) = f x) (xs : List α) : (xs.flatMap f).map (roCell 0) = xs.flatMap f := by
  induction xs with
  | nil => rfl
  | cons x xs ih => simp [hf, ih]
theorem putAt_app (cs ds : List V) (o : Nat) : ∀ (azs : List V), o + azs.length ≤ ds.length → putAt (cs ++ ds) (cs.length + o) azs = cs ++ putAt ds o azs := by
  intro azs
  induction azs generalizing ds o with
  | nil => intro _; simp [putAt]
  | cons a azs ih =>
    intro h
    simp only [putAt, List.length_cons] at *
    rw [List.set_append_right _ _ (by omega), show cs.length + o - cs.length = o by omega, show cs.length + o + 1 = cs.length + (o + 1) by omega]
    exact ih _ _ (by simp; omega)
theorem putAt_zero : ∀ (ds azs : List V), azs.length ≤ ds.length → putAt ds 0 azs = azs ++ ds.drop azs.length := by
  have key : ∀ (azs pre ds : List V), azs.length ≤ ds.length → putAt (pre ++ ds) pre.length azs = pre ++ azs ++ ds.drop azs.length := by
    intro azs
    induction azs with
    | nil => intro pre ds _; simp [putAt]
    | cons a azs ih =>
      intro pre ds h
      cases ds with
      | nil => simp at h
      | cons d ds =>
        have := ih (pre ++ [a]) ds (by simpa using h)
        simp only [putAt]
        rw [List.set_append_right _ _ (Nat.le_refl _), Nat.sub_self, List.set_cons_zero]
        simpa using this
  intro ds azs h
  simpa using key azs [] ds h
theorem putAt_flat (hf : ∀ x, (f x).length = e) {xs : List α} {i : Nat} (hi : i < xs.length) (x : α) : putAt (xs.flatMap f) (i * e) (f x) = (xs.set i x).flatMap f := by
  induction xs generalizing i with
  | nil => simp at hi
  | cons y ys ih =>
    cases i with
    | zero =>
      rw [Nat.zero_mul, putAt_zero _ _ (by simp [hf])]
      simp [hf]
    | succ i =>
      simp only [List.flatMap_cons, List.set_cons_succ]
      rw [show (i + 1) * e = (f y).length + i * e by rw [hf, Nat.add_mul]; omega, putAt_app]
      · rw [ih (by simpa using hi)]
      · rw [flat_len hf, hf]
        have := Nat.mul_le_mul_right e (show i + 1 ≤ ys.length by simp at hi; omega)
        rw [Nat.add_mul] at this; omega
theorem rep_flat (z : α) (n : Nat) : (List.replicate n (f z)).flatten = (List.replicate n z).flatMap f := by
  induction n with
  | zero => rfl
  | succ n ih => simp [List.replicate_succ, ih]
end

/-- nothing lies there -/
def fd (o : O) : Prop := o = .free ∨ o = .dead
@[simp] theorem fd_free : fd .free := .inl rfl
@[simp] theorem fd_dead : fd .dead := .inr rfl

/-- a copy under way -/
def mix {α : Type} (z : α) (xs : List α) (j : Nat) : List α := xs.take j ++ List.replicate (xs.length - j) z
section
variable {α : Type} {z : α} {xs : List α} {j : Nat}
@[simp] theorem mix_len (h : j ≤ xs.length) : (mix z xs j).length = xs.length := by simp [mix]; omega
theorem mix_zero : mix z xs 0 = List.replicate xs.length z := by simp [mix]
theorem mix_all (h : xs.length ≤ j) : mix z xs j = xs := by simp [mix, Nat.sub_eq_zero_of_le h, List.take_of_length_le h]
theorem mix_set (h : j < xs.length) : (mix z xs j).set j xs[j] = mix z xs (j + 1) := by
  unfold mix
  have hl : (xs.take j).length = j := by simp; omega
  rw [List.set_append_right _ _ (by omega), hl, Nat.sub_self]
  obtain ⟨k, hk⟩ : ∃ k, xs.length - j = k + 1 := ⟨xs.length - j - 1, by omega⟩
  have hk' : xs.length - (j + 1) = k := by omega
  have ht : xs.take (j + 1) = xs.take j ++ [xs[j]] := by simp
  rw [hk, hk', List.replicate_succ, List.set_cons_zero, ht, List.append_assoc]
  rfl
end

theorem wrap_id {n : Int} (h1 : -9223372036854775808 ≤ n) (h2 : n ≤ 9223372036854775807) : IntKind.i64.wrap n = n := by
  show (if (true && decide (n % (2 ^ 64 : Int) ≥ (2 ^ 63 : Int))) = true then n % (2 ^ 64 : Int) - (2 ^ 64 : Int) else n % (2 ^ 64 : Int)) = n
  by_cases h : n % (2 ^ 64 : Int) ≥ (2 ^ 63 : Int)
  · rw [if_pos (by simp only [h]; rfl)]; omega
  · rw [if_neg (by simp only [h]; simp)]; omega

section
variable {α : Type} {xs ys : List α} {j : Nat}
theorem take_step (hx : j < xs.length) (hy : j < ys.length) (h : xs.take j = ys.take j) (he : xs[j] = ys[j]) : xs.take (j + 1) = ys.take (j + 1) := by
  rw [List.take_add_one, List.take_add_one, h, List.getElem?_eq_getElem hx, List.getElem?_eq_getElem hy, he]
theorem take_all (hx : xs.length ≤ j) (hl : xs.length = ys.length) (h : xs.take j = ys.take j) : xs = ys := by
  rwa [List.take_of_length_le hx, List.take_of_length_le (by omega)] at h
end

/-- how much a value holds -/
def sumF {α : Type} (f : α → Nat) (xs : List α) : Nat := xs.length + (xs.map f).sum
def szDeal (d : Deal) : Nat := d.tags.length
def szBox (d : Box) : Nat := d.drops.length + d.strips.length
def szDialed (d : Dialed) : Nat := szDeal d.deal + d.up.length
def szRollout (d : Rollout) : Nat := d.stages.length
def szEndpoint (d : Endpoint) : Nat := d.versions.length + d.tags.length + sumF szBox d.path
def szLogged (d : Logged) : Nat := szDialed d.dialed
def szWorld (d : World) : Nat := d.server.length + d.tags.length + sumF szEndpoint d.ends + szRollout d.rollout + sumF szDialed d.stage + sumF szLogged d.log
def szEvent (d : Event) : Nat := szBox d.box
/-- what is left of l, or -1 -/
def szl (n : Nat) (l : Int) : Int := if l < n then -1 else l - n

section
variable {α : Type} {f : α → Nat} {xs : List α} {j : Nat}
theorem sum_take (h : j < xs.length) : ((xs.take (j + 1)).map f).sum = ((xs.take j).map f).sum + f xs[j] := by
  rw [List.take_add_one, List.getElem?_eq_getElem h, List.map_append, List.sum_append, Option.toList_some, List.map_cons, List.map_nil, List.sum_cons, List.sum_nil, Nat.add_zero]
theorem sum_take_le : ((xs.take j).map f).sum ≤ (xs.map f).sum := by
  conv => rhs; rw [← List.take_append_drop j xs, List.map_append, List.sum_append]
  omega
theorem sum_all (h : xs.length ≤ j) : ((xs.take j).map f).sum = (xs.map f).sum := by rw [List.take_of_length_le h]
theorem size_at (h : j < xs.length) : f xs[j] ≤ sumF f xs := by
  have h1 := sum_take (f := f) h
  have h2 := sum_take_le (f := f) (xs := xs) (j := j + 1)
  unfold sumF; omega
theorem size_len : xs.length ≤ sumF f xs := by unfold sumF; omega
end
/-- lengths that a value may have at all -/
def lnInts (xs : List Int) : Prop := xs.length ≤ maxLen
def lnS {α : Type} (f : α → Prop) (xs : List α) : Prop := xs.length ≤ maxLen ∧ ∀ (j : Nat) (h : j < xs.length), f xs[j]
def lnDeal (d : Deal) : Prop := lnInts d.tags
def lnBox (d : Box) : Prop := lnInts d.drops ∧ lnInts d.strips
def lnDialed (d : Dialed) : Prop := lnDeal d.deal ∧ lnInts d.up
def lnRollout (d : Rollout) : Prop := lnInts d.stages
def lnEndpoint (d : Endpoint) : Prop := lnInts d.versions ∧ lnInts d.tags ∧ lnS lnBox d.path
def lnLogged (d : Logged) : Prop := lnDialed d.dialed
def lnWorld (d : World) : Prop := lnInts d.server ∧ lnInts d.tags ∧ lnS lnEndpoint d.ends ∧ lnRollout d.rollout ∧ lnS lnDialed d.stage ∧ lnS lnLogged d.log
def lnEvent (d : Event) : Prop := lnBox d.box

theorem eDeal_len (x : Deal) : (eDeal x).length = 3 := rfl
theorem eBox_len (x : Box) : (eBox x).length = 4 := rfl
theorem eDialed_len (x : Dialed) : (eDialed x).length = 5 := rfl
theorem eRollout_len (x : Rollout) : (eRollout x).length = 4 := rfl
theorem eEndpoint_len (x : Endpoint) : (eEndpoint x).length = 4 := rfl
theorem eLogged_len (x : Logged) : (eLogged x).length = 8 := rfl
theorem eWorld_len (x : World) : (eWorld x).length = 15 := rfl
theorem eEvent_len (x : Event) : (eEvent x).length = 6 := rfl
@[simp] theorem eBox_ro (xs : List Box) : (xs.flatMap eBox).map (roCell 0) = xs.flatMap eBox := flat_ro (fun _ => rfl) xs
@[simp] theorem eDialed_ro (xs : List Dialed) : (xs.flatMap eDialed).map (roCell 0) = xs.flatMap eDialed := flat_ro (fun _ => rfl) xs
@[simp] theorem eEndpoint_ro (xs : List Endpoint) : (xs.flatMap eEndpoint).map (roCell 0) = xs.flatMap eEndpoint := flat_ro (fun _ => rfl) xs
@[simp] theorem eLogged_ro (xs : List Logged) : (xs.flatMap eLogged).map (roCell 0) = xs.flatMap eLogged := flat_ro (fun _ => rfl) xs
@[simp] theorem eEvent_ro (xs : List Event) : (xs.flatMap eEvent).map (roCell 0) = xs.flatMap eEvent := flat_ro (fun _ => rfl) xs
@[simp high] theorem eBox_at {xs : List Box} {j : Nat} (h : j < xs.length) : getAt (xs.flatMap eBox) (j * 4) 4 = some (eBox xs[j]) := getAt_flat eBox_len h
@[simp high] theorem eDialed_at {xs : List Dialed} {j : Nat} (h : j < xs.length) : getAt (xs.flatMap eDialed) (j * 5) 5 = some (eDialed xs[j]) := getAt_flat eDialed_len h
@[simp high] theorem eEndpoint_at {xs : List Endpoint} {j : Nat} (h : j < xs.length) : getAt (xs.flatMap eEndpoint) (j * 4) 4 = some (eEndpoint xs[j]) := getAt_flat eEndpoint_len h
@[simp high] theorem eLogged_at {xs : List Logged} {j : Nat} (h : j < xs.length) : getAt (xs.flatMap eLogged) (j * 8) 8 = some (eLogged xs[j]) := getAt_flat eLogged_len h
@[simp high] theorem eEvent_at {xs : List Event} {j : Nat} (h : j < xs.length) : getAt (xs.flatMap eEvent) (j * 6) 6 = some (eEvent xs[j]) := getAt_flat eEvent_len h
@[simp high] theorem eBox_flen (xs : List Box) : (xs.flatMap eBox).length = xs.length * 4 := flat_len eBox_len xs
@[simp high] theorem eBox_put {xs : List Box} {j : Nat} (h : j < xs.length) (a : Int) (b c : List Int) (d : Bool) {nb : Nat} (hb : nb = b.length) {nc : Nat} (hc : nc = c.length) : putAt (xs.flatMap eBox) (j * 4) [.sc (.int .i64 a), .sl 0 1 nb (ints b), .sl 0 1 nc (ints c), .sc (.bool d)] = (xs.set j ⟨a, b, c, d⟩).flatMap eBox := by subst hb; subst hc; exact putAt_flat eBox_len h ⟨a, b, c, d⟩
theorem eBox_push (xs : List Box) (a : Int) (b c : List Int) (d : Bool) {nb : Nat} (hb : nb = b.length) {nc : Nat} (hc : nc = c.length) : xs.flatMap eBox ++ [.sc (.int .i64 a), .sl 0 1 nb (ints b), .sl 0 1 nc (ints c), .sc (.bool d)] = (xs ++ [(⟨a, b, c, d⟩ : Box)]).flatMap eBox := by subst hb; subst hc; simp [eBox]
@[simp high] theorem eDialed_flen (xs : List Dialed) : (xs.flatMap eDialed).length = xs.length * 5 := flat_len eDialed_len xs
@[simp high] theorem eDialed_put {xs : List Dialed} {j : Nat} (h : j < xs.length) (a : Bool) (b : Int) (c : List Int) (d : Int) (u : List Int) {nc : Nat} (hc : nc = c.length) {nu : Nat} (hu : nu = u.length) : putAt (xs.flatMap eDialed) (j * 5) [.sc (.bool a), .sc (.int .i64 b), .sl 0 1 nc (ints c), .sc (.int .i64 d), .sl 0 1 nu (ints u)] = (xs.set j ⟨⟨a, b, c⟩, d, u⟩).flatMap eDialed := by subst hc; subst hu; exact putAt_flat eDialed_len h ⟨⟨a, b, c⟩, d, u⟩
theorem eDialed_push (xs : List Dialed) (a : Bool) (b : Int) (c : List Int) (d : Int) (u : List Int) {nc : Nat} (hc : nc = c.length) {nu : Nat} (hu : nu = u.length) : xs.flatMap eDialed ++ [.sc (.bool a), .sc (.int .i64 b), .sl 0 1 nc (ints c), .sc (.int .i64 d), .sl 0 1 nu (ints u)] = (xs ++ [(⟨⟨a, b, c⟩, d, u⟩ : Dialed)]).flatMap eDialed := by subst hc; subst hu; simp [eDialed]
@[simp high] theorem eEndpoint_flen (xs : List Endpoint) : (xs.flatMap eEndpoint).length = xs.length * 4 := flat_len eEndpoint_len xs
@[simp high] theorem eEndpoint_put {xs : List Endpoint} {j : Nat} (h : j < xs.length) (a b : List Int) (c : List Box) (d : Int) {na : Nat} (ha : na = a.length) {nb : Nat} (hb : nb = b.length) {nc : Nat} (hc : nc = c.length) : putAt (xs.flatMap eEndpoint) (j * 4) [.sl 0 1 na (ints a), .sl 0 1 nb (ints b), .sl 0 4 nc (c.flatMap eBox), .sc (.int .i64 d)] = (xs.set j ⟨a, b, c, d⟩).flatMap eEndpoint := by subst ha; subst hb; subst hc; exact putAt_flat eEndpoint_len h ⟨a, b, c, d⟩
theorem eEndpoint_push (xs : List Endpoint) (a b : List Int) (c : List Box) (d : Int) {na : Nat} (ha : na = a.length) {nb : Nat} (hb : nb = b.length) {nc : Nat} (hc : nc = c.length) : xs.flatMap eEndpoint ++ [.sl 0 1 na (ints a), .sl 0 1 nb (ints b), .sl 0 4 nc (c.flatMap eBox), .sc (.int .i64 d)] = (xs ++ [(⟨a, b, c, d⟩ : Endpoint)]).flatMap eEndpoint := by subst ha; subst hb; subst hc; simp [eEndpoint]
@[simp high] theorem eLogged_flen (xs : List Logged) : (xs.flatMap eLogged).length = xs.length * 8 := flat_len eLogged_len xs
@[simp high] theorem eLogged_put {xs : List Logged} {j : Nat} (h : j < xs.length) (m n : Int) (o a : Bool) (b : Int) (c : List Int) (d : Int) (u : List Int) {nc : Nat} (hc : nc = c.length) {nu : Nat} (hu : nu = u.length) : putAt (xs.flatMap eLogged) (j * 8) [.sc (.int .i64 m), .sc (.int .i64 n), .sc (.bool o), .sc (.bool a), .sc (.int .i64 b), .sl 0 1 nc (ints c), .sc (.int .i64 d), .sl 0 1 nu (ints u)] = (xs.set j ⟨m, n, o, ⟨⟨a, b, c⟩, d, u⟩⟩).flatMap eLogged := by subst hc; subst hu; exact putAt_flat eLogged_len h ⟨m, n, o, ⟨⟨a, b, c⟩, d, u⟩⟩
theorem eLogged_push (xs : List Logged) (m n : Int) (o a : Bool) (b : Int) (c : List Int) (d : Int) (u : List Int) {nc : Nat} (hc : nc = c.length) {nu : Nat} (hu : nu = u.length) : xs.flatMap eLogged ++ [.sc (.int .i64 m), .sc (.int .i64 n), .sc (.bool o), .sc (.bool a), .sc (.int .i64 b), .sl 0 1 nc (ints c), .sc (.int .i64 d), .sl 0 1 nu (ints u)] = (xs ++ [(⟨m, n, o, ⟨⟨a, b, c⟩, d, u⟩⟩ : Logged)]).flatMap eLogged := by subst hc; subst hu; simp [eLogged]
@[simp high] theorem eEvent_flen (xs : List Event) : (xs.flatMap eEvent).length = xs.length * 6 := flat_len eEvent_len xs
@[simp high] theorem eEvent_put {xs : List Event} {j : Nat} (h : j < xs.length) (m n : Int) (a : Int) (b c : List Int) (d : Bool) {nb : Nat} (hb : nb = b.length) {nc : Nat} (hc : nc = c.length) : putAt (xs.flatMap eEvent) (j * 6) [.sc (.int .i64 m), .sc (.int .i64 n), .sc (.int .i64 a), .sl 0 1 nb (ints b), .sl 0 1 nc (ints c), .sc (.bool d)] = (xs.set j ⟨m, n, ⟨a, b, c, d⟩⟩).flatMap eEvent := by subst hb; subst hc; exact putAt_flat eEvent_len h ⟨m, n, ⟨a, b, c, d⟩⟩
theorem eEvent_push (xs : List Event) (m n : Int) (a : Int) (b c : List Int) (d : Bool) {nb : Nat} (hb : nb = b.length) {nc : Nat} (hc : nc = c.length) : xs.flatMap eEvent ++ [.sc (.int .i64 m), .sc (.int .i64 n), .sc (.int .i64 a), .sl 0 1 nb (ints b), .sl 0 1 nc (ints c), .sc (.bool d)] = (xs ++ [(⟨m, n, ⟨a, b, c, d⟩⟩ : Event)]).flatMap eEvent := by subst hb; subst hc; simp [eEvent]

@[simp high] theorem eBox_c0 {xs : List Box} {j : Nat} (h : j < xs.length) : (xs.flatMap eBox)[j * 4]? = some (.sc (.int .i64 xs[j].limit)) := by
  have := getCell_flat (o := 0) eBox_len h (by omega)
  simpa [eBox] using this
@[simp high] theorem eBox_c1 {xs : List Box} {j : Nat} (h : j < xs.length) : (xs.flatMap eBox)[j * 4 + 1]? = some (.sl 0 1 xs[j].drops.length (ints xs[j].drops)) := by
  have := getCell_flat (o := 1) eBox_len h (by omega)
  simpa [eBox] using this
@[simp high] theorem eBox_c2 {xs : List Box} {j : Nat} (h : j < xs.length) : (xs.flatMap eBox)[j * 4 + 2]? = some (.sl 0 1 xs[j].strips.length (ints xs[j].strips)) := by
  have := getCell_flat (o := 2) eBox_len h (by omega)
  simpa [eBox] using this
@[simp high] theorem eBox_c3 {xs : List Box} {j : Nat} (h : j < xs.length) : (xs.flatMap eBox)[j * 4 + 3]? = some (.sc (.bool xs[j].lists)) := by
  have := getCell_flat (o := 3) eBox_len h (by omega)
  simpa [eBox] using this
@[simp high] theorem eDialed_c0 {xs : List Dialed} {j : Nat} (h : j < xs.length) : (xs.flatMap eDialed)[j * 5]? = some (.sc (.bool xs[j].deal.ok)) := by
  have := getCell_flat (o := 0) eDialed_len h (by omega)
  simpa [eDialed] using this
@[simp high] theorem eDialed_c1 {xs : List Dialed} {j : Nat} (h : j < xs.length) : (xs.flatMap eDialed)[j * 5 + 1]? = some (.sc (.int .i64 xs[j].deal.version)) := by
  have := getCell_flat (o := 1) eDialed_len h (by omega)
  simpa [eDialed] using this
@[simp high] theorem eDialed_c2 {xs : List Dialed} {j : Nat} (h : j < xs.length) : (xs.flatMap eDialed)[j * 5 + 2]? = some (.sl 0 1 xs[j].deal.tags.length (ints xs[j].deal.tags)) := by
  have := getCell_flat (o := 2) eDialed_len h (by omega)
  simpa [eDialed] using this
@[simp high] theorem eDialed_c3 {xs : List Dialed} {j : Nat} (h : j < xs.length) : (xs.flatMap eDialed)[j * 5 + 3]? = some (.sc (.int .i64 xs[j].tries)) := by
  have := getCell_flat (o := 3) eDialed_len h (by omega)
  simpa [eDialed] using this
@[simp high] theorem eDialed_c4 {xs : List Dialed} {j : Nat} (h : j < xs.length) : (xs.flatMap eDialed)[j * 5 + 4]? = some (.sl 0 1 xs[j].up.length (ints xs[j].up)) := by
  have := getCell_flat (o := 4) eDialed_len h (by omega)
  simpa [eDialed] using this
@[simp high] theorem eEndpoint_c0 {xs : List Endpoint} {j : Nat} (h : j < xs.length) : (xs.flatMap eEndpoint)[j * 4]? = some (.sl 0 1 xs[j].versions.length (ints xs[j].versions)) := by
  have := getCell_flat (o := 0) eEndpoint_len h (by omega)
  simpa [eEndpoint] using this
@[simp high] theorem eEndpoint_c1 {xs : List Endpoint} {j : Nat} (h : j < xs.length) : (xs.flatMap eEndpoint)[j * 4 + 1]? = some (.sl 0 1 xs[j].tags.length (ints xs[j].tags)) := by
  have := getCell_flat (o := 1) eEndpoint_len h (by omega)
  simpa [eEndpoint] using this
@[simp high] theorem eEndpoint_c2 {xs : List Endpoint} {j : Nat} (h : j < xs.length) : (xs.flatMap eEndpoint)[j * 4 + 2]? = some (.sl 0 4 xs[j].path.length (xs[j].path.flatMap eBox)) := by
  have := getCell_flat (o := 2) eEndpoint_len h (by omega)
  simpa [eEndpoint] using this
@[simp high] theorem eEndpoint_c3 {xs : List Endpoint} {j : Nat} (h : j < xs.length) : (xs.flatMap eEndpoint)[j * 4 + 3]? = some (.sc (.int .i64 xs[j].cls)) := by
  have := getCell_flat (o := 3) eEndpoint_len h (by omega)
  simpa [eEndpoint] using this
@[simp high] theorem eLogged_c0 {xs : List Logged} {j : Nat} (h : j < xs.length) : (xs.flatMap eLogged)[j * 8]? = some (.sc (.int .i64 xs[j].fin)) := by
  have := getCell_flat (o := 0) eLogged_len h (by omega)
  simpa [eLogged] using this
@[simp high] theorem eLogged_c1 {xs : List Logged} {j : Nat} (h : j < xs.length) : (xs.flatMap eLogged)[j * 8 + 1]? = some (.sc (.int .i64 xs[j].tick)) := by
  have := getCell_flat (o := 1) eLogged_len h (by omega)
  simpa [eLogged] using this
@[simp high] theorem eLogged_c2 {xs : List Logged} {j : Nat} (h : j < xs.length) : (xs.flatMap eLogged)[j * 8 + 2]? = some (.sc (.bool xs[j].on)) := by
  have := getCell_flat (o := 2) eLogged_len h (by omega)
  simpa [eLogged] using this
@[simp high] theorem eLogged_c3 {xs : List Logged} {j : Nat} (h : j < xs.length) : (xs.flatMap eLogged)[j * 8 + 3]? = some (.sc (.bool xs[j].dialed.deal.ok)) := by
  have := getCell_flat (o := 3) eLogged_len h (by omega)
  simpa [eLogged] using this
@[simp high] theorem eLogged_c4 {xs : List Logged} {j : Nat} (h : j < xs.length) : (xs.flatMap eLogged)[j * 8 + 4]? = some (.sc (.int .i64 xs[j].dialed.deal.version)) := by
  have := getCell_flat (o := 4) eLogged_len h (by omega)
  simpa [eLogged] using this
@[simp high] theorem eLogged_c5 {xs : List Logged} {j : Nat} (h : j < xs.length) : (xs.flatMap eLogged)[j * 8 + 5]? = some (.sl 0 1 xs[j].dialed.deal.tags.length (ints xs[j].dialed.deal.tags)) := by
  have := getCell_flat (o := 5) eLogged_len h (by omega)
  simpa [eLogged] using this
@[simp high] theorem eLogged_c6 {xs : List Logged} {j : Nat} (h : j < xs.length) : (xs.flatMap eLogged)[j * 8 + 6]? = some (.sc (.int .i64 xs[j].dialed.tries)) := by
  have := getCell_flat (o := 6) eLogged_len h (by omega)
  simpa [eLogged] using this
@[simp high] theorem eLogged_c7 {xs : List Logged} {j : Nat} (h : j < xs.length) : (xs.flatMap eLogged)[j * 8 + 7]? = some (.sl 0 1 xs[j].dialed.up.length (ints xs[j].dialed.up)) := by
  have := getCell_flat (o := 7) eLogged_len h (by omega)
  simpa [eLogged] using this
@[simp high] theorem eEvent_c0 {xs : List Event} {j : Nat} (h : j < xs.length) : (xs.flatMap eEvent)[j * 6]? = some (.sc (.int .i64 xs[j].kind)) := by
  have := getCell_flat (o := 0) eEvent_len h (by omega)
  simpa [eEvent] using this
@[simp high] theorem eEvent_c1 {xs : List Event} {j : Nat} (h : j < xs.length) : (xs.flatMap eEvent)[j * 6 + 1]? = some (.sc (.int .i64 xs[j].n)) := by
  have := getCell_flat (o := 1) eEvent_len h (by omega)
  simpa [eEvent] using this
@[simp high] theorem eEvent_c2 {xs : List Event} {j : Nat} (h : j < xs.length) : (xs.flatMap eEvent)[j * 6 + 2]? = some (.sc (.int .i64 xs[j].box.limit)) := by
  have := getCell_flat (o := 2) eEvent_len h (by omega)
  simpa [eEvent] using this
@[simp high] theorem eEvent_c3 {xs : List Event} {j : Nat} (h : j < xs.length) : (xs.flatMap eEvent)[j * 6 + 3]? = some (.sl 0 1 xs[j].box.drops.length (ints xs[j].box.drops)) := by
  have := getCell_flat (o := 3) eEvent_len h (by omega)
  simpa [eEvent] using this
@[simp high] theorem eEvent_c4 {xs : List Event} {j : Nat} (h : j < xs.length) : (xs.flatMap eEvent)[j * 6 + 4]? = some (.sl 0 1 xs[j].box.strips.length (ints xs[j].box.strips)) := by
  have := getCell_flat (o := 4) eEvent_len h (by omega)
  simpa [eEvent] using this
@[simp high] theorem eEvent_c5 {xs : List Event} {j : Nat} (h : j < xs.length) : (xs.flatMap eEvent)[j * 6 + 5]? = some (.sc (.bool xs[j].box.lists)) := by
  have := getCell_flat (o := 5) eEvent_len h (by omega)
  simpa [eEvent] using this

theorem getPart_flat {α : Type} {f : α → List V} {e : Nat} (hf : ∀ x, (f x).length = e) {xs : List α} {j o n : Nat} (h : j < xs.length) (ho : o + n ≤ e) : getAt (xs.flatMap f) (j * e + o) n = some (((f xs[j]).drop o).take n) := by
  unfold getAt
  have hl := flat_len hf xs
  have h2 : j * e + e ≤ xs.length * e := by
    have := Nat.mul_le_mul_right e (show j + 1 ≤ xs.length by omega)
    rw [Nat.add_mul] at this; omega
  rw [hl, if_pos (by omega), ← List.drop_drop, flat_drop hf, List.drop_eq_getElem_cons h, List.flatMap_cons, List.drop_append, List.take_append]
  have h3 := hf xs[j]
  rw [List.length_drop, h3]
  have : n - (e - o) = 0 := by omega
  rw [this, List.take_zero, List.append_nil]
@[simp high] theorem eLogged_p3 {xs : List Logged} {j : Nat} (h : j < xs.length) : getAt (xs.flatMap eLogged) (j * 8 + 3) 5 = some (eDialed xs[j].dialed) := getPart_flat eLogged_len h (by omega)
@[simp high] theorem eLogged_q3 {xs : List Logged} {j : Nat} (h : j < xs.length) : getAt (xs.flatMap eLogged) (j * 8 + 3) 3 = some (eDeal xs[j].dialed.deal) := getPart_flat eLogged_len h (by omega)
@[simp high] theorem eDialed_q0 {xs : List Dialed} {j : Nat} (h : j < xs.length) : getAt (xs.flatMap eDialed) (j * 5) 3 = some (eDeal xs[j].deal) := getPart_flat (o := 0) eDialed_len h (by omega)
@[simp high] theorem eEvent_p2 {xs : List Event} {j : Nat} (h : j < xs.length) : getAt (xs.flatMap eEvent) (j * 6 + 2) 4 = some (eBox xs[j].box) := getPart_flat eEvent_len h (by omega)

attribute [simp] Nat.add_one_le_iff eDeal eBox eDialed eRollout eEndpoint eLogged eWorld eEvent
end Go.Eng.T

namespace Go.Eng.T


abbrev InS (R : Rel) : Prop := ∀ a b c : Int, R [I a, I b, I c] [] (B (decide (b ≤ a ∧ a ≤ c))) []
theorem l1In_b (D : Dn) : InS (Body D sspec_l1In) := by
  intro a b c
  by_cases h1 : b ≤ a <;> by_cases h2 : a ≤ c <;> simp -implicitDefEqProofs [h1, h2]
theorem InRange_b (D : Dn) : InS (Body D simpl_InRange) := by
  intro a b c
  by_cases h1 : b ≤ a <;> by_cases h2 : a ≤ c <;> simp -implicitDefEqProofs [h1, h2]

def evNames : List (List UInt8) := [[], [100, 105, 97, 108], [115, 116, 97, 114, 116], [115, 116, 97, 103, 101], [114, 101, 116, 105, 114, 101], [114, 101, 118, 105, 118, 101], [98, 111, 120], [99, 108, 101, 97, 114], [116, 105, 99, 107]]
def evName (k : Int) : ByteArray := if 1 ≤ k ∧ k ≤ 8 then ⟨(evNames.getD k.toNat []).toArray⟩ else ⟨#[]⟩
theorem evCases {k : Int} (h : 1 ≤ k ∧ k ≤ 8) : k = 1 ∨ k = 2 ∨ k = 3 ∨ k = 4 ∨ k = 5 ∨ k = 6 ∨ k = 7 ∨ k = 8 := by omega
abbrev EventNameS (R : Rel) : Prop := ∀ k : Int, R [I k] [] (S (evName k)) []

abbrev FnExactEventNameS (R : Rel) : Prop := ∀ k : Int, R [I k] [] (B true) []
end Go.Eng.T

namespace Go.Eng.T

abbrev szIntSS (R : Rel) : Prop := ∀ (xs : List Int) (l : Int), 0 ≤ l → l ≤ 4194304 → lnInts xs → R [.sl 1 1 xs.length (ints xs), I l] [] (I (szl xs.length l)) []
theorem szIntS_b (D : Dn) : szIntSS (Body D slaws_szIntS) := by
  intro xs l h1 h2 h3
  have hw : IntKind.i64.wrap (l - (xs.length : Int)) = l - xs.length := by unfold lnInts maxLen at h3; exact wrap_id (by omega) (by omega)
  by_cases h : l < xs.length
  · have h' : l - (xs.length : Int) < 0 := by omega
    simp -implicitDefEqProofs [hw, h, h', szl]
  · have h' : ¬ l - (xs.length : Int) < 0 := by omega
    simp -implicitDefEqProofs [hw, h, h', szl]

abbrev toIntSS (R : Rel) : Prop := ∀ (xs : List Int), xs.length * 8 ≤ 2 ^ 40 → R [.sl 1 1 xs.length (ints xs)] [] (.sl 0 1 xs.length (ints xs)) []
theorem toIntS_b (D : Dn) : toIntSS (Body D slaws_toIntS) := by
  intro xs hl
  have h1 : ((xs.length : Nat) : Int) * 8 ≤ 1099511627776 := by omega
  simp -implicitDefEqProofs [h1]
  refine swp_loop (fun k s => ∃ j, j + k = xs.length ∧ s = ⟨[.sl 1 1 xs.length (ints xs), .undef, .arr 0, .sc (.int .i64 j), .undef], [.arr 1 0 xs.length (ints (mix 0 xs j))]⟩) ?_ xs.length _ ⟨0, by simp, by simp [mix_zero, ints]⟩
  intro k s ⟨j, hj, hs⟩
  subst hs
  by_cases hjn : j < xs.length
  · have hw : IntKind.i64.wrap ((j : Int) + 1) = (j + 1 : Nat) := by rw [wrap_id (by omega) (by omega)]; simp
    simp -implicitDefEqProofs [hjn, Nat.le_of_lt hjn, mix_set]
    exact ⟨k - 1, by omega, j + 1, by omega, by simp [hw], rfl⟩
  · have hje : mix 0 xs j = xs := mix_all (by omega)
    simp -implicitDefEqProofs [hjn, hje]

abbrev eqIntSS (R : Rel) : Prop := ∀ (xs ys : List Int), xs.length ≤ maxLen → ys.length ≤ maxLen → R [.sl 1 1 xs.length (ints xs), .sl 1 1 ys.length (ints ys)] [] (B (decide (xs = ys))) []
theorem eqIntS_b (D : Dn) : eqIntSS (Body D slaws_eqIntS) := by
  intro xs ys h1 h2
  unfold maxLen at h1 h2
  by_cases hl : xs.length = ys.length
  · have hl' : (xs.length : Int) = ys.length := by omega
    simp -implicitDefEqProofs [hl']
    refine swp_loop (fun k s => ∃ j, j + k = xs.length ∧ xs.take j = ys.take j ∧ s = ⟨[.sl 1 1 xs.length (ints xs), .sl 1 1 ys.length (ints ys), .undef, .sc (.int .i64 j), .undef, .undef, .undef], []⟩) ?_ xs.length _ ⟨0, by simp, by simp, by simp⟩
    intro k s ⟨j, hj, hp, hs⟩
    subst hs
    by_cases hjn : j < xs.length
    · have hw : IntKind.i64.wrap ((j : Int) + 1) = (j + 1 : Nat) := by rw [wrap_id (by omega) (by omega)]; simp
      have hy : j < ys.length := by omega
      by_cases he : xs[j] = ys[j]
      · simp -implicitDefEqProofs [hjn, hy, he]
        exact ⟨k - 1, by omega, j + 1, by omega, take_step hjn hy hp he, by simp [hw]⟩
      · have hne : xs ≠ ys := fun h => he (by simp [h])
        simp -implicitDefEqProofs [hjn, hy, he, hne]
    · obtain rfl : xs = ys := take_all (by omega) hl hp
      simp -implicitDefEqProofs [hjn]
  · have hl' : ¬ (xs.length : Int) = ys.length := by omega
    have : xs ≠ ys := fun h => hl (by rw [h])
    simp -implicitDefEqProofs [hl', this]
end Go.Eng.T

namespace Go.Eng.T
abbrev szBoxS (R : Rel) : Prop := ∀ (x : Box) (l : Int), 0 ≤ l → l ≤ 4194304 → lnBox x → R [arg (eBox x), I l] [] (I (szl (szBox x) l)) []
theorem szBox_b (D : Dn) (hszIntS : szIntSS (D 16)) : szBoxS (Body D slaws_szBox) := by
  intro x l hl1 hl2 hln
  simp only [lnBox] at hln
  simp -implicitDefEqProofs
  refine callQ_of (hszIntS x.drops (l) (by omega) (by omega) hln.1) ?_
  by_cases g0 : l < ((x.drops.length : Nat) : Int)
  · have gg : l < ((szBox x : Nat) : Int) := by simp only [szBox]; omega
    have e1 : szl (x.drops.length) (l) = -1 := by unfold szl; rw [if_pos g0]
    have e2 : szl (szBox x) l = -1 := by unfold szl; rw [if_pos gg]
    simp -implicitDefEqProofs [e1, e2]
  have e3 : szl (x.drops.length) (l) = l - ((x.drops.length : Nat) : Int) := by unfold szl; rw [if_neg g0]
  have p0 : ¬ l - ((x.drops.length : Nat) : Int) < 0 := by omega
  simp -implicitDefEqProofs [e3, p0]
  refine callQ_of (hszIntS x.strips (l - ((x.drops.length : Nat) : Int)) (by omega) (by omega) hln.2) ?_
  by_cases g1 : l - ((x.drops.length : Nat) : Int) < ((x.strips.length : Nat) : Int)
  · have gg : l < ((szBox x : Nat) : Int) := by simp only [szBox]; omega
    have e1 : szl (x.strips.length) (l - ((x.drops.length : Nat) : Int)) = -1 := by unfold szl; rw [if_pos g1]
    have e2 : szl (szBox x) l = -1 := by unfold szl; rw [if_pos gg]
    simp -implicitDefEqProofs [e1, e2]
  have e4 : szl (x.strips.length) (l - ((x.drops.length : Nat) : Int)) = l - ((x.drops.length : Nat) : Int) - ((x.strips.length : Nat) : Int) := by unfold szl; rw [if_neg g1]
  have p1 : ¬ l - ((x.drops.length : Nat) : Int) - ((x.strips.length : Nat) : Int) < 0 := by omega
  simp -implicitDefEqProofs [e4, p1]
  have gg : ¬ l < ((szBox x : Nat) : Int) := by simp only [szBox]; omega
  unfold szl; rw [if_neg gg]; simp only [szBox] <;> omega
abbrev toBoxS (R : Rel) : Prop := ∀ x : Box, szBox x ≤ 4194304 → R [arg (eBox x)] [] (.agg (eBox x)) []
theorem toBox_b (D : Dn) (htoIntS : toIntSS (D 31)) : toBoxS (Body D slaws_toBox) := by
  intro x h
  simp only [szBox] at h
  simp -implicitDefEqProofs
  refine callQ_of (htoIntS x.drops (by omega)) ?_
  simp -implicitDefEqProofs
  refine callQ_of (htoIntS x.strips (by omega)) ?_
  simp -implicitDefEqProofs
abbrev eqBoxS (R : Rel) : Prop := ∀ x y : Box, szBox x ≤ 2 ^ 40 → szBox y ≤ 2 ^ 40 → R [arg (eBox x), arg (eBox y)] [] (B (decide (x = y))) []
theorem eqBox_b (D : Dn) (heqIntS : eqIntSS (D 47)) : eqBoxS (Body D slaws_eqBox) := by
  intro x y h1 h2
  simp only [szBox] at h1 h2
  by_cases g_limit : x.limit = y.limit
  rotate_left
  · have hne : x ≠ y := fun h => g_limit (by rw [h])
    simp -implicitDefEqProofs [g_limit, hne]
  simp -implicitDefEqProofs [g_limit]
  refine callQ_of (heqIntS x.drops y.drops (by unfold maxLen; omega) (by unfold maxLen; omega)) ?_
  by_cases g_drops : x.drops = y.drops
  rotate_left
  · have hne : x ≠ y := fun h => g_drops (by rw [h])
    simp -implicitDefEqProofs [g_drops, hne]
  simp -implicitDefEqProofs [g_drops]
  refine callQ_of (heqIntS x.strips y.strips (by unfold maxLen; omega) (by unfold maxLen; omega)) ?_
  by_cases g_strips : x.strips = y.strips
  rotate_left
  · have hne : x ≠ y := fun h => g_strips (by rw [h])
    simp -implicitDefEqProofs [g_strips, hne]
  simp -implicitDefEqProofs [g_strips]
  by_cases g_lists : x.lists = y.lists
  rotate_left
  · have hne : x ≠ y := fun h => g_lists (by rw [h])
    simp -implicitDefEqProofs [g_lists, hne]
  simp -implicitDefEqProofs [g_lists]
  have hxy : x = y := by cases x; cases y; simp_all
  simp -implicitDefEqProofs [hxy]
abbrev szEventS (R : Rel) : Prop := ∀ (x : Event) (l : Int), 0 ≤ l → l ≤ 4194304 → lnEvent x → R [arg (eEvent x), I l] [] (I (szl (szEvent x) l)) []
abbrev toEventS (R : Rel) : Prop := ∀ x : Event, szEvent x ≤ 4194304 → R [arg (eEvent x)] [] (.agg (eEvent x)) []
abbrev eqEventS (R : Rel) : Prop := ∀ x y : Event, szEvent x ≤ 2 ^ 40 → szEvent y ≤ 2 ^ 40 → R [arg (eEvent x), arg (eEvent y)] [] (B (decide (x = y))) []
abbrev szEventSS (R : Rel) : Prop := ∀ (xs : List Event) (l : Int), 0 ≤ l → l ≤ 4194304 → lnS lnEvent xs → R [.sl 1 6 xs.length (xs.flatMap eEvent), I l] [] (I (szl (sumF szEvent xs) l)) []
abbrev toEventSS (R : Rel) : Prop := ∀ xs : List Event, sumF szEvent xs ≤ 4194304 → R [.sl 1 6 xs.length (xs.flatMap eEvent)] [] (.sl 0 6 xs.length (xs.flatMap eEvent)) []
abbrev eqEventSS (R : Rel) : Prop := ∀ xs ys : List Event, sumF szEvent xs ≤ 2 ^ 40 → sumF szEvent ys ≤ 2 ^ 40 → R [.sl 1 6 xs.length (xs.flatMap eEvent), .sl 1 6 ys.length (ys.flatMap eEvent)] [] (B (decide (xs = ys))) []
end Go.Eng.T

namespace Go.Eng.T
abbrev eqBoxSS (R : Rel) : Prop := ∀ xs ys : List Box, sumF szBox xs ≤ 2 ^ 40 → sumF szBox ys ≤ 2 ^ 40 → R [.sl 1 4 xs.length (xs.flatMap eBox), .sl 1 4 ys.length (ys.flatMap eBox)] [] (B (decide (xs = ys))) []
theorem eqBoxS_b (D : Dn) (heq : eqBoxS (D 249)) : eqBoxSS (Body D slaws_eqBoxS) := by
  intro xs ys h1 h2
  have hlen := size_len (f := szBox) (xs := xs)
  by_cases hl : xs.length = ys.length
  · have hl' : (xs.length : Int) = ys.length := by omega
    simp -implicitDefEqProofs [hl']
    refine swp_loop (fun k s => ∃ j, j + k = xs.length ∧ xs.take j = ys.take j ∧ s = ⟨[.sl 1 4 xs.length (xs.flatMap eBox), .sl 1 4 ys.length (ys.flatMap eBox), .undef, .sc (.int .i64 j), .undef, .undef, .undef], []⟩) ?_ xs.length _ ⟨0, by simp, by simp, by simp⟩
    intro k s ⟨j, hj, hp, hs⟩
    subst hs
    by_cases hjn : j < xs.length
    · have hw : IntKind.i64.wrap ((j : Int) + 1) = (j + 1 : Nat) := by rw [wrap_id (by omega) (by omega)]; simp
      have hy : j < ys.length := by omega
      have hsx := size_at (f := szBox) hjn
      have hsy := size_at (f := szBox) hy
      simp -implicitDefEqProofs [hjn, hy]
      refine callQ_of (heq xs[j] ys[j] (by omega) (by omega)) ?_
      by_cases he : xs[j] = ys[j]
      · simp -implicitDefEqProofs [he]
        exact ⟨k - 1, by omega, j + 1, by omega, take_step hjn hy hp he, by simp [hw]⟩
      · have hne : xs ≠ ys := fun h => he (by simp [h])
        simp -implicitDefEqProofs [he, hne]
    · obtain rfl : xs = ys := take_all (by omega) hl hp
      simp -implicitDefEqProofs [hjn]
  · have hl' : ¬ (xs.length : Int) = ys.length := by omega
    have : xs ≠ ys := fun h => hl (by rw [h])
    simp -implicitDefEqProofs [hl', this]
abbrev eqEndpointS (R : Rel) : Prop := ∀ x y : Endpoint, szEndpoint x ≤ 2 ^ 40 → szEndpoint y ≤ 2 ^ 40 → R [arg (eEndpoint x), arg (eEndpoint y)] [] (B (decide (x = y))) []
theorem eqEndpoint_b (D : Dn) (heqIntS : eqIntSS (D 47)) (heqBoxS : eqBoxSS (D 204)) : eqEndpointS (Body D slaws_eqEndpoint) := by
  intro x y h1 h2
  simp only [szEndpoint] at h1 h2
  simp -implicitDefEqProofs
  refine callQ_of (heqIntS x.versions y.versions (by unfold maxLen; omega) (by unfold maxLen; omega)) ?_
  by_cases g_versions : x.versions = y.versions
  rotate_left
  · have hne : x ≠ y := fun h => g_versions (by rw [h])
    simp -implicitDefEqProofs [g_versions, hne]
  simp -implicitDefEqProofs [g_versions]
  refine callQ_of (heqIntS x.tags y.tags (by unfold maxLen; omega) (by unfold maxLen; omega)) ?_
  by_cases g_tags : x.tags = y.tags
  rotate_left
  · have hne : x ≠ y := fun h => g_tags (by rw [h])
    simp -implicitDefEqProofs [g_tags, hne]
  simp -implicitDefEqProofs [g_tags]
  refine callQ_of (heqBoxS x.path y.path (by omega) (by omega)) ?_
  by_cases g_path : x.path = y.path
  rotate_left
  · have hne : x ≠ y := fun h => g_path (by rw [h])
    simp -implicitDefEqProofs [g_path, hne]
  simp -implicitDefEqProofs [g_path]
  by_cases g_cls : x.cls = y.cls
  rotate_left
  · have hne : x ≠ y := fun h => g_cls (by rw [h])
    simp -implicitDefEqProofs [g_cls, hne]
  simp -implicitDefEqProofs [g_cls]
  have hxy : x = y := by cases x; cases y; simp_all
  simp -implicitDefEqProofs [hxy]
abbrev eqEndpointSS (R : Rel) : Prop := ∀ xs ys : List Endpoint, sumF szEndpoint xs ≤ 2 ^ 40 → sumF szEndpoint ys ≤ 2 ^ 40 → R [.sl 1 4 xs.length (xs.flatMap eEndpoint), .sl 1 4 ys.length (ys.flatMap eEndpoint)] [] (B (decide (xs = ys))) []
theorem eqEndpointS_b (D : Dn) (heq : eqEndpointS (D 134)) : eqEndpointSS (Body D slaws_eqEndpointS) := by
  intro xs ys h1 h2
  have hlen := size_len (f := szEndpoint) (xs := xs)
  by_cases hl : xs.length = ys.length
  · have hl' : (xs.length : Int) = ys.length := by omega
    simp -implicitDefEqProofs [hl']
    refine swp_loop (fun k s => ∃ j, j + k = xs.length ∧ xs.take j = ys.take j ∧ s = ⟨[.sl 1 4 xs.length (xs.flatMap eEndpoint), .sl 1 4 ys.length (ys.flatMap eEndpoint), .undef, .sc (.int .i64 j), .undef, .undef, .undef], []⟩) ?_ xs.length _ ⟨0, by simp, by simp, by simp⟩
    intro k s ⟨j, hj, hp, hs⟩
    subst hs
    by_cases hjn : j < xs.length
    · have hw : IntKind.i64.wrap ((j : Int) + 1) = (j + 1 : Nat) := by rw [wrap_id (by omega) (by omega)]; simp
      have hy : j < ys.length := by omega
      have hsx := size_at (f := szEndpoint) hjn
      have hsy := size_at (f := szEndpoint) hy
      simp -implicitDefEqProofs [hjn, hy]
      refine callQ_of (heq xs[j] ys[j] (by omega) (by omega)) ?_
      by_cases he : xs[j] = ys[j]
      · simp -implicitDefEqProofs [he]
        exact ⟨k - 1, by omega, j + 1, by omega, take_step hjn hy hp he, by simp [hw]⟩
      · have hne : xs ≠ ys := fun h => he (by simp [h])
        simp -implicitDefEqProofs [he, hne]
    · obtain rfl : xs = ys := take_all (by omega) hl hp
      simp -implicitDefEqProofs [hjn]
  · have hl' : ¬ (xs.length : Int) = ys.length := by omega
    have : xs ≠ ys := fun h => hl (by rw [h])
    simp -implicitDefEqProofs [hl', this]
end Go.Eng.T

namespace Go.Eng.T
abbrev toBoxSS (R : Rel) : Prop := ∀ xs : List Box, sumF szBox xs ≤ 4194304 → R [.sl 1 4 xs.length (xs.flatMap eBox)] [] (.sl 0 4 xs.length (xs.flatMap eBox)) []
theorem toBoxS_b (D : Dn) (hto : toBoxS (D 226)) : toBoxSS (Body D slaws_toBoxS) := by
  intro xs h
  have hlen := size_len (f := szBox) (xs := xs)
  have h1 : ((xs.length : Nat) : Int) * 64 ≤ 1099511627776 := by omega
  simp -implicitDefEqProofs [h1]
  refine swp_loop (fun k s => ∃ j o1 o2, j + k = xs.length ∧ s = ⟨[.sl 1 4 xs.length (xs.flatMap eBox), .undef, .arr 0, .sc (.int .i64 j), .undef], [.arr 4 0 xs.length ((mix (⟨0, [], [], false⟩ : Box) xs j).flatMap eBox), o1, o2]⟩) ?_ xs.length _ ⟨0, .free, .free, by simp, by simp [mix_zero]; exact rep_flat (f := eBox) (⟨0, [], [], false⟩ : Box) _⟩
  intro k s ⟨j, o1, o2, hj, hs⟩
  subst hs
  by_cases hjn : j < xs.length
  · have hw : IntKind.i64.wrap ((j : Int) + 1) = (j + 1 : Nat) := by rw [wrap_id (by omega) (by omega)]; simp
    have hsz := size_at (f := szBox) hjn
    have hfit : j * 4 + 4 ≤ xs.length * 4 := by omega
    have hjl : j ≤ xs.length := by omega
    simp -implicitDefEqProofs [hjn]
    refine callQ_of (hto xs[j] (by omega)) ?_
    simp -implicitDefEqProofs [hjn, hfit, hjl]
    exact ⟨k - 1, by omega, j + 1, by omega, by simp [hw], by rw [← mix_set hjn]⟩
  · have hje : mix (⟨0, [], [], false⟩ : Box) xs j = xs := mix_all (by omega)
    simp -implicitDefEqProofs [hjn, hje]
abbrev szBoxSS (R : Rel) : Prop := ∀ (xs : List Box) (l : Int), 0 ≤ l → l ≤ 4194304 → lnS lnBox xs → R [.sl 1 4 xs.length (xs.flatMap eBox), I l] [] (I (szl (sumF szBox xs) l)) []
theorem szBoxS_b (D : Dn) (hsz : szBoxS (D 206)) : szBoxSS (Body D slaws_szBoxS) := by
  intro xs l h1 h2 hln
  have h3 := hln.1
  unfold maxLen at h3
  have hw : IntKind.i64.wrap (l - (xs.length : Int)) = l - xs.length := wrap_id (by omega) (by omega)
  by_cases h : l < (xs.length : Int)
  · have h' : l - (xs.length : Int) < 0 := by omega
    have e2 : szl (sumF szBox xs) l = -1 := by unfold szl sumF; rw [if_pos (by omega)]
    simp -implicitDefEqProofs [hw, h', e2]
  · have h' : ¬ l - (xs.length : Int) < 0 := by omega
    simp -implicitDefEqProofs [hw, h']
    refine swp_loop (fun k s => ∃ j, j + k = xs.length ∧ ((xs.take j).map szBox).sum + xs.length ≤ l ∧ s = ⟨[.sl 1 4 xs.length (xs.flatMap eBox), .sc (.int .i64 (l - xs.length - ((((xs.take j).map szBox).sum : Nat) : Int))), .undef, .sc (.int .i64 j), .undef, .undef, .undef], []⟩) ?_ xs.length _ ⟨0, by simp, by simp; omega, by simp⟩
    intro k s ⟨j, hj, hp, hs⟩
    subst hs
    by_cases hjn : j < xs.length
    · have hw : IntKind.i64.wrap ((j : Int) + 1) = (j + 1 : Nat) := by rw [wrap_id (by omega) (by omega)]; simp
      have ht := sum_take (f := szBox) hjn
      have htl := sum_take_le (f := szBox) (xs := xs) (j := j + 1)
      simp -implicitDefEqProofs [hjn, -List.map_take]
      refine callQ_of (hsz xs[j] _ (by omega) (by omega) (hln.2 j hjn)) ?_
      by_cases he : l - xs.length - ((((xs.take j).map szBox).sum : Nat) : Int) < szBox xs[j]
      · have e1 : szl (szBox xs[j]) (l - xs.length - ((((xs.take j).map szBox).sum : Nat) : Int)) = -1 := by unfold szl; rw [if_pos he]
        have e2 : szl (sumF szBox xs) l = -1 := by unfold szl sumF; rw [if_pos (by omega)]
        simp -implicitDefEqProofs [e1, e2, -List.map_take]
      · have e1 : szl (szBox xs[j]) (l - xs.length - ((((xs.take j).map szBox).sum : Nat) : Int)) = l - xs.length - ((((xs.take j).map szBox).sum : Nat) : Int) - szBox xs[j] := by unfold szl; rw [if_neg he]
        have e3 : ¬ l - xs.length - ((((xs.take j).map szBox).sum : Nat) : Int) - szBox xs[j] < 0 := by omega
        simp -implicitDefEqProofs [e1, e3, -List.map_take]
        refine ⟨k - 1, by omega, j + 1, by omega, by omega, ?_, by simp [hw]⟩
        rw [ht]; omega
    · have hsm := sum_all (f := szBox) (xs := xs) (j := j) (by omega)
      have e2 : szl (sumF szBox xs) l = l - xs.length - ((((xs.take j).map szBox).sum : Nat) : Int) := by unfold szl sumF; rw [if_neg (by omega)]; omega
      simp -implicitDefEqProofs [hjn, e2, -List.map_take]
abbrev szEndpointS (R : Rel) : Prop := ∀ (x : Endpoint) (l : Int), 0 ≤ l → l ≤ 4194304 → lnEndpoint x → R [arg (eEndpoint x), I l] [] (I (szl (szEndpoint x) l)) []
theorem szEndpoint_b (D : Dn) (hszIntS : szIntSS (D 16)) (hszBoxS : szBoxSS (D 139)) : szEndpointS (Body D slaws_szEndpoint) := by
  intro x l hl1 hl2 hln
  simp only [lnEndpoint] at hln
  simp -implicitDefEqProofs
  refine callQ_of (hszIntS x.versions (l) (by omega) (by omega) hln.1) ?_
  by_cases g0 : l < ((x.versions.length : Nat) : Int)
  · have gg : l < ((szEndpoint x : Nat) : Int) := by simp only [szEndpoint]; omega
    have e1 : szl (x.versions.length) (l) = -1 := by unfold szl; rw [if_pos g0]
    have e2 : szl (szEndpoint x) l = -1 := by unfold szl; rw [if_pos gg]
    simp -implicitDefEqProofs [e1, e2]
  have e3 : szl (x.versions.length) (l) = l - ((x.versions.length : Nat) : Int) := by unfold szl; rw [if_neg g0]
  have p0 : ¬ l - ((x.versions.length : Nat) : Int) < 0 := by omega
  simp -implicitDefEqProofs [e3, p0]
  refine callQ_of (hszIntS x.tags (l - ((x.versions.length : Nat) : Int)) (by omega) (by omega) hln.2.1) ?_
  by_cases g1 : l - ((x.versions.length : Nat) : Int) < ((x.tags.length : Nat) : Int)
  · have gg : l < ((szEndpoint x : Nat) : Int) := by simp only [szEndpoint]; omega
    have e1 : szl (x.tags.length) (l - ((x.versions.length : Nat) : Int)) = -1 := by unfold szl; rw [if_pos g1]
    have e2 : szl (szEndpoint x) l = -1 := by unfold szl; rw [if_pos gg]
    simp -implicitDefEqProofs [e1, e2]
  have e4 : szl (x.tags.length) (l - ((x.versions.length : Nat) : Int)) = l - ((x.versions.length : Nat) : Int) - ((x.tags.length : Nat) : Int) := by unfold szl; rw [if_neg g1]
  have p1 : ¬ l - ((x.versions.length : Nat) : Int) - ((x.tags.length : Nat) : Int) < 0 := by omega
  simp -implicitDefEqProofs [e4, p1]
  refine callQ_of (hszBoxS x.path (l - ((x.versions.length : Nat) : Int) - ((x.tags.length : Nat) : Int)) (by omega) (by omega) hln.2.2) ?_
  by_cases g2 : l - ((x.versions.length : Nat) : Int) - ((x.tags.length : Nat) : Int) < ((sumF szBox x.path : Nat) : Int)
  · have gg : l < ((szEndpoint x : Nat) : Int) := by simp only [szEndpoint]; omega
    have e1 : szl (sumF szBox x.path) (l - ((x.versions.length : Nat) : Int) - ((x.tags.length : Nat) : Int)) = -1 := by unfold szl; rw [if_pos g2]
    have e2 : szl (szEndpoint x) l = -1 := by unfold szl; rw [if_pos gg]
    simp -implicitDefEqProofs [e1, e2]
  have e5 : szl (sumF szBox x.path) (l - ((x.versions.length : Nat) : Int) - ((x.tags.length : Nat) : Int)) = l - ((x.versions.length : Nat) : Int) - ((x.tags.length : Nat) : Int) - ((sumF szBox x.path : Nat) : Int) := by unfold szl; rw [if_neg g2]
  have p2 : ¬ l - ((x.versions.length : Nat) : Int) - ((x.tags.length : Nat) : Int) - ((sumF szBox x.path : Nat) : Int) < 0 := by omega
  simp -implicitDefEqProofs [e5, p2]
  have gg : ¬ l < ((szEndpoint x : Nat) : Int) := by simp only [szEndpoint]; omega
  unfold szl; rw [if_neg gg]; simp only [szEndpoint] <;> omega
abbrev toEndpointS (R : Rel) : Prop := ∀ x : Endpoint, szEndpoint x ≤ 4194304 → R [arg (eEndpoint x)] [] (.agg (eEndpoint x)) []
theorem toEndpoint_b (D : Dn) (htoIntS : toIntSS (D 31)) (htoBoxS : toBoxSS (D 170)) : toEndpointS (Body D slaws_toEndpoint) := by
  intro x h
  simp only [szEndpoint] at h
  simp -implicitDefEqProofs
  refine callQ_of (htoIntS x.versions (by omega)) ?_
  simp -implicitDefEqProofs
  refine callQ_of (htoIntS x.tags (by omega)) ?_
  simp -implicitDefEqProofs
  refine callQ_of (htoBoxS x.path (by omega)) ?_
  simp -implicitDefEqProofs
abbrev szEndpointSS (R : Rel) : Prop := ∀ (xs : List Endpoint) (l : Int), 0 ≤ l → l ≤ 4194304 → lnS lnEndpoint xs → R [.sl 1 4 xs.length (xs.flatMap eEndpoint), I l] [] (I (szl (sumF szEndpoint xs) l)) []
theorem szEndpointS_b (D : Dn) (hsz : szEndpointS (D 62)) : szEndpointSS (Body D slaws_szEndpointS) := by
  intro xs l h1 h2 hln
  have h3 := hln.1
  unfold maxLen at h3
  have hw : IntKind.i64.wrap (l - (xs.length : Int)) = l - xs.length := wrap_id (by omega) (by omega)
  by_cases h : l < (xs.length : Int)
  · have h' : l - (xs.length : Int) < 0 := by omega
    have e2 : szl (sumF szEndpoint xs) l = -1 := by unfold szl sumF; rw [if_pos (by omega)]
    simp -implicitDefEqProofs [hw, h', e2]
  · have h' : ¬ l - (xs.length : Int) < 0 := by omega
    simp -implicitDefEqProofs [hw, h']
    refine swp_loop (fun k s => ∃ j, j + k = xs.length ∧ ((xs.take j).map szEndpoint).sum + xs.length ≤ l ∧ s = ⟨[.sl 1 4 xs.length (xs.flatMap eEndpoint), .sc (.int .i64 (l - xs.length - ((((xs.take j).map szEndpoint).sum : Nat) : Int))), .undef, .sc (.int .i64 j), .undef, .undef, .undef], []⟩) ?_ xs.length _ ⟨0, by simp, by simp; omega, by simp⟩
    intro k s ⟨j, hj, hp, hs⟩
    subst hs
    by_cases hjn : j < xs.length
    · have hw : IntKind.i64.wrap ((j : Int) + 1) = (j + 1 : Nat) := by rw [wrap_id (by omega) (by omega)]; simp
      have ht := sum_take (f := szEndpoint) hjn
      have htl := sum_take_le (f := szEndpoint) (xs := xs) (j := j + 1)
      simp -implicitDefEqProofs [hjn, -List.map_take]
      refine callQ_of (hsz xs[j] _ (by omega) (by omega) (hln.2 j hjn)) ?_
      by_cases he : l - xs.length - ((((xs.take j).map szEndpoint).sum : Nat) : Int) < szEndpoint xs[j]
      · have e1 : szl (szEndpoint xs[j]) (l - xs.length - ((((xs.take j).map szEndpoint).sum : Nat) : Int)) = -1 := by unfold szl; rw [if_pos he]
        have e2 : szl (sumF szEndpoint xs) l = -1 := by unfold szl sumF; rw [if_pos (by omega)]
        simp -implicitDefEqProofs [e1, e2, -List.map_take]
      · have e1 : szl (szEndpoint xs[j]) (l - xs.length - ((((xs.take j).map szEndpoint).sum : Nat) : Int)) = l - xs.length - ((((xs.take j).map szEndpoint).sum : Nat) : Int) - szEndpoint xs[j] := by unfold szl; rw [if_neg he]
        have e3 : ¬ l - xs.length - ((((xs.take j).map szEndpoint).sum : Nat) : Int) - szEndpoint xs[j] < 0 := by omega
        simp -implicitDefEqProofs [e1, e3, -List.map_take]
        refine ⟨k - 1, by omega, j + 1, by omega, by omega, ?_, by simp [hw]⟩
        rw [ht]; omega
    · have hsm := sum_all (f := szEndpoint) (xs := xs) (j := j) (by omega)
      have e2 : szl (sumF szEndpoint xs) l = l - xs.length - ((((xs.take j).map szEndpoint).sum : Nat) : Int) := by unfold szl sumF; rw [if_neg (by omega)]; omega
      simp -implicitDefEqProofs [hjn, e2, -List.map_take]
abbrev toEndpointSS (R : Rel) : Prop := ∀ xs : List Endpoint, sumF szEndpoint xs ≤ 4194304 → R [.sl 1 4 xs.length (xs.flatMap eEndpoint)] [] (.sl 0 4 xs.length (xs.flatMap eEndpoint)) []
theorem toEndpointS_b (D : Dn) (hto : toEndpointS (D 98)) : toEndpointSS (Body D slaws_toEndpointS) := by
  intro xs h
  have hlen := size_len (f := szEndpoint) (xs := xs)
  have h1 : ((xs.length : Nat) : Int) * 80 ≤ 1099511627776 := by omega
  simp -implicitDefEqProofs [h1]
  refine swp_loop (fun k s => ∃ j o1 o2 o3, j + k = xs.length ∧ s = ⟨[.sl 1 4 xs.length (xs.flatMap eEndpoint), .undef, .arr 0, .sc (.int .i64 j), .undef], [.arr 4 0 xs.length ((mix (⟨[], [], [], 0⟩ : Endpoint) xs j).flatMap eEndpoint), o1, o2, o3]⟩) ?_ xs.length _ ⟨0, .free, .free, .free, by simp, by simp [mix_zero]; exact rep_flat (f := eEndpoint) (⟨[], [], [], 0⟩ : Endpoint) _⟩
  intro k s ⟨j, o1, o2, o3, hj, hs⟩
  subst hs
  by_cases hjn : j < xs.length
  · have hw : IntKind.i64.wrap ((j : Int) + 1) = (j + 1 : Nat) := by rw [wrap_id (by omega) (by omega)]; simp
    have hsz := size_at (f := szEndpoint) hjn
    have hfit : j * 4 + 4 ≤ xs.length * 4 := by omega
    have hjl : j ≤ xs.length := by omega
    simp -implicitDefEqProofs [hjn]
    refine callQ_of (hto xs[j] (by omega)) ?_
    simp -implicitDefEqProofs [hjn, hfit, hjl]
    exact ⟨k - 1, by omega, j + 1, by omega, by simp [hw], by rw [← mix_set hjn]⟩
  · have hje : mix (⟨[], [], [], 0⟩ : Endpoint) xs j = xs := mix_all (by omega)
    simp -implicitDefEqProofs [hjn, hje]
abbrev szRolloutS (R : Rel) : Prop := ∀ (x : Rollout) (l : Int), 0 ≤ l → l ≤ 4194304 → lnRollout x → R [arg (eRollout x), I l] [] (I (szl (szRollout x) l)) []
theorem szRollout_b (D : Dn) (hszIntS : szIntSS (D 16)) : szRolloutS (Body D slaws_szRollout) := by
  intro x l hl1 hl2 hln
  simp only [lnRollout] at hln
  simp -implicitDefEqProofs
  refine callQ_of (hszIntS x.stages (l) (by omega) (by omega) hln) ?_
  by_cases g0 : l < ((x.stages.length : Nat) : Int)
  · have gg : l < ((szRollout x : Nat) : Int) := by simp only [szRollout]; omega
    have e1 : szl (x.stages.length) (l) = -1 := by unfold szl; rw [if_pos g0]
    have e2 : szl (szRollout x) l = -1 := by unfold szl; rw [if_pos gg]
    simp -implicitDefEqProofs [e1, e2]
  have e3 : szl (x.stages.length) (l) = l - ((x.stages.length : Nat) : Int) := by unfold szl; rw [if_neg g0]
  have p0 : ¬ l - ((x.stages.length : Nat) : Int) < 0 := by omega
  simp -implicitDefEqProofs [e3, p0]
  have gg : ¬ l < ((szRollout x : Nat) : Int) := by simp only [szRollout]; omega
  unfold szl; rw [if_neg gg]; simp only [szRollout] <;> omega
abbrev toRolloutS (R : Rel) : Prop := ∀ x : Rollout, szRollout x ≤ 4194304 → R [arg (eRollout x)] [] (.agg (eRollout x)) []
theorem toRollout_b (D : Dn) (htoIntS : toIntSS (D 31)) : toRolloutS (Body D slaws_toRollout) := by
  intro x h
  simp only [szRollout] at h
  simp -implicitDefEqProofs
  refine callQ_of (htoIntS x.stages (by omega)) ?_
  simp -implicitDefEqProofs
abbrev eqRolloutS (R : Rel) : Prop := ∀ x y : Rollout, szRollout x ≤ 2 ^ 40 → szRollout y ≤ 2 ^ 40 → R [arg (eRollout x), arg (eRollout y)] [] (B (decide (x = y))) []
theorem eqRollout_b (D : Dn) (heqIntS : eqIntSS (D 47)) : eqRolloutS (Body D slaws_eqRollout) := by
  intro x y h1 h2
  simp only [szRollout] at h1 h2
  by_cases g_version : x.version = y.version
  rotate_left
  · have hne : x ≠ y := fun h => g_version (by rw [h])
    simp -implicitDefEqProofs [g_version, hne]
  simp -implicitDefEqProofs [g_version]
  refine callQ_of (heqIntS x.stages y.stages (by unfold maxLen; omega) (by unfold maxLen; omega)) ?_
  by_cases g_stages : x.stages = y.stages
  rotate_left
  · have hne : x ≠ y := fun h => g_stages (by rw [h])
    simp -implicitDefEqProofs [g_stages, hne]
  simp -implicitDefEqProofs [g_stages]
  by_cases g_pos : x.pos = y.pos
  rotate_left
  · have hne : x ≠ y := fun h => g_pos (by rw [h])
    simp -implicitDefEqProofs [g_pos, hne]
  simp -implicitDefEqProofs [g_pos]
  by_cases g_off : x.off = y.off
  rotate_left
  · have hne : x ≠ y := fun h => g_off (by rw [h])
    simp -implicitDefEqProofs [g_off, hne]
  simp -implicitDefEqProofs [g_off]
  have hxy : x = y := by cases x; cases y; simp_all
  simp -implicitDefEqProofs [hxy]
end Go.Eng.T

