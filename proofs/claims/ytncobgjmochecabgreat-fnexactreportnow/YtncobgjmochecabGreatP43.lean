/- Own work: part 43 of the proof of FnExactReportNow. -/
import Derived.Test.YtncobgjmochecabGreatEngAP
set_option linter.unusedSimpArgs false
set_option linter.unusedVariables false
namespace Go.Eng.T
def slaws_szDialed_r0 : Reg :=
  { id := 0, ops := [{ op := .box 0 (.slot 0) },
      { op := .mv (.con (.sc (.int .i64 0))) }], sets := [(2, 0)], clr := [0, 3] }
def slaws_szDialed_r1 : Reg :=
  { id := 1, ops := [{ op := .fieldAddr (.slot 2) 0 },
      { op := .load (some 3) (.loc 0) },
      { op := .mv (.slot 1) },
      { op := .call 140 [(false, .loc 1), (false, .loc 2)] [] },
      { op := .mv (.loc 3) }], sets := [(1, 4)] }
def slaws_szDialed_r2 : Reg :=
  { id := 2, ops := [{ op := .mv (.slot 1) },
      { op := .bin .lss (.loc 0) (.con (.sc (.int .i64 0))) }], sets := [(4, 1)] }
def slaws_szDialed_r3 : Reg :=
  { id := 3, ops := [{ op := .mv (.con (.sc (.int .i64 (-1)))) }], sets := [(3, 0)], clr := [1, 2] }
def slaws_szDialed_r4 : Reg :=
  { id := 4, ops := [{ op := .fieldAddr (.slot 2) 4 },
      { op := .load none (.loc 0) },
      { op := .mv (.slot 1) },
      { op := .call 16 [(false, .loc 1), (false, .loc 2)] [] },
      { op := .mv (.loc 3) }], sets := [(1, 4)], clr := [2] }
def slaws_szDialed_r5 : Reg :=
  { id := 5, ops := [{ op := .mv (.slot 1) },
      { op := .bin .lss (.loc 0) (.con (.sc (.int .i64 0))) }], sets := [(5, 1)] }
def slaws_szDialed_r6 : Reg :=
  { id := 6, ops := [{ op := .mv (.con (.sc (.int .i64 (-1)))) }], sets := [(3, 0)], clr := [1] }
def slaws_szDialed_r7 : Reg :=
  { id := 7, ops := [{ op := .mv (.slot 1) },
      { op := .mv (.loc 0) }], sets := [(3, 1)], clr := [1] }
def slaws_szDialed_b : SC := .seq (.reg slaws_szDialed_r0) (.seq (.reg slaws_szDialed_r1) (.seq (.seq (.reg slaws_szDialed_r2) (.cond 4 (.seq (.reg slaws_szDialed_r3) (.ret)) (.skip))) (.seq (.reg slaws_szDialed_r4) (.seq (.seq (.reg slaws_szDialed_r5) (.cond 5 (.seq (.reg slaws_szDialed_r6) (.ret)) (.skip))) (.seq (.reg slaws_szDialed_r7) (.ret))))))
def slaws_szDialed : SFn := { nslots := 6, nobjs := 1, params := [0, 1], ngiven := 0, bor := false, takes := [], body := slaws_szDialed_b, results := [.slot 3] }
def slaws_szDialed_t : List Tmp := [0, 1, 2, 4, 10, 16]
attribute [simp] slaws_szDialed_r0 slaws_szDialed_r1 slaws_szDialed_r2 slaws_szDialed_r3 slaws_szDialed_r4 slaws_szDialed_r5 slaws_szDialed_r6 slaws_szDialed_r7 slaws_szDialed_b slaws_szDialed
def slaws_toDialed_r0 : Reg :=
  { id := 0, ops := [{ op := .box 0 (.slot 0) },
      { op := .alloc 1 [.sc (.bool false), .sc (.int .i64 0), .nil 1, .sc (.int .i64 0), .nil 1] }], sets := [(1, 0), (2, 1)], clr := [0] }
def slaws_toDialed_r1 : Reg :=
  { id := 1, ops := [{ op := .alloc 2 [.sc (.bool false), .sc (.int .i64 0), .nil 1, .sc (.int .i64 0), .nil 1] }], sets := [(3, 0)] }
def slaws_toDialed_r2 : Reg :=
  { id := 2, ops := [{ op := .fieldAddr (.slot 1) 0 },
      { op := .load (some 3) (.loc 0) },
      { op := .call 171 [(false, .loc 1)] [3] },
      { op := .fieldAddr (.slot 3) 0 },
      { op := .store 3 (.loc 3) (.loc 2) }] }
def slaws_toDialed_r3 : Reg :=
  { id := 3, ops := [{ op := .fieldAddr (.slot 1) 3 },
      { op := .load none (.loc 0) },
      { op := .fieldAddr (.slot 3) 3 },
      { op := .store 1 (.loc 2) (.loc 1) }] }
def slaws_toDialed_r4 : Reg :=
  { id := 4, ops := [{ op := .fieldAddr (.slot 1) 4 },
      { op := .load none (.loc 0) },
      { op := .call 31 [(false, .loc 1)] [4] },
      { op := .fieldAddr (.slot 3) 4 },
      { op := .store 1 (.loc 3) (.loc 2) }], clr := [1] }
def slaws_toDialed_r5 : Reg :=
  { id := 5, ops := [{ op := .load (some 5) (.slot 3) },
      { op := .store 5 (.slot 2) (.loc 0) }], clr := [3] }
def slaws_toDialed_b : SC := .seq (.reg slaws_toDialed_r0) (.seq (.reg slaws_toDialed_r1) (.seq (.reg slaws_toDialed_r2) (.seq (.reg slaws_toDialed_r3) (.seq (.reg slaws_toDialed_r4) (.seq (.reg slaws_toDialed_r5) (.ret))))))
def slaws_toDialed : SFn := { nslots := 4, nobjs := 5, params := [0], ngiven := 0, bor := false, takes := [], body := slaws_toDialed_b, results := [.cell 2 (some 5)] }
def slaws_toDialed_t : List Tmp := [0, 1, 2, 3]
attribute [simp] slaws_toDialed_r0 slaws_toDialed_r1 slaws_toDialed_r2 slaws_toDialed_r3 slaws_toDialed_r4 slaws_toDialed_r5 slaws_toDialed_b slaws_toDialed
def slaws_eqDialed_r0 : Reg :=
  { id := 0, ops := [{ op := .box 0 (.slot 0) },
      { op := .box 1 (.slot 1) },
      { op := .mv (.con (.sc (.bool false))) }], sets := [(2, 0), (3, 1)], clr := [0, 1, 4] }
def slaws_eqDialed_r1 : Reg :=
  { id := 1, ops := [{ op := .fieldAddr (.slot 2) 0 },
      { op := .load (some 3) (.loc 0) },
      { op := .fieldAddr (.slot 3) 0 },
      { op := .load (some 3) (.loc 2) },
      { op := .call 205 [(false, .loc 1), (false, .loc 3)] [] },
      { op := .un .not (.loc 4) }], sets := [(5, 5)] }
def slaws_eqDialed_r2 : Reg :=
  { id := 2, ops := [{ op := .mv (.con (.sc (.bool false))) }], sets := [(4, 0)], clr := [2, 3] }
def slaws_eqDialed_r3 : Reg :=
  { id := 3, ops := [{ op := .fieldAddr (.slot 2) 3 },
      { op := .load none (.loc 0) },
      { op := .fieldAddr (.slot 3) 3 },
      { op := .load none (.loc 2) },
      { op := .bin .neq (.loc 1) (.loc 3) }], sets := [(6, 4)] }
def slaws_eqDialed_r4 : Reg :=
  { id := 4, ops := [{ op := .mv (.con (.sc (.bool false))) }], sets := [(4, 0)], clr := [2, 3] }
def slaws_eqDialed_r5 : Reg :=
  { id := 5, ops := [{ op := .fieldAddr (.slot 2) 4 },
      { op := .load none (.loc 0) },
      { op := .fieldAddr (.slot 3) 4 },
      { op := .load none (.loc 2) },
      { op := .call 47 [(false, .loc 1), (false, .loc 3)] [] },
      { op := .un .not (.loc 4) }], sets := [(7, 5)], clr := [2, 3] }
def slaws_eqDialed_r6 : Reg :=
  { id := 6, ops := [{ op := .mv (.con (.sc (.bool false))) }], sets := [(4, 0)] }
def slaws_eqDialed_r7 : Reg :=
  { id := 7, ops := [{ op := .mv (.con (.sc (.bool true))) }], sets := [(4, 0)] }
def slaws_eqDialed_b : SC := .seq (.reg slaws_eqDialed_r0) (.seq (.seq (.reg slaws_eqDialed_r1) (.cond 5 (.seq (.reg slaws_eqDialed_r2) (.ret)) (.skip))) (.seq (.seq (.reg slaws_eqDialed_r3) (.cond 6 (.seq (.reg slaws_eqDialed_r4) (.ret)) (.skip))) (.seq (.seq (.reg slaws_eqDialed_r5) (.cond 7 (.seq (.reg slaws_eqDialed_r6) (.ret)) (.skip))) (.seq (.reg slaws_eqDialed_r7) (.ret)))))
def slaws_eqDialed : SFn := { nslots := 8, nobjs := 2, params := [0, 1], ngiven := 0, bor := false, takes := [], body := slaws_eqDialed_b, results := [.slot 4] }
def slaws_eqDialed_t : List Tmp := [0, 1, 2, 3, 4, 10, 15, 21]
attribute [simp] slaws_eqDialed_r0 slaws_eqDialed_r1 slaws_eqDialed_r2 slaws_eqDialed_r3 slaws_eqDialed_r4 slaws_eqDialed_r5 slaws_eqDialed_r6 slaws_eqDialed_r7 slaws_eqDialed_b slaws_eqDialed
def slaws_eqEndpointS_r0 : Reg :=
  { id := 0, ops := [{ op := .mv (.con (.sc (.bool false))) }], clr := [2] }
def slaws_eqEndpointS_r1 : Reg :=
  { id := 1, ops := [{ op := .mv (.slot 0) },
      { op := .len false (.loc 0) },
      { op := .mv (.slot 1) },
      { op := .len false (.loc 2) },
      { op := .bin .neq (.loc 1) (.loc 3) }], sets := [(4, 4)] }
def slaws_eqEndpointS_r2 : Reg :=
  { id := 2, ops := [{ op := .mv (.con (.sc (.bool false))) }], sets := [(2, 0)], clr := [0, 1] }
def slaws_eqEndpointS_r3 : Reg :=
  { id := 3, ops := [{ op := .mv (.con (.sc (.int .i64 0))) }], sets := [(3, 0)] }
def slaws_eqEndpointS_r4 : Reg :=
  { id := 4, ops := [{ op := .mv (.slot 3) },
      { op := .mv (.slot 0) },
      { op := .len false (.loc 1) },
      { op := .bin .lss (.loc 0) (.loc 2) }], sets := [(5, 3)] }
def slaws_eqEndpointS_r5 : Reg :=
  { id := 6, draw := true, ops := [{ op := .mv (.slot 0), tau := some [], om := [] },
      { op := .mv (.slot 3), tau := some [], om := [] },
      { op := .indexAddr 4 (.loc 0) (.loc 1), tau := some [], om := [] },
      { op := .load (some 4) (.loc 2), tau := some [], om := [] },
      { op := .mv (.slot 1), tau := some [], om := [] },
      { op := .mv (.slot 3), tau := some [], om := [] },
      { op := .indexAddr 4 (.loc 4) (.loc 5), tau := some [], om := [] },
      { op := .load (some 4) (.loc 6), tau := some [], om := [] },
      { op := .call 134 [(false, .loc 3), (false, .loc 7)] [], tau := some [], om := [] },
      { op := .un .not (.loc 8), tau := some [], om := [] }], sets := [(6, 9)] }
def slaws_eqEndpointS_r6 : Reg :=
  { id := 7, ops := [{ op := .mv (.con (.sc (.bool false))) }], sets := [(2, 0)], clr := [0, 1, 3] }
def slaws_eqEndpointS_r7 : Reg :=
  { id := 5, ops := [{ op := .mv (.slot 3) },
      { op := .bin .add (.loc 0) (.con (.sc (.int .i64 1))) },
      { op := .mv (.loc 1) }], sets := [(3, 2)] }
def slaws_eqEndpointS_r8 : Reg :=
  { id := 8, ops := [{ op := .mv (.con (.sc (.bool true))) }], sets := [(2, 0)], clr := [0, 1, 3] }
def slaws_eqEndpointS_b : SC := .seq (.reg slaws_eqEndpointS_r0) (.seq (.seq (.reg slaws_eqEndpointS_r1) (.cond 4 (.seq (.reg slaws_eqEndpointS_r2) (.ret)) (.skip))) (.seq (.seq (.reg slaws_eqEndpointS_r3) (.block 0 (.loop (.seq (.seq (.reg slaws_eqEndpointS_r4) (.cond 5 (.skip) (.exit 0))) (.seq (.block 1 (.seq (.reg slaws_eqEndpointS_r5) (.cond 6 (.seq (.reg slaws_eqEndpointS_r6) (.ret)) (.skip)))) (.reg slaws_eqEndpointS_r7)))))) (.seq (.reg slaws_eqEndpointS_r8) (.ret))))
def slaws_eqEndpointS : SFn := { nslots := 7, nobjs := 0, params := [0, 1], ngiven := 0, bor := false, takes := [], body := slaws_eqEndpointS_b, results := [.slot 2] }
def slaws_eqEndpointS_t : List Tmp := [0, 1, 4, 5, 10, 14, 26]
attribute [simp] slaws_eqEndpointS_r0 slaws_eqEndpointS_r1 slaws_eqEndpointS_r2 slaws_eqEndpointS_r3 slaws_eqEndpointS_r4 slaws_eqEndpointS_r5 slaws_eqEndpointS_r6 slaws_eqEndpointS_r7 slaws_eqEndpointS_r8 slaws_eqEndpointS_b slaws_eqEndpointS
def slaws_markEndpointS_r0 : Reg :=
  { id := 0, ops := [{ op := .mv (.con (.sc (.int .i64 0))) }], clr := [2] }
def slaws_markEndpointS_r1 : Reg :=
  { id := 1, ops := [{ op := .mv (.con (.sc (.int .i64 0))) }], sets := [(3, 0)] }
def slaws_markEndpointS_r2 : Reg :=
  { id := 2, ops := [{ op := .mv (.slot 3) },
      { op := .mv (.slot 0) },
      { op := .len false (.loc 1) },
      { op := .bin .lss (.loc 0) (.loc 2) }], sets := [(4, 3)] }
def slaws_markEndpointS_r3 : Reg :=
  { id := 4, fresh := [1], ops := [{ op := .mv (.slot 0) },
      { op := .mv (.slot 3) },
      { op := .indexAddr 4 (.loc 0) (.loc 1) },
      { op := .fieldAddr (.loc 2) 0 },
      { op := .take 1 (.loc 3) },
      { op := .mv (.slot 1) },
      { op := .call 52 [(true, .loc 4), (false, .loc 5)] [] },
      { op := .mv (.loc 6) }], sets := [(1, 7)], ghosts := [.untake 1] }
def slaws_markEndpointS_r4 : Reg :=
  { id := 5, fresh := [2], ops := [{ op := .mv (.slot 0) },
      { op := .mv (.slot 3) },
      { op := .indexAddr 4 (.loc 0) (.loc 1) },
      { op := .fieldAddr (.loc 2) 1 },
      { op := .take 2 (.loc 3) },
      { op := .mv (.slot 1) },
      { op := .call 52 [(true, .loc 4), (false, .loc 5)] [] },
      { op := .mv (.loc 6) }], sets := [(1, 7)], ghosts := [.untake 2] }
def slaws_markEndpointS_r5 : Reg :=
  { id := 6, fresh := [3], ops := [{ op := .mv (.slot 0) },
      { op := .mv (.slot 3) },
      { op := .indexAddr 4 (.loc 0) (.loc 1) },
      { op := .fieldAddr (.loc 2) 2 },
      { op := .take 3 (.loc 3) },
      { op := .mv (.slot 1) },
      { op := .call 137 [(true, .loc 4), (false, .loc 5)] [] },
      { op := .mv (.loc 6) }], sets := [(1, 7)], ghosts := [.untake 3] }
def slaws_markEndpointS_r6 : Reg :=
  { id := 7, ops := [{ op := .mv (.slot 0) },
      { op := .mv (.slot 3) },
      { op := .mv (.slot 1) },
      { op := .indexAddr 4 (.loc 0) (.loc 1) },
      { op := .fieldAddr (.loc 3) 3 },
      { op := .store 1 (.loc 4) (.loc 2) }] }
def slaws_markEndpointS_r7 : Reg :=
  { id := 8, ops := [{ op := .mv (.slot 1) },
      { op := .bin .add (.loc 0) (.con (.sc (.int .i64 1))) },
      { op := .mv (.loc 1) }], sets := [(1, 2)] }
def slaws_markEndpointS_r8 : Reg :=
  { id := 3, ops := [{ op := .mv (.slot 3) },
      { op := .bin .add (.loc 0) (.con (.sc (.int .i64 1))) },
      { op := .mv (.loc 1) }], sets := [(3, 2)] }
def slaws_markEndpointS_r9 : Reg :=
  { id := 9, ops := [{ op := .mv (.slot 1) },
      { op := .mv (.loc 0) }], sets := [(2, 1)], clr := [0, 1, 3] }
def slaws_markEndpointS_b : SC := .seq (.reg slaws_markEndpointS_r0) (.seq (.seq (.reg slaws_markEndpointS_r1) (.block 0 (.loop (.seq (.seq (.reg slaws_markEndpointS_r2) (.cond 4 (.skip) (.exit 0))) (.seq (.block 1 (.seq (.reg slaws_markEndpointS_r3) (.seq (.reg slaws_markEndpointS_r4) (.seq (.reg slaws_markEndpointS_r5) (.seq (.reg slaws_markEndpointS_r6) (.reg slaws_markEndpointS_r7)))))) (.reg slaws_markEndpointS_r8)))))) (.seq (.reg slaws_markEndpointS_r9) (.ret)))
def slaws_markEndpointS : SFn := { nslots := 5, nobjs := 4, params := [0, 1], ngiven := 1, bor := false, takes := [1, 2, 3], body := slaws_markEndpointS_b, results := [.slot 2] }
def slaws_markEndpointS_t : List Tmp := [0, 1, 4, 5, 9]
attribute [simp] slaws_markEndpointS_r0 slaws_markEndpointS_r1 slaws_markEndpointS_r2 slaws_markEndpointS_r3 slaws_markEndpointS_r4 slaws_markEndpointS_r5 slaws_markEndpointS_r6 slaws_markEndpointS_r7 slaws_markEndpointS_r8 slaws_markEndpointS_r9 slaws_markEndpointS_b slaws_markEndpointS
def sspec_l1In_r0 : Reg :=
  { id := 0, ops := [{ op := .mv (.con (.sc (.bool false))) }], clr := [3] }
def sspec_l1In_r1 : Reg :=
  { id := 1, ops := [{ op := .mv (.slot 0) },
      { op := .mv (.slot 1) },
      { op := .bin .geq (.loc 0) (.loc 1) },
      { op := .mv (.loc 2) },
      { op := .mv (.slot 0), guard := some (3, true) },
      { op := .mv (.slot 2), guard := some (3, true) },
      { op := .bin .leq (.loc 4) (.loc 5), guard := some (3, true) },
      { op := .pick (.loc 3) (.loc 6) (.con (.sc (.bool false))) },
      { op := .mv (.loc 7) }], sets := [(3, 8)], clr := [0, 1, 2] }
def sspec_l1In_b : SC := .seq (.reg sspec_l1In_r0) (.seq (.reg sspec_l1In_r1) (.ret))
def sspec_l1In : SFn := { nslots := 4, nobjs := 0, params := [0, 1, 2], ngiven := 0, bor := false, takes := [], body := sspec_l1In_b, results := [.slot 3] }
def sspec_l1In_t : List Tmp := [0, 1, 2, 6]
attribute [simp] sspec_l1In_r0 sspec_l1In_r1 sspec_l1In_b sspec_l1In
def simpl_InRange_r0 : Reg :=
  { id := 0, ops := [{ op := .mv (.con (.sc (.bool false))) }], clr := [3] }
def simpl_InRange_r1 : Reg :=
  { id := 1, ops := [{ op := .mv (.slot 1) },
      { op := .mv (.slot 0) },
      { op := .bin .leq (.loc 0) (.loc 1) },
      { op := .mv (.loc 2) },
      { op := .mv (.slot 0), guard := some (3, true) },
      { op := .mv (.slot 2), guard := some (3, true) },
      { op := .bin .leq (.loc 4) (.loc 5), guard := some (3, true) },
      { op := .pick (.loc 3) (.loc 6) (.con (.sc (.bool false))) },
      { op := .mv (.loc 7) }], sets := [(3, 8)], clr := [0, 1, 2] }
def simpl_InRange_b : SC := .seq (.reg simpl_InRange_r0) (.seq (.reg simpl_InRange_r1) (.ret))
def simpl_InRange : SFn := { nslots := 4, nobjs := 0, params := [0, 1, 2], ngiven := 0, bor := false, takes := [], body := simpl_InRange_b, results := [.slot 3] }
def simpl_InRange_t : List Tmp := [0, 1, 2, 6]
attribute [simp] simpl_InRange_r0 simpl_InRange_r1 simpl_InRange_b simpl_InRange
def slaws_szDeal_r0 : Reg :=
  { id := 0, ops := [{ op := .box 0 (.slot 0) },
      { op := .mv (.con (.sc (.int .i64 0))) }], sets := [(2, 0)], clr := [0, 3] }
def slaws_szDeal_r1 : Reg :=
  { id := 1, ops := [{ op := .fieldAddr (.slot 2) 2 },
      { op := .load none (.loc 0) },
      { op := .mv (.slot 1) },
      { op := .call 16 [(false, .loc 1), (false, .loc 2)] [] },
      { op := .mv (.loc 3) }], sets := [(1, 4)], clr := [2] }
def slaws_szDeal_r2 : Reg :=
  { id := 2, ops := [{ op := .mv (.slot 1) },
      { op := .bin .lss (.loc 0) (.con (.sc (.int .i64 0))) }], sets := [(4, 1)] }
def slaws_szDeal_r3 : Reg :=
  { id := 3, ops := [{ op := .mv (.con (.sc (.int .i64 (-1)))) }], sets := [(3, 0)], clr := [1] }
def slaws_szDeal_r4 : Reg :=
  { id := 4, ops := [{ op := .mv (.slot 1) },
      { op := .mv (.loc 0) }], sets := [(3, 1)], clr := [1] }
def slaws_szDeal_b : SC := .seq (.reg slaws_szDeal_r0) (.seq (.reg slaws_szDeal_r1) (.seq (.seq (.reg slaws_szDeal_r2) (.cond 4 (.seq (.reg slaws_szDeal_r3) (.ret)) (.skip))) (.seq (.reg slaws_szDeal_r4) (.ret))))
def slaws_szDeal : SFn := { nslots := 5, nobjs := 1, params := [0, 1], ngiven := 0, bor := false, takes := [], body := slaws_szDeal_b, results := [.slot 3] }
def slaws_szDeal_t : List Tmp := [0, 1, 2, 4, 10]
attribute [simp] slaws_szDeal_r0 slaws_szDeal_r1 slaws_szDeal_r2 slaws_szDeal_r3 slaws_szDeal_r4 slaws_szDeal_b slaws_szDeal
def slaws_szIntS_r0 : Reg :=
  { id := 0, ops := [{ op := .mv (.con (.sc (.int .i64 0))) }], clr := [2] }
def slaws_szIntS_r1 : Reg :=
  { id := 1, ops := [{ op := .mv (.slot 1) },
      { op := .mv (.slot 0) },
      { op := .len false (.loc 1) },
      { op := .bin .sub (.loc 0) (.loc 2) },
      { op := .mv (.loc 3) }], sets := [(1, 4)], clr := [0] }
def slaws_szIntS_r2 : Reg :=
  { id := 2, ops := [{ op := .mv (.slot 1) },
      { op := .bin .lss (.loc 0) (.con (.sc (.int .i64 0))) }], sets := [(3, 1)] }
def slaws_szIntS_r3 : Reg :=
  { id := 3, ops := [{ op := .mv (.con (.sc (.int .i64 (-1)))) }], sets := [(2, 0)], clr := [1] }
def slaws_szIntS_r4 : Reg :=
  { id := 4, ops := [{ op := .mv (.slot 1) },
      { op := .mv (.loc 0) }], sets := [(2, 1)], clr := [1] }
def slaws_szIntS_b : SC := .seq (.reg slaws_szIntS_r0) (.seq (.reg slaws_szIntS_r1) (.seq (.seq (.reg slaws_szIntS_r2) (.cond 3 (.seq (.reg slaws_szIntS_r3) (.ret)) (.skip))) (.seq (.reg slaws_szIntS_r4) (.ret))))
def slaws_szIntS : SFn := { nslots := 4, nobjs := 0, params := [0, 1], ngiven := 0, bor := false, takes := [], body := slaws_szIntS_b, results := [.slot 2] }
def slaws_szIntS_t : List Tmp := [0, 1, 4, 10]
attribute [simp] slaws_szIntS_r0 slaws_szIntS_r1 slaws_szIntS_r2 slaws_szIntS_r3 slaws_szIntS_r4 slaws_szIntS_b slaws_szIntS
def slaws_toDeal_r0 : Reg :=
  { id := 0, ops := [{ op := .box 0 (.slot 0) },
      { op := .alloc 1 [.sc (.bool false), .sc (.int .i64 0), .nil 1] }], sets := [(1, 0), (2, 1)], clr := [0] }
def slaws_toDeal_r1 : Reg :=
  { id := 1, ops := [{ op := .alloc 2 [.sc (.bool false), .sc (.int .i64 0), .nil 1] }], sets := [(3, 0)] }
def slaws_toDeal_r2 : Reg :=
  { id := 2, ops := [{ op := .fieldAddr (.slot 1) 0 },
      { op := .load none (.loc 0) },
      { op := .fieldAddr (.slot 3) 0 },
      { op := .store 1 (.loc 2) (.loc 1) }] }
def slaws_toDeal_r3 : Reg :=
  { id := 3, ops := [{ op := .fieldAddr (.slot 1) 1 },
      { op := .load none (.loc 0) },
      { op := .fieldAddr (.slot 3) 1 },
      { op := .store 1 (.loc 2) (.loc 1) }] }
def slaws_toDeal_r4 : Reg :=
  { id := 4, ops := [{ op := .fieldAddr (.slot 1) 2 },
      { op := .load none (.loc 0) },
      { op := .call 31 [(false, .loc 1)] [3] },
      { op := .fieldAddr (.slot 3) 2 },
      { op := .store 1 (.loc 3) (.loc 2) }], clr := [1] }
def slaws_toDeal_r5 : Reg :=
  { id := 5, ops := [{ op := .load (some 3) (.slot 3) },
      { op := .store 3 (.slot 2) (.loc 0) }], clr := [3] }
def slaws_toDeal_b : SC := .seq (.reg slaws_toDeal_r0) (.seq (.reg slaws_toDeal_r1) (.seq (.reg slaws_toDeal_r2) (.seq (.reg slaws_toDeal_r3) (.seq (.reg slaws_toDeal_r4) (.seq (.reg slaws_toDeal_r5) (.ret))))))
def slaws_toDeal : SFn := { nslots := 4, nobjs := 4, params := [0], ngiven := 0, bor := false, takes := [], body := slaws_toDeal_b, results := [.cell 2 (some 3)] }
def slaws_toDeal_t : List Tmp := [0, 1, 2, 3]
attribute [simp] slaws_toDeal_r0 slaws_toDeal_r1 slaws_toDeal_r2 slaws_toDeal_r3 slaws_toDeal_r4 slaws_toDeal_r5 slaws_toDeal_b slaws_toDeal
def slaws_toIntS_r0 : Reg :=
  { id := 0, ops := [{ op := .mv (.con (.nil 1)) }], clr := [1] }
def slaws_toIntS_r1 : Reg :=
  { id := 1, ops := [{ op := .mv (.slot 0) },
      { op := .len false (.loc 0) },
      { op := .makeSlice 0 1 8 [.sc (.int .i64 0)] (.loc 1) },
      { op := .mv (.loc 2) }], sets := [(2, 3)] }
def slaws_toIntS_r2 : Reg :=
  { id := 2, ops := [{ op := .mv (.con (.sc (.int .i64 0))) }], sets := [(3, 0)] }
def slaws_toIntS_r3 : Reg :=
  { id := 3, ops := [{ op := .mv (.slot 3) },
      { op := .mv (.slot 0) },
      { op := .len false (.loc 1) },
      { op := .bin .lss (.loc 0) (.loc 2) }], sets := [(4, 3)] }
def slaws_toIntS_r4 : Reg :=
  { id := 5, ops := [{ op := .mv (.slot 2) },
      { op := .mv (.slot 3) },
      { op := .mv (.slot 0) },
      { op := .mv (.slot 3) },
      { op := .indexAddr 1 (.loc 2) (.loc 3) },
      { op := .load none (.loc 4) },
      { op := .indexAddr 1 (.loc 0) (.loc 1) },
      { op := .store 1 (.loc 6) (.loc 5) }] }
def slaws_toIntS_r5 : Reg :=
  { id := 4, ops := [{ op := .mv (.slot 3) },
      { op := .bin .add (.loc 0) (.con (.sc (.int .i64 1))) },
      { op := .mv (.loc 1) }], sets := [(3, 2)] }
def slaws_toIntS_r6 : Reg :=
  { id := 6, ops := [{ op := .mv (.slot 2) },
      { op := .mv (.loc 0) }], sets := [(1, 1)], clr := [0, 2, 3] }
def slaws_toIntS_b : SC := .seq (.reg slaws_toIntS_r0) (.seq (.reg slaws_toIntS_r1) (.seq (.seq (.reg slaws_toIntS_r2) (.block 0 (.loop (.seq (.seq (.reg slaws_toIntS_r3) (.cond 4 (.skip) (.exit 0))) (.seq (.block 1 (.reg slaws_toIntS_r4)) (.reg slaws_toIntS_r5)))))) (.seq (.reg slaws_toIntS_r6) (.ret))))
def slaws_toIntS : SFn := { nslots := 5, nobjs := 1, params := [0], ngiven := 0, bor := false, takes := [], body := slaws_toIntS_b, results := [.slot 1] }
def slaws_toIntS_t : List Tmp := [0, 2, 3, 4, 11]
attribute [simp] slaws_toIntS_r0 slaws_toIntS_r1 slaws_toIntS_r2 slaws_toIntS_r3 slaws_toIntS_r4 slaws_toIntS_r5 slaws_toIntS_r6 slaws_toIntS_b slaws_toIntS
def slaws_eqDeal_r0 : Reg :=
  { id := 0, ops := [{ op := .box 0 (.slot 0) },
      { op := .box 1 (.slot 1) },
      { op := .mv (.con (.sc (.bool false))) }], sets := [(2, 0), (3, 1)], clr := [0, 1, 4] }
def slaws_eqDeal_r1 : Reg :=
  { id := 1, ops := [{ op := .fieldAddr (.slot 2) 0 },
      { op := .load none (.loc 0) },
      { op := .fieldAddr (.slot 3) 0 },
      { op := .load none (.loc 2) },
      { op := .beq true (.loc 1) (.loc 3) }], sets := [(5, 4)] }
def slaws_eqDeal_r2 : Reg :=
  { id := 2, ops := [{ op := .mv (.con (.sc (.bool false))) }], sets := [(4, 0)], clr := [2, 3] }
def slaws_eqDeal_r3 : Reg :=
  { id := 3, ops := [{ op := .fieldAddr (.slot 2) 1 },
      { op := .load none (.loc 0) },
      { op := .fieldAddr (.slot 3) 1 },
      { op := .load none (.loc 2) },
      { op := .bin .neq (.loc 1) (.loc 3) }], sets := [(6, 4)] }
def slaws_eqDeal_r4 : Reg :=
  { id := 4, ops := [{ op := .mv (.con (.sc (.bool false))) }], sets := [(4, 0)], clr := [2, 3] }
def slaws_eqDeal_r5 : Reg :=
  { id := 5, ops := [{ op := .fieldAddr (.slot 2) 2 },
      { op := .load none (.loc 0) },
      { op := .fieldAddr (.slot 3) 2 },
      { op := .load none (.loc 2) },
      { op := .call 47 [(false, .loc 1), (false, .loc 3)] [] },
      { op := .un .not (.loc 4) }], sets := [(7, 5)], clr := [2, 3] }
def slaws_eqDeal_r6 : Reg :=
  { id := 6, ops := [{ op := .mv (.con (.sc (.bool false))) }], sets := [(4, 0)] }
def slaws_eqDeal_r7 : Reg :=
  { id := 7, ops := [{ op := .mv (.con (.sc (.bool true))) }], sets := [(4, 0)] }
def slaws_eqDeal_b : SC := .seq (.reg slaws_eqDeal_r0) (.seq (.seq (.reg slaws_eqDeal_r1) (.cond 5 (.seq (.reg slaws_eqDeal_r2) (.ret)) (.skip))) (.seq (.seq (.reg slaws_eqDeal_r3) (.cond 6 (.seq (.reg slaws_eqDeal_r4) (.ret)) (.skip))) (.seq (.seq (.reg slaws_eqDeal_r5) (.cond 7 (.seq (.reg slaws_eqDeal_r6) (.ret)) (.skip))) (.seq (.reg slaws_eqDeal_r7) (.ret)))))
def slaws_eqDeal : SFn := { nslots := 8, nobjs := 2, params := [0, 1], ngiven := 0, bor := false, takes := [], body := slaws_eqDeal_b, results := [.slot 4] }
def slaws_eqDeal_t : List Tmp := [0, 1, 2, 3, 4, 9, 14, 20]
attribute [simp] slaws_eqDeal_r0 slaws_eqDeal_r1 slaws_eqDeal_r2 slaws_eqDeal_r3 slaws_eqDeal_r4 slaws_eqDeal_r5 slaws_eqDeal_r6 slaws_eqDeal_r7 slaws_eqDeal_b slaws_eqDeal
def slaws_eqIntS_r0 : Reg :=
  { id := 0, ops := [{ op := .mv (.con (.sc (.bool false))) }], clr := [2] }
def slaws_eqIntS_r1 : Reg :=
  { id := 1, ops := [{ op := .mv (.slot 0) },
      { op := .len false (.loc 0) },
      { op := .mv (.slot 1) },
      { op := .len false (.loc 2) },
      { op := .bin .neq (.loc 1) (.loc 3) }], sets := [(4, 4)] }
def slaws_eqIntS_r2 : Reg :=
  { id := 2, ops := [{ op := .mv (.con (.sc (.bool false))) }], sets := [(2, 0)], clr := [0, 1] }
def slaws_eqIntS_r3 : Reg :=
  { id := 3, ops := [{ op := .mv (.con (.sc (.int .i64 0))) }], sets := [(3, 0)] }
def slaws_eqIntS_r4 : Reg :=
  { id := 4, ops := [{ op := .mv (.slot 3) },
      { op := .mv (.slot 0) },
      { op := .len false (.loc 1) },
      { op := .bin .lss (.loc 0) (.loc 2) }], sets := [(5, 3)] }
def slaws_eqIntS_r5 : Reg :=
  { id := 6, draw := true, ops := [{ op := .mv (.slot 0), tau := some [], om := [] },
      { op := .mv (.slot 3), tau := some [], om := [] },
      { op := .indexAddr 1 (.loc 0) (.loc 1), tau := some [], om := [] },
      { op := .load none (.loc 2), tau := some [], om := [] },
      { op := .mv (.slot 1), tau := some [], om := [] },
      { op := .mv (.slot 3), tau := some [], om := [] },
      { op := .indexAddr 1 (.loc 4) (.loc 5), tau := some [], om := [] },
      { op := .load none (.loc 6), tau := some [], om := [] },
      { op := .bin .neq (.loc 3) (.loc 7), tau := some [], om := [] }], sets := [(6, 8)] }
def slaws_eqIntS_r6 : Reg :=
  { id := 7, ops := [{ op := .mv (.con (.sc (.bool false))) }], sets := [(2, 0)], clr := [0, 1, 3] }
def slaws_eqIntS_r7 : Reg :=
  { id := 5, ops := [{ op := .mv (.slot 3) },
      { op := .bin .add (.loc 0) (.con (.sc (.int .i64 1))) },
      { op := .mv (.loc 1) }], sets := [(3, 2)] }
def slaws_eqIntS_r8 : Reg :=
  { id := 8, ops := [{ op := .mv (.con (.sc (.bool true))) }], sets := [(2, 0)], clr := [0, 1, 3] }
def slaws_eqIntS_b : SC := .seq (.reg slaws_eqIntS_r0) (.seq (.seq (.reg slaws_eqIntS_r1) (.cond 4 (.seq (.reg slaws_eqIntS_r2) (.ret)) (.skip))) (.seq (.seq (.reg slaws_eqIntS_r3) (.block 0 (.loop (.seq (.seq (.reg slaws_eqIntS_r4) (.cond 5 (.skip) (.exit 0))) (.seq (.block 1 (.seq (.reg slaws_eqIntS_r5) (.cond 6 (.seq (.reg slaws_eqIntS_r6) (.ret)) (.skip)))) (.reg slaws_eqIntS_r7)))))) (.seq (.reg slaws_eqIntS_r8) (.ret))))
def slaws_eqIntS : SFn := { nslots := 7, nobjs := 0, params := [0, 1], ngiven := 0, bor := false, takes := [], body := slaws_eqIntS_b, results := [.slot 2] }
def slaws_eqIntS_t : List Tmp := [0, 1, 4, 5, 10, 14, 25]
attribute [simp] slaws_eqIntS_r0 slaws_eqIntS_r1 slaws_eqIntS_r2 slaws_eqIntS_r3 slaws_eqIntS_r4 slaws_eqIntS_r5 slaws_eqIntS_r6 slaws_eqIntS_r7 slaws_eqIntS_r8 slaws_eqIntS_b slaws_eqIntS
def slaws_eqEndpoint_r0 : Reg :=
  { id := 0, ops := [{ op := .box 0 (.slot 0) },
      { op := .box 1 (.slot 1) },
      { op := .mv (.con (.sc (.bool false))) }], sets := [(2, 0), (3, 1)], clr := [0, 1, 4] }
def slaws_eqEndpoint_r1 : Reg :=
  { id := 1, ops := [{ op := .fieldAddr (.slot 2) 0 },
      { op := .load none (.loc 0) },
      { op := .fieldAddr (.slot 3) 0 },
      { op := .load none (.loc 2) },
      { op := .call 47 [(false, .loc 1), (false, .loc 3)] [] },
      { op := .un .not (.loc 4) }], sets := [(5, 5)] }
def slaws_eqEndpoint_r2 : Reg :=
  { id := 2, ops := [{ op := .mv (.con (.sc (.bool false))) }], sets := [(4, 0)], clr := [2, 3] }
def slaws_eqEndpoint_r3 : Reg :=
  { id := 3, ops := [{ op := .fieldAddr (.slot 2) 1 },
      { op := .load none (.loc 0) },
      { op := .fieldAddr (.slot 3) 1 },
      { op := .load none (.loc 2) },
      { op := .call 47 [(false, .loc 1), (false, .loc 3)] [] },
      { op := .un .not (.loc 4) }], sets := [(6, 5)] }
def slaws_eqEndpoint_r4 : Reg :=
  { id := 4, ops := [{ op := .mv (.con (.sc (.bool false))) }], sets := [(4, 0)], clr := [2, 3] }
def slaws_eqEndpoint_r5 : Reg :=
  { id := 5, ops := [{ op := .fieldAddr (.slot 2) 2 },
      { op := .load none (.loc 0) },
      { op := .fieldAddr (.slot 3) 2 },
      { op := .load none (.loc 2) },
      { op := .call 204 [(false, .loc 1), (false, .loc 3)] [] },
      { op := .un .not (.loc 4) }], sets := [(7, 5)] }
def slaws_eqEndpoint_r6 : Reg :=
  { id := 6, ops := [{ op := .mv (.con (.sc (.bool false))) }], sets := [(4, 0)], clr := [2, 3] }
def slaws_eqEndpoint_r7 : Reg :=
  { id := 7, ops := [{ op := .fieldAddr (.slot 2) 3 },
      { op := .load none (.loc 0) },
      { op := .fieldAddr (.slot 3) 3 },
      { op := .load none (.loc 2) },
      { op := .bin .neq (.loc 1) (.loc 3) }], sets := [(8, 4)], clr := [2, 3] }
def slaws_eqEndpoint_r8 : Reg :=
  { id := 8, ops := [{ op := .mv (.con (.sc (.bool false))) }], sets := [(4, 0)] }
def slaws_eqEndpoint_r9 : Reg :=
  { id := 9, ops := [{ op := .mv (.con (.sc (.bool true))) }], sets := [(4, 0)] }
def slaws_eqEndpoint_b : SC := .seq (.reg slaws_eqEndpoint_r0) (.seq (.seq (.reg slaws_eqEndpoint_r1) (.cond 5 (.seq (.reg slaws_eqEndpoint_r2) (.ret)) (.skip))) (.seq (.seq (.reg slaws_eqEndpoint_r3) (.cond 6 (.seq (.reg slaws_eqEndpoint_r4) (.ret)) (.skip))) (.seq (.seq (.reg slaws_eqEndpoint_r5) (.cond 7 (.seq (.reg slaws_eqEndpoint_r6) (.ret)) (.skip))) (.seq (.seq (.reg slaws_eqEndpoint_r7) (.cond 8 (.seq (.reg slaws_eqEndpoint_r8) (.ret)) (.skip))) (.seq (.reg slaws_eqEndpoint_r9) (.ret))))))
def slaws_eqEndpoint : SFn := { nslots := 9, nobjs := 2, params := [0, 1], ngiven := 0, bor := false, takes := [], body := slaws_eqEndpoint_b, results := [.slot 4] }
def slaws_eqEndpoint_t : List Tmp := [0, 1, 2, 3, 4, 10, 16, 22, 27]
attribute [simp] slaws_eqEndpoint_r0 slaws_eqEndpoint_r1 slaws_eqEndpoint_r2 slaws_eqEndpoint_r3 slaws_eqEndpoint_r4 slaws_eqEndpoint_r5 slaws_eqEndpoint_r6 slaws_eqEndpoint_r7 slaws_eqEndpoint_r8 slaws_eqEndpoint_r9 slaws_eqEndpoint_b slaws_eqEndpoint
def slaws_markIntS_r0 : Reg :=
  { id := 0, ops := [{ op := .mv (.con (.sc (.int .i64 0))) }], clr := [2] }
def slaws_markIntS_r1 : Reg :=
  { id := 1, ops := [{ op := .mv (.con (.sc (.int .i64 0))) }], sets := [(3, 0)] }
def slaws_markIntS_r2 : Reg :=
  { id := 2, ops := [{ op := .mv (.slot 3) },
      { op := .mv (.slot 0) },
      { op := .len false (.loc 1) },
      { op := .bin .lss (.loc 0) (.loc 2) }], sets := [(4, 3)] }
def slaws_markIntS_r3 : Reg :=
  { id := 4, ops := [{ op := .mv (.slot 0) },
      { op := .mv (.slot 3) },
      { op := .mv (.slot 1) },
      { op := .indexAddr 1 (.loc 0) (.loc 1) },
      { op := .store 1 (.loc 3) (.loc 2) }] }
def slaws_markIntS_r4 : Reg :=
  { id := 5, ops := [{ op := .mv (.slot 1) },
      { op := .bin .add (.loc 0) (.con (.sc (.int .i64 1))) },
      { op := .mv (.loc 1) }], sets := [(1, 2)] }
def slaws_markIntS_r5 : Reg :=
  { id := 3, ops := [{ op := .mv (.slot 3) },
      { op := .bin .add (.loc 0) (.con (.sc (.int .i64 1))) },
      { op := .mv (.loc 1) }], sets := [(3, 2)] }
def slaws_markIntS_r6 : Reg :=
  { id := 6, ops := [{ op := .mv (.slot 1) },
      { op := .mv (.loc 0) }], sets := [(2, 1)], clr := [0, 1, 3] }
def slaws_markIntS_b : SC := .seq (.reg slaws_markIntS_r0) (.seq (.seq (.reg slaws_markIntS_r1) (.block 0 (.loop (.seq (.seq (.reg slaws_markIntS_r2) (.cond 4 (.skip) (.exit 0))) (.seq (.block 1 (.seq (.reg slaws_markIntS_r3) (.reg slaws_markIntS_r4))) (.reg slaws_markIntS_r5)))))) (.seq (.reg slaws_markIntS_r6) (.ret)))
def slaws_markIntS : SFn := { nslots := 5, nobjs := 1, params := [0, 1], ngiven := 1, bor := false, takes := [], body := slaws_markIntS_b, results := [.slot 2] }
def slaws_markIntS_t : List Tmp := [0, 1, 4, 5, 9]
attribute [simp] slaws_markIntS_r0 slaws_markIntS_r1 slaws_markIntS_r2 slaws_markIntS_r3 slaws_markIntS_r4 slaws_markIntS_r5 slaws_markIntS_r6 slaws_markIntS_b slaws_markIntS
def slaws_markBoxS_r0 : Reg :=
  { id := 0, ops := [{ op := .mv (.con (.sc (.int .i64 0))) }], clr := [2] }
def slaws_markBoxS_r1 : Reg :=
  { id := 1, ops := [{ op := .mv (.con (.sc (.int .i64 0))) }], sets := [(3, 0)] }
def slaws_markBoxS_r2 : Reg :=
  { id := 2, ops := [{ op := .mv (.slot 3) },
      { op := .mv (.slot 0) },
      { op := .len false (.loc 1) },
      { op := .bin .lss (.loc 0) (.loc 2) }], sets := [(4, 3)] }
def slaws_markBoxS_r3 : Reg :=
  { id := 4, ops := [{ op := .mv (.slot 0) },
      { op := .mv (.slot 3) },
      { op := .mv (.slot 1) },
      { op := .indexAddr 4 (.loc 0) (.loc 1) },
      { op := .fieldAddr (.loc 3) 0 },
      { op := .store 1 (.loc 4) (.loc 2) }] }
def slaws_markBoxS_r4 : Reg :=
  { id := 5, ops := [{ op := .mv (.slot 1) },
      { op := .bin .add (.loc 0) (.con (.sc (.int .i64 1))) },
      { op := .mv (.loc 1) }], sets := [(1, 2)] }
def slaws_markBoxS_r5 : Reg :=
  { id := 6, fresh := [1], ops := [{ op := .mv (.slot 0) },
      { op := .mv (.slot 3) },
      { op := .indexAddr 4 (.loc 0) (.loc 1) },
      { op := .fieldAddr (.loc 2) 1 },
      { op := .take 1 (.loc 3) },
      { op := .mv (.slot 1) },
      { op := .call 52 [(true, .loc 4), (false, .loc 5)] [] },
      { op := .mv (.loc 6) }], sets := [(1, 7)], ghosts := [.untake 1] }
def slaws_markBoxS_r6 : Reg :=
  { id := 7, fresh := [2], ops := [{ op := .mv (.slot 0) },
      { op := .mv (.slot 3) },
      { op := .indexAddr 4 (.loc 0) (.loc 1) },
      { op := .fieldAddr (.loc 2) 2 },
      { op := .take 2 (.loc 3) },
      { op := .mv (.slot 1) },
      { op := .call 52 [(true, .loc 4), (false, .loc 5)] [] },
      { op := .mv (.loc 6) }], sets := [(1, 7)], ghosts := [.untake 2] }
def slaws_markBoxS_r7 : Reg :=
  { id := 8, ops := [{ op := .mv (.slot 0) },
      { op := .mv (.slot 3) },
      { op := .mv (.slot 1) },
      { op := .bin .rem (.loc 2) (.con (.sc (.int .i64 3))) },
      { op := .bin .eql (.loc 3) (.con (.sc (.int .i64 0))) },
      { op := .indexAddr 4 (.loc 0) (.loc 1) },
      { op := .fieldAddr (.loc 5) 3 },
      { op := .store 1 (.loc 6) (.loc 4) }] }
def slaws_markBoxS_r8 : Reg :=
  { id := 9, ops := [{ op := .mv (.slot 1) },
      { op := .bin .add (.loc 0) (.con (.sc (.int .i64 1))) },
      { op := .mv (.loc 1) }], sets := [(1, 2)] }
def slaws_markBoxS_r9 : Reg :=
  { id := 3, ops := [{ op := .mv (.slot 3) },
      { op := .bin .add (.loc 0) (.con (.sc (.int .i64 1))) },
      { op := .mv (.loc 1) }], sets := [(3, 2)] }
def slaws_markBoxS_r10 : Reg :=
  { id := 10, ops := [{ op := .mv (.slot 1) },
      { op := .mv (.loc 0) }], sets := [(2, 1)], clr := [0, 1, 3] }
def slaws_markBoxS_b : SC := .seq (.reg slaws_markBoxS_r0) (.seq (.seq (.reg slaws_markBoxS_r1) (.block 0 (.loop (.seq (.seq (.reg slaws_markBoxS_r2) (.cond 4 (.skip) (.exit 0))) (.seq (.block 1 (.seq (.reg slaws_markBoxS_r3) (.seq (.reg slaws_markBoxS_r4) (.seq (.reg slaws_markBoxS_r5) (.seq (.reg slaws_markBoxS_r6) (.seq (.reg slaws_markBoxS_r7) (.reg slaws_markBoxS_r8))))))) (.reg slaws_markBoxS_r9)))))) (.seq (.reg slaws_markBoxS_r10) (.ret)))
def slaws_markBoxS : SFn := { nslots := 5, nobjs := 3, params := [0, 1], ngiven := 1, bor := false, takes := [1, 2], body := slaws_markBoxS_b, results := [.slot 2] }
def slaws_markBoxS_t : List Tmp := [0, 1, 4, 5, 9]
attribute [simp] slaws_markBoxS_r0 slaws_markBoxS_r1 slaws_markBoxS_r2 slaws_markBoxS_r3 slaws_markBoxS_r4 slaws_markBoxS_r5 slaws_markBoxS_r6 slaws_markBoxS_r7 slaws_markBoxS_r8 slaws_markBoxS_r9 slaws_markBoxS_r10 slaws_markBoxS_b slaws_markBoxS
def slaws_heldIntS_r0 : Reg :=
  { id := 0, ops := [{ op := .mv (.con (.sc (.int .i64 0))) }], clr := [2] }
def slaws_heldIntS_r1 : Reg :=
  { id := 1, ops := [{ op := .mv (.con (.sc (.int .i64 0))) }], sets := [(3, 0)] }
def slaws_heldIntS_r2 : Reg :=
  { id := 2, ops := [{ op := .mv (.slot 3) },
      { op := .mv (.slot 0) },
      { op := .len false (.loc 1) },
      { op := .bin .lss (.loc 0) (.loc 2) }], sets := [(4, 3)] }
def slaws_heldIntS_r3 : Reg :=
  { id := 4, ops := [{ op := .mv (.slot 0) },
      { op := .mv (.slot 3) },
      { op := .indexAddr 1 (.loc 0) (.loc 1) },
      { op := .load none (.loc 2) },
      { op := .mv (.slot 1) },
      { op := .bin .neq (.loc 3) (.loc 4) }], sets := [(5, 5)] }
def slaws_heldIntS_r4 : Reg :=
  { id := 5, ops := [{ op := .mv (.con (.sc (.int .i64 (-1)))) }], sets := [(2, 0)], clr := [0, 1, 3] }
def slaws_heldIntS_r5 : Reg :=
  { id := 6, ops := [{ op := .mv (.slot 1) },
      { op := .bin .add (.loc 0) (.con (.sc (.int .i64 1))) },
      { op := .mv (.loc 1) }], sets := [(1, 2)] }
def slaws_heldIntS_r6 : Reg :=
  { id := 3, ops := [{ op := .mv (.slot 3) },
      { op := .bin .add (.loc 0) (.con (.sc (.int .i64 1))) },
      { op := .mv (.loc 1) }], sets := [(3, 2)] }
def slaws_heldIntS_r7 : Reg :=
  { id := 7, ops := [{ op := .mv (.slot 1) },
      { op := .mv (.loc 0) }], sets := [(2, 1)], clr := [0, 1, 3] }
def slaws_heldIntS_b : SC := .seq (.reg slaws_heldIntS_r0) (.seq (.seq (.reg slaws_heldIntS_r1) (.block 0 (.loop (.seq (.seq (.reg slaws_heldIntS_r2) (.cond 4 (.skip) (.exit 0))) (.seq (.block 1 (.seq (.seq (.reg slaws_heldIntS_r3) (.cond 5 (.seq (.reg slaws_heldIntS_r4) (.ret)) (.skip))) (.reg slaws_heldIntS_r5))) (.reg slaws_heldIntS_r6)))))) (.seq (.reg slaws_heldIntS_r7) (.ret)))
def slaws_heldIntS : SFn := { nslots := 6, nobjs := 0, params := [0, 1], ngiven := 0, bor := false, takes := [], body := slaws_heldIntS_b, results := [.slot 2] }
def slaws_heldIntS_t : List Tmp := [0, 1, 4, 5, 9, 17]
attribute [simp] slaws_heldIntS_r0 slaws_heldIntS_r1 slaws_heldIntS_r2 slaws_heldIntS_r3 slaws_heldIntS_r4 slaws_heldIntS_r5 slaws_heldIntS_r6 slaws_heldIntS_r7 slaws_heldIntS_b slaws_heldIntS
def sspec_l9Has_r0 : Reg :=
  { id := 0, ops := [{ op := .mv (.con (.sc (.bool false))) }], clr := [2] }
def sspec_l9Has_r1 : Reg :=
  { id := 1, ops := [{ op := .mv (.con (.sc (.int .i64 0))) }], sets := [(3, 0)] }
def sspec_l9Has_r2 : Reg :=
  { id := 2, ops := [{ op := .mv (.slot 3) },
      { op := .mv (.slot 0) },
      { op := .len false (.loc 1) },
      { op := .bin .lss (.loc 0) (.loc 2) }], sets := [(4, 3)] }
def sspec_l9Has_r3 : Reg :=
  { id := 4, ops := [{ op := .mv (.slot 0) },
      { op := .mv (.slot 3) },
      { op := .indexAddr 1 (.loc 0) (.loc 1) },
      { op := .load none (.loc 2) },
      { op := .mv (.slot 1) },
      { op := .bin .eql (.loc 3) (.loc 4) }], sets := [(5, 5)] }
def sspec_l9Has_r4 : Reg :=
  { id := 5, ops := [{ op := .mv (.con (.sc (.bool true))) }], sets := [(2, 0)], clr := [0, 1, 3] }
def sspec_l9Has_r5 : Reg :=
  { id := 3, ops := [{ op := .mv (.slot 3) },
      { op := .bin .add (.loc 0) (.con (.sc (.int .i64 1))) },
      { op := .mv (.loc 1) }], sets := [(3, 2)] }
def sspec_l9Has_r6 : Reg :=
  { id := 6, ops := [{ op := .mv (.con (.sc (.bool false))) }], sets := [(2, 0)], clr := [0, 1, 3] }
def sspec_l9Has_b : SC := .seq (.reg sspec_l9Has_r0) (.seq (.seq (.reg sspec_l9Has_r1) (.block 0 (.loop (.seq (.seq (.reg sspec_l9Has_r2) (.cond 4 (.skip) (.exit 0))) (.seq (.block 1 (.seq (.reg sspec_l9Has_r3) (.cond 5 (.seq (.reg sspec_l9Has_r4) (.ret)) (.skip)))) (.reg sspec_l9Has_r5)))))) (.seq (.reg sspec_l9Has_r6) (.ret)))
def sspec_l9Has : SFn := { nslots := 6, nobjs := 0, params := [0, 1], ngiven := 0, bor := false, takes := [], body := sspec_l9Has_b, results := [.slot 2] }
def sspec_l9Has_t : List Tmp := [0, 1, 4, 5, 9, 17]
attribute [simp] sspec_l9Has_r0 sspec_l9Has_r1 sspec_l9Has_r2 sspec_l9Has_r3 sspec_l9Has_r4 sspec_l9Has_r5 sspec_l9Has_r6 sspec_l9Has_b sspec_l9Has
def sslices_Contains___int_int__r0 : Reg :=
  { id := 0, ops := [{ op := .mv (.con (.sc (.bool false))) }], clr := [2] }
def sslices_Contains___int_int__r1 : Reg :=
  { id := 1, ops := [{ op := .mv (.slot 0) },
      { op := .mv (.slot 1) },
      { op := .call 389 [(false, .loc 0), (false, .loc 1)] [] },
      { op := .bin .geq (.loc 2) (.con (.sc (.int .i64 0))) },
      { op := .mv (.loc 3) }], sets := [(2, 4)], clr := [0, 1] }
def sslices_Contains___int_int__b : SC := .seq (.reg sslices_Contains___int_int__r0) (.seq (.reg sslices_Contains___int_int__r1) (.ret))
def sslices_Contains___int_int_ : SFn := { nslots := 3, nobjs := 0, params := [0, 1], ngiven := 0, bor := false, takes := [], body := sslices_Contains___int_int__b, results := [.slot 2] }
def sslices_Contains___int_int__t : List Tmp := [0, 1, 4]
attribute [simp] sslices_Contains___int_int__r0 sslices_Contains___int_int__r1 sslices_Contains___int_int__b sslices_Contains___int_int_
def slaws_szBox_r0 : Reg :=
  { id := 0, ops := [{ op := .box 0 (.slot 0) },
      { op := .mv (.con (.sc (.int .i64 0))) }], sets := [(2, 0)], clr := [0, 3] }
def slaws_szBox_r1 : Reg :=
  { id := 1, ops := [{ op := .fieldAddr (.slot 2) 1 },
      { op := .load none (.loc 0) },
      { op := .mv (.slot 1) },
      { op := .call 16 [(false, .loc 1), (false, .loc 2)] [] },
      { op := .mv (.loc 3) }], sets := [(1, 4)] }
def slaws_szBox_r2 : Reg :=
  { id := 2, ops := [{ op := .mv (.slot 1) },
      { op := .bin .lss (.loc 0) (.con (.sc (.int .i64 0))) }], sets := [(4, 1)] }
def slaws_szBox_r3 : Reg :=
  { id := 3, ops := [{ op := .mv (.con (.sc (.int .i64 (-1)))) }], sets := [(3, 0)], clr := [1, 2] }
def slaws_szBox_r4 : Reg :=
  { id := 4, ops := [{ op := .fieldAddr (.slot 2) 2 },
      { op := .load none (.loc 0) },
      { op := .mv (.slot 1) },
      { op := .call 16 [(false, .loc 1), (false, .loc 2)] [] },
      { op := .mv (.loc 3) }], sets := [(1, 4)], clr := [2] }
def slaws_szBox_r5 : Reg :=
  { id := 5, ops := [{ op := .mv (.slot 1) },
      { op := .bin .lss (.loc 0) (.con (.sc (.int .i64 0))) }], sets := [(5, 1)] }
def slaws_szBox_r6 : Reg :=
  { id := 6, ops := [{ op := .mv (.con (.sc (.int .i64 (-1)))) }], sets := [(3, 0)], clr := [1] }
def slaws_szBox_r7 : Reg :=
  { id := 7, ops := [{ op := .mv (.slot 1) },
      { op := .mv (.loc 0) }], sets := [(3, 1)], clr := [1] }
def slaws_szBox_b : SC := .seq (.reg slaws_szBox_r0) (.seq (.reg slaws_szBox_r1) (.seq (.seq (.reg slaws_szBox_r2) (.cond 4 (.seq (.reg slaws_szBox_r3) (.ret)) (.skip))) (.seq (.reg slaws_szBox_r4) (.seq (.seq (.reg slaws_szBox_r5) (.cond 5 (.seq (.reg slaws_szBox_r6) (.ret)) (.skip))) (.seq (.reg slaws_szBox_r7) (.ret))))))
def slaws_szBox : SFn := { nslots := 6, nobjs := 1, params := [0, 1], ngiven := 0, bor := false, takes := [], body := slaws_szBox_b, results := [.slot 3] }
def slaws_szBox_t : List Tmp := [0, 1, 2, 4, 10, 16]
attribute [simp] slaws_szBox_r0 slaws_szBox_r1 slaws_szBox_r2 slaws_szBox_r3 slaws_szBox_r4 slaws_szBox_r5 slaws_szBox_r6 slaws_szBox_r7 slaws_szBox_b slaws_szBox
def slaws_toBox_r0 : Reg :=
  { id := 0, ops := [{ op := .box 0 (.slot 0) },
      { op := .alloc 1 [.sc (.int .i64 0), .nil 1, .nil 1, .sc (.bool false)] }], sets := [(1, 0), (2, 1)], clr := [0] }
def slaws_toBox_r1 : Reg :=
  { id := 1, ops := [{ op := .alloc 2 [.sc (.int .i64 0), .nil 1, .nil 1, .sc (.bool false)] }], sets := [(3, 0)] }
def slaws_toBox_r2 : Reg :=
  { id := 2, ops := [{ op := .fieldAddr (.slot 1) 0 },
      { op := .load none (.loc 0) },
      { op := .fieldAddr (.slot 3) 0 },
      { op := .store 1 (.loc 2) (.loc 1) }] }
def slaws_toBox_r3 : Reg :=
  { id := 3, ops := [{ op := .fieldAddr (.slot 1) 1 },
      { op := .load none (.loc 0) },
      { op := .call 31 [(false, .loc 1)] [3] },
      { op := .fieldAddr (.slot 3) 1 },
      { op := .store 1 (.loc 3) (.loc 2) }] }
def slaws_toBox_r4 : Reg :=
  { id := 4, ops := [{ op := .fieldAddr (.slot 1) 2 },
      { op := .load none (.loc 0) },
      { op := .call 31 [(false, .loc 1)] [4] },
      { op := .fieldAddr (.slot 3) 2 },
      { op := .store 1 (.loc 3) (.loc 2) }] }
def slaws_toBox_r5 : Reg :=
  { id := 5, ops := [{ op := .fieldAddr (.slot 1) 3 },
      { op := .load none (.loc 0) },
      { op := .fieldAddr (.slot 3) 3 },
      { op := .store 1 (.loc 2) (.loc 1) }], clr := [1] }
def slaws_toBox_r6 : Reg :=
  { id := 6, ops := [{ op := .load (some 4) (.slot 3) },
      { op := .store 4 (.slot 2) (.loc 0) }], clr := [3] }
def slaws_toBox_b : SC := .seq (.reg slaws_toBox_r0) (.seq (.reg slaws_toBox_r1) (.seq (.reg slaws_toBox_r2) (.seq (.reg slaws_toBox_r3) (.seq (.reg slaws_toBox_r4) (.seq (.reg slaws_toBox_r5) (.seq (.reg slaws_toBox_r6) (.ret)))))))
def slaws_toBox : SFn := { nslots := 4, nobjs := 5, params := [0], ngiven := 0, bor := false, takes := [], body := slaws_toBox_b, results := [.cell 2 (some 4)] }
def slaws_toBox_t : List Tmp := [0, 1, 2, 3]
attribute [simp] slaws_toBox_r0 slaws_toBox_r1 slaws_toBox_r2 slaws_toBox_r3 slaws_toBox_r4 slaws_toBox_r5 slaws_toBox_r6 slaws_toBox_b slaws_toBox
def slaws_eqBox_r0 : Reg :=
  { id := 0, ops := [{ op := .box 0 (.slot 0) },
      { op := .box 1 (.slot 1) },
      { op := .mv (.con (.sc (.bool false))) }], sets := [(2, 0), (3, 1)], clr := [0, 1, 4] }
def slaws_eqBox_r1 : Reg :=
  { id := 1, ops := [{ op := .fieldAddr (.slot 2) 0 },
      { op := .load none (.loc 0) },
      { op := .fieldAddr (.slot 3) 0 },
      { op := .load none (.loc 2) },
      { op := .bin .neq (.loc 1) (.loc 3) }], sets := [(5, 4)] }
def slaws_eqBox_r2 : Reg :=
  { id := 2, ops := [{ op := .mv (.con (.sc (.bool false))) }], sets := [(4, 0)], clr := [2, 3] }
def slaws_eqBox_r3 : Reg :=
  { id := 3, ops := [{ op := .fieldAddr (.slot 2) 1 },
      { op := .load none (.loc 0) },
      { op := .fieldAddr (.slot 3) 1 },
      { op := .load none (.loc 2) },
      { op := .call 47 [(false, .loc 1), (false, .loc 3)] [] },
      { op := .un .not (.loc 4) }], sets := [(6, 5)] }
def slaws_eqBox_r4 : Reg :=
  { id := 4, ops := [{ op := .mv (.con (.sc (.bool false))) }], sets := [(4, 0)], clr := [2, 3] }
def slaws_eqBox_r5 : Reg :=
  { id := 5, ops := [{ op := .fieldAddr (.slot 2) 2 },
      { op := .load none (.loc 0) },
      { op := .fieldAddr (.slot 3) 2 },
      { op := .load none (.loc 2) },
      { op := .call 47 [(false, .loc 1), (false, .loc 3)] [] },
      { op := .un .not (.loc 4) }], sets := [(7, 5)] }
def slaws_eqBox_r6 : Reg :=
  { id := 6, ops := [{ op := .mv (.con (.sc (.bool false))) }], sets := [(4, 0)], clr := [2, 3] }
def slaws_eqBox_r7 : Reg :=
  { id := 7, ops := [{ op := .fieldAddr (.slot 2) 3 },
      { op := .load none (.loc 0) },
      { op := .fieldAddr (.slot 3) 3 },
      { op := .load none (.loc 2) },
      { op := .beq true (.loc 1) (.loc 3) }], sets := [(8, 4)], clr := [2, 3] }
def slaws_eqBox_r8 : Reg :=
  { id := 8, ops := [{ op := .mv (.con (.sc (.bool false))) }], sets := [(4, 0)] }
def slaws_eqBox_r9 : Reg :=
  { id := 9, ops := [{ op := .mv (.con (.sc (.bool true))) }], sets := [(4, 0)] }
def slaws_eqBox_b : SC := .seq (.reg slaws_eqBox_r0) (.seq (.seq (.reg slaws_eqBox_r1) (.cond 5 (.seq (.reg slaws_eqBox_r2) (.ret)) (.skip))) (.seq (.seq (.reg slaws_eqBox_r3) (.cond 6 (.seq (.reg slaws_eqBox_r4) (.ret)) (.skip))) (.seq (.seq (.reg slaws_eqBox_r5) (.cond 7 (.seq (.reg slaws_eqBox_r6) (.ret)) (.skip))) (.seq (.seq (.reg slaws_eqBox_r7) (.cond 8 (.seq (.reg slaws_eqBox_r8) (.ret)) (.skip))) (.seq (.reg slaws_eqBox_r9) (.ret))))))
def slaws_eqBox : SFn := { nslots := 9, nobjs := 2, params := [0, 1], ngiven := 0, bor := false, takes := [], body := slaws_eqBox_b, results := [.slot 4] }
def slaws_eqBox_t : List Tmp := [0, 1, 2, 3, 4, 9, 15, 21, 26]
attribute [simp] slaws_eqBox_r0 slaws_eqBox_r1 slaws_eqBox_r2 slaws_eqBox_r3 slaws_eqBox_r4 slaws_eqBox_r5 slaws_eqBox_r6 slaws_eqBox_r7 slaws_eqBox_r8 slaws_eqBox_r9 slaws_eqBox_b slaws_eqBox
def slaws_eqBoxS_r0 : Reg :=
  { id := 0, ops := [{ op := .mv (.con (.sc (.bool false))) }], clr := [2] }
def slaws_eqBoxS_r1 : Reg :=
  { id := 1, ops := [{ op := .mv (.slot 0) },
      { op := .len false (.loc 0) },
      { op := .mv (.slot 1) },
      { op := .len false (.loc 2) },
      { op := .bin .neq (.loc 1) (.loc 3) }], sets := [(4, 4)] }
def slaws_eqBoxS_r2 : Reg :=
  { id := 2, ops := [{ op := .mv (.con (.sc (.bool false))) }], sets := [(2, 0)], clr := [0, 1] }
def slaws_eqBoxS_r3 : Reg :=
  { id := 3, ops := [{ op := .mv (.con (.sc (.int .i64 0))) }], sets := [(3, 0)] }
def slaws_eqBoxS_r4 : Reg :=
  { id := 4, ops := [{ op := .mv (.slot 3) },
      { op := .mv (.slot 0) },
      { op := .len false (.loc 1) },
      { op := .bin .lss (.loc 0) (.loc 2) }], sets := [(5, 3)] }
def slaws_eqBoxS_r5 : Reg :=
  { id := 6, draw := true, ops := [{ op := .mv (.slot 0), tau := some [], om := [] },
      { op := .mv (.slot 3), tau := some [], om := [] },
      { op := .indexAddr 4 (.loc 0) (.loc 1), tau := some [], om := [] },
      { op := .load (some 4) (.loc 2), tau := some [], om := [] },
      { op := .mv (.slot 1), tau := some [], om := [] },
      { op := .mv (.slot 3), tau := some [], om := [] },
      { op := .indexAddr 4 (.loc 4) (.loc 5), tau := some [], om := [] },
      { op := .load (some 4) (.loc 6), tau := some [], om := [] },
      { op := .call 249 [(false, .loc 3), (false, .loc 7)] [], tau := some [], om := [] },
      { op := .un .not (.loc 8), tau := some [], om := [] }], sets := [(6, 9)] }
def slaws_eqBoxS_r6 : Reg :=
  { id := 7, ops := [{ op := .mv (.con (.sc (.bool false))) }], sets := [(2, 0)], clr := [0, 1, 3] }
def slaws_eqBoxS_r7 : Reg :=
  { id := 5, ops := [{ op := .mv (.slot 3) },
      { op := .bin .add (.loc 0) (.con (.sc (.int .i64 1))) },
      { op := .mv (.loc 1) }], sets := [(3, 2)] }
def slaws_eqBoxS_r8 : Reg :=
  { id := 8, ops := [{ op := .mv (.con (.sc (.bool true))) }], sets := [(2, 0)], clr := [0, 1, 3] }
def slaws_eqBoxS_b : SC := .seq (.reg slaws_eqBoxS_r0) (.seq (.seq (.reg slaws_eqBoxS_r1) (.cond 4 (.seq (.reg slaws_eqBoxS_r2) (.ret)) (.skip))) (.seq (.seq (.reg slaws_eqBoxS_r3) (.block 0 (.loop (.seq (.seq (.reg slaws_eqBoxS_r4) (.cond 5 (.skip) (.exit 0))) (.seq (.block 1 (.seq (.reg slaws_eqBoxS_r5) (.cond 6 (.seq (.reg slaws_eqBoxS_r6) (.ret)) (.skip)))) (.reg slaws_eqBoxS_r7)))))) (.seq (.reg slaws_eqBoxS_r8) (.ret))))
def slaws_eqBoxS : SFn := { nslots := 7, nobjs := 0, params := [0, 1], ngiven := 0, bor := false, takes := [], body := slaws_eqBoxS_b, results := [.slot 2] }
def slaws_eqBoxS_t : List Tmp := [0, 1, 4, 5, 10, 14, 26]
attribute [simp] slaws_eqBoxS_r0 slaws_eqBoxS_r1 slaws_eqBoxS_r2 slaws_eqBoxS_r3 slaws_eqBoxS_r4 slaws_eqBoxS_r5 slaws_eqBoxS_r6 slaws_eqBoxS_r7 slaws_eqBoxS_r8 slaws_eqBoxS_b slaws_eqBoxS
def sslices_Index___int_int__r0 : Reg :=
  { id := 0, ops := [{ op := .mv (.con (.sc (.int .i64 0))) }], clr := [2] }
def sslices_Index___int_int__r1 : Reg :=
  { id := 1, ops := [{ op := .mv (.slot 0) },
      { op := .len false (.loc 0) },
      { op := .mv (.con (.sc (.int .i64 0))) }], sets := [(4, 1), (5, 2)] }
def sslices_Index___int_int__r2 : Reg :=
  { id := 2, ops := [{ op := .bin .lss (.slot 5) (.slot 4) }], sets := [(6, 0)] }
def sslices_Index___int_int__r3 : Reg :=
  { id := 3, ops := [{ op := .mv (.slot 5) },
      { op := .mv (.loc 0) }], sets := [(3, 1)] }
def sslices_Index___int_int__r4 : Reg :=
  { id := 4, ops := [{ op := .mv (.slot 1) },
      { op := .mv (.slot 0) },
      { op := .mv (.slot 3) },
      { op := .indexAddr 1 (.loc 1) (.loc 2) },
      { op := .load none (.loc 3) },
      { op := .bin .eql (.loc 0) (.loc 4) }], sets := [(7, 5)] }
def sslices_Index___int_int__r5 : Reg :=
  { id := 5, ops := [{ op := .mv (.slot 3) },
      { op := .mv (.loc 0) }], sets := [(2, 1)], clr := [0, 1, 3, 4, 5] }
def sslices_Index___int_int__r6 : Reg :=
  { id := 6, ops := [{ op := .bin .add (.slot 5) (.con (.sc (.int .i64 1))) },
      { op := .mv (.loc 0) }], sets := [(5, 1)], clr := [3] }
def sslices_Index___int_int__r7 : Reg :=
  { id := 7, ops := [{ op := .mv (.con (.sc (.int .i64 (-1)))) }], sets := [(2, 0)], clr := [0, 1, 4, 5] }
def sslices_Index___int_int__b : SC := .seq (.reg sslices_Index___int_int__r0) (.seq (.seq (.reg sslices_Index___int_int__r1) (.block 0 (.loop (.seq (.reg sslices_Index___int_int__r2) (.seq (.cond 6 (.skip) (.exit 0)) (.seq (.block 1 (.seq (.reg sslices_Index___int_int__r3) (.seq (.reg sslices_Index___int_int__r4) (.cond 7 (.seq (.reg sslices_Index___int_int__r5) (.ret)) (.skip))))) (.reg sslices_Index___int_int__r6))))))) (.seq (.reg sslices_Index___int_int__r7) (.ret)))
def sslices_Index___int_int_ : SFn := { nslots := 8, nobjs := 0, params := [0, 1], ngiven := 0, bor := false, takes := [], body := sslices_Index___int_int__b, results := [.slot 2] }
def sslices_Index___int_int__t : List Tmp := [0, 1, 4, 5, 7, 8, 9, 16]
attribute [simp] sslices_Index___int_int__r0 sslices_Index___int_int__r1 sslices_Index___int_int__r2 sslices_Index___int_int__r3 sslices_Index___int_int__r4 sslices_Index___int_int__r5 sslices_Index___int_int__r6 sslices_Index___int_int__r7 sslices_Index___int_int__b sslices_Index___int_int_
def slaws_szWorld_r0 : Reg :=
  { id := 0, ops := [{ op := .box 0 (.slot 0) },
      { op := .mv (.con (.sc (.int .i64 0))) }], sets := [(2, 0)], clr := [0, 3] }
def slaws_szWorld_r1 : Reg :=
  { id := 1, ops := [{ op := .fieldAddr (.slot 2) 0 },
      { op := .load none (.loc 0) },
      { op := .mv (.slot 1) },
      { op := .call 16 [(false, .loc 1), (false, .loc 2)] [] },
      { op := .mv (.loc 3) }], sets := [(1, 4)] }
def slaws_szWorld_r2 : Reg :=
  { id := 2, ops := [{ op := .mv (.slot 1) },
      { op := .bin .lss (.loc 0) (.con (.sc (.int .i64 0))) }], sets := [(4, 1)] }
def slaws_szWorld_r3 : Reg :=
  { id := 3, ops := [{ op := .mv (.con (.sc (.int .i64 (-1)))) }], sets := [(3, 0)], clr := [1, 2] }
def slaws_szWorld_r4 : Reg :=
  { id := 4, ops := [{ op := .fieldAddr (.slot 2) 1 },
      { op := .load none (.loc 0) },
      { op := .mv (.slot 1) },
      { op := .call 16 [(false, .loc 1), (false, .loc 2)] [] },
      { op := .mv (.loc 3) }], sets := [(1, 4)] }
def slaws_szWorld_r5 : Reg :=
  { id := 5, ops := [{ op := .mv (.slot 1) },
      { op := .bin .lss (.loc 0) (.con (.sc (.int .i64 0))) }], sets := [(5, 1)] }
def slaws_szWorld_r6 : Reg :=
  { id := 6, ops := [{ op := .mv (.con (.sc (.int .i64 (-1)))) }], sets := [(3, 0)], clr := [1, 2] }
def slaws_szWorld_r7 : Reg :=
  { id := 7, ops := [{ op := .fieldAddr (.slot 2) 3 },
      { op := .load none (.loc 0) },
      { op := .mv (.slot 1) },
      { op := .call 17 [(false, .loc 1), (false, .loc 2)] [] },
      { op := .mv (.loc 3) }], sets := [(1, 4)] }
def slaws_szWorld_r8 : Reg :=
  { id := 8, ops := [{ op := .mv (.slot 1) },
      { op := .bin .lss (.loc 0) (.con (.sc (.int .i64 0))) }], sets := [(6, 1)] }
def slaws_szWorld_r9 : Reg :=
  { id := 9, ops := [{ op := .mv (.con (.sc (.int .i64 (-1)))) }], sets := [(3, 0)], clr := [1, 2] }
def slaws_szWorld_r10 : Reg :=
  { id := 10, ops := [{ op := .fieldAddr (.slot 2) 4 },
      { op := .load (some 4) (.loc 0) },
      { op := .mv (.slot 1) },
      { op := .call 18 [(false, .loc 1), (false, .loc 2)] [] },
      { op := .mv (.loc 3) }], sets := [(1, 4)] }
def slaws_szWorld_r11 : Reg :=
  { id := 11, ops := [{ op := .mv (.slot 1) },
      { op := .bin .lss (.loc 0) (.con (.sc (.int .i64 0))) }], sets := [(7, 1)] }
def slaws_szWorld_r12 : Reg :=
  { id := 12, ops := [{ op := .mv (.con (.sc (.int .i64 (-1)))) }], sets := [(3, 0)], clr := [1, 2] }
def slaws_szWorld_r13 : Reg :=
  { id := 13, ops := [{ op := .fieldAddr (.slot 2) 10 },
      { op := .load none (.loc 0) },
      { op := .mv (.slot 1) },
      { op := .call 19 [(false, .loc 1), (false, .loc 2)] [] },
      { op := .mv (.loc 3) }], sets := [(1, 4)] }
def slaws_szWorld_r14 : Reg :=
  { id := 14, ops := [{ op := .mv (.slot 1) },
      { op := .bin .lss (.loc 0) (.con (.sc (.int .i64 0))) }], sets := [(8, 1)] }
def slaws_szWorld_r15 : Reg :=
  { id := 15, ops := [{ op := .mv (.con (.sc (.int .i64 (-1)))) }], sets := [(3, 0)], clr := [1, 2] }
def slaws_szWorld_r16 : Reg :=
  { id := 16, ops := [{ op := .fieldAddr (.slot 2) 11 },
      { op := .load none (.loc 0) },
      { op := .mv (.slot 1) },
      { op := .call 20 [(false, .loc 1), (false, .loc 2)] [] },
      { op := .mv (.loc 3) }], sets := [(1, 4)], clr := [2] }
def slaws_szWorld_r17 : Reg :=
  { id := 17, ops := [{ op := .mv (.slot 1) },
      { op := .bin .lss (.loc 0) (.con (.sc (.int .i64 0))) }], sets := [(9, 1)] }
def slaws_szWorld_r18 : Reg :=
  { id := 18, ops := [{ op := .mv (.con (.sc (.int .i64 (-1)))) }], sets := [(3, 0)], clr := [1] }
def slaws_szWorld_r19 : Reg :=
  { id := 19, ops := [{ op := .mv (.slot 1) },
      { op := .mv (.loc 0) }], sets := [(3, 1)], clr := [1] }
def slaws_szWorld_b : SC := .seq (.reg slaws_szWorld_r0) (.seq (.reg slaws_szWorld_r1) (.seq (.seq (.reg slaws_szWorld_r2) (.cond 4 (.seq (.reg slaws_szWorld_r3) (.ret)) (.skip))) (.seq (.reg slaws_szWorld_r4) (.seq (.seq (.reg slaws_szWorld_r5) (.cond 5 (.seq (.reg slaws_szWorld_r6) (.ret)) (.skip))) (.seq (.reg slaws_szWorld_r7) (.seq (.seq (.reg slaws_szWorld_r8) (.cond 6 (.seq (.reg slaws_szWorld_r9) (.ret)) (.skip))) (.seq (.reg slaws_szWorld_r10) (.seq (.seq (.reg slaws_szWorld_r11) (.cond 7 (.seq (.reg slaws_szWorld_r12) (.ret)) (.skip))) (.seq (.reg slaws_szWorld_r13) (.seq (.seq (.reg slaws_szWorld_r14) (.cond 8 (.seq (.reg slaws_szWorld_r15) (.ret)) (.skip))) (.seq (.reg slaws_szWorld_r16) (.seq (.seq (.reg slaws_szWorld_r17) (.cond 9 (.seq (.reg slaws_szWorld_r18) (.ret)) (.skip))) (.seq (.reg slaws_szWorld_r19) (.ret))))))))))))))
def slaws_szWorld : SFn := { nslots := 10, nobjs := 1, params := [0, 1], ngiven := 0, bor := false, takes := [], body := slaws_szWorld_b, results := [.slot 3] }
def slaws_szWorld_t : List Tmp := [0, 1, 2, 4, 10, 16, 22, 28, 34, 40]
attribute [simp] slaws_szWorld_r0 slaws_szWorld_r1 slaws_szWorld_r2 slaws_szWorld_r3 slaws_szWorld_r4 slaws_szWorld_r5 slaws_szWorld_r6 slaws_szWorld_r7 slaws_szWorld_r8 slaws_szWorld_r9 slaws_szWorld_r10 slaws_szWorld_r11 slaws_szWorld_r12 slaws_szWorld_r13 slaws_szWorld_r14 slaws_szWorld_r15 slaws_szWorld_r16 slaws_szWorld_r17 slaws_szWorld_r18 slaws_szWorld_r19 slaws_szWorld_b slaws_szWorld
def slaws_toWorld_r0 : Reg :=
  { id := 0, ops := [{ op := .box 0 (.slot 0) },
      { op := .alloc 1 [.nil 1, .nil 1, .sc (.int .i64 0), .nil 4, .sc (.int .i64 0), .nil 1, .sc (.int .i64 0), .sc (.bool false), .sc (.int .i64 0), .sc (.int .i64 0), .nil 5, .nil 8, .sc (.int .i64 0), .sc (.int .i64 0), .sc (.int .i64 0)] }], sets := [(1, 0), (2, 1)], clr := [0] }
def slaws_toWorld_r1 : Reg :=
  { id := 1, ops := [{ op := .alloc 2 [.nil 1, .nil 1, .sc (.int .i64 0), .nil 4, .sc (.int .i64 0), .nil 1, .sc (.int .i64 0), .sc (.bool false), .sc (.int .i64 0), .sc (.int .i64 0), .nil 5, .nil 8, .sc (.int .i64 0), .sc (.int .i64 0), .sc (.int .i64 0)] }], sets := [(3, 0)] }
def slaws_toWorld_r2 : Reg :=
  { id := 2, ops := [{ op := .fieldAddr (.slot 1) 0 },
      { op := .load none (.loc 0) },
      { op := .call 31 [(false, .loc 1)] [3] },
      { op := .fieldAddr (.slot 3) 0 },
      { op := .store 1 (.loc 3) (.loc 2) }] }
def slaws_toWorld_r3 : Reg :=
  { id := 3, ops := [{ op := .fieldAddr (.slot 1) 1 },
      { op := .load none (.loc 0) },
      { op := .call 31 [(false, .loc 1)] [4] },
      { op := .fieldAddr (.slot 3) 1 },
      { op := .store 1 (.loc 3) (.loc 2) }] }
def slaws_toWorld_r4 : Reg :=
  { id := 4, ops := [{ op := .fieldAddr (.slot 1) 2 },
      { op := .load none (.loc 0) },
      { op := .fieldAddr (.slot 3) 2 },
      { op := .store 1 (.loc 2) (.loc 1) }] }
def slaws_toWorld_r5 : Reg :=
  { id := 5, ops := [{ op := .fieldAddr (.slot 1) 3 },
      { op := .load none (.loc 0) },
      { op := .call 32 [(false, .loc 1)] [5] },
      { op := .fieldAddr (.slot 3) 3 },
      { op := .store 1 (.loc 3) (.loc 2) }] }
def slaws_toWorld_r6 : Reg :=
  { id := 6, ops := [{ op := .fieldAddr (.slot 1) 4 },
      { op := .load (some 4) (.loc 0) },
      { op := .call 33 [(false, .loc 1)] [6] },
      { op := .fieldAddr (.slot 3) 4 },
      { op := .store 4 (.loc 3) (.loc 2) }] }
def slaws_toWorld_r7 : Reg :=
  { id := 7, ops := [{ op := .fieldAddr (.slot 1) 8 },
      { op := .load none (.loc 0) },
      { op := .fieldAddr (.slot 3) 8 },
      { op := .store 1 (.loc 2) (.loc 1) }] }
def slaws_toWorld_r8 : Reg :=
  { id := 8, ops := [{ op := .fieldAddr (.slot 1) 9 },
      { op := .load none (.loc 0) },
      { op := .fieldAddr (.slot 3) 9 },
      { op := .store 1 (.loc 2) (.loc 1) }] }
def slaws_toWorld_r9 : Reg :=
  { id := 9, ops := [{ op := .fieldAddr (.slot 1) 10 },
      { op := .load none (.loc 0) },
      { op := .call 34 [(false, .loc 1)] [7] },
      { op := .fieldAddr (.slot 3) 10 },
      { op := .store 1 (.loc 3) (.loc 2) }] }
def slaws_toWorld_r10 : Reg :=
  { id := 10, ops := [{ op := .fieldAddr (.slot 1) 11 },
      { op := .load none (.loc 0) },
      { op := .call 35 [(false, .loc 1)] [8] },
      { op := .fieldAddr (.slot 3) 11 },
      { op := .store 1 (.loc 3) (.loc 2) }] }
def slaws_toWorld_r11 : Reg :=
  { id := 11, ops := [{ op := .fieldAddr (.slot 1) 12 },
      { op := .load none (.loc 0) },
      { op := .fieldAddr (.slot 3) 12 },
      { op := .store 1 (.loc 2) (.loc 1) }] }
def slaws_toWorld_r12 : Reg :=
  { id := 12, ops := [{ op := .fieldAddr (.slot 1) 13 },
      { op := .load none (.loc 0) },
      { op := .fieldAddr (.slot 3) 13 },
      { op := .store 1 (.loc 2) (.loc 1) }] }
def slaws_toWorld_r13 : Reg :=
  { id := 13, ops := [{ op := .fieldAddr (.slot 1) 14 },
      { op := .load none (.loc 0) },
      { op := .fieldAddr (.slot 3) 14 },
      { op := .store 1 (.loc 2) (.loc 1) }], clr := [1] }
def slaws_toWorld_r14 : Reg :=
  { id := 14, ops := [{ op := .load (some 15) (.slot 3) },
      { op := .store 15 (.slot 2) (.loc 0) }], clr := [3] }
def slaws_toWorld_b : SC := .seq (.reg slaws_toWorld_r0) (.seq (.reg slaws_toWorld_r1) (.seq (.reg slaws_toWorld_r2) (.seq (.reg slaws_toWorld_r3) (.seq (.reg slaws_toWorld_r4) (.seq (.reg slaws_toWorld_r5) (.seq (.reg slaws_toWorld_r6) (.seq (.reg slaws_toWorld_r7) (.seq (.reg slaws_toWorld_r8) (.seq (.reg slaws_toWorld_r9) (.seq (.reg slaws_toWorld_r10) (.seq (.reg slaws_toWorld_r11) (.seq (.reg slaws_toWorld_r12) (.seq (.reg slaws_toWorld_r13) (.seq (.reg slaws_toWorld_r14) (.ret)))))))))))))))
def slaws_toWorld : SFn := { nslots := 4, nobjs := 9, params := [0], ngiven := 0, bor := false, takes := [], body := slaws_toWorld_b, results := [.cell 2 (some 15)] }
def slaws_toWorld_t : List Tmp := [0, 1, 2, 3]
attribute [simp] slaws_toWorld_r0 slaws_toWorld_r1 slaws_toWorld_r2 slaws_toWorld_r3 slaws_toWorld_r4 slaws_toWorld_r5 slaws_toWorld_r6 slaws_toWorld_r7 slaws_toWorld_r8 slaws_toWorld_r9 slaws_toWorld_r10 slaws_toWorld_r11 slaws_toWorld_r12 slaws_toWorld_r13 slaws_toWorld_r14 slaws_toWorld_b slaws_toWorld
def slaws_eqWorld_r0 : Reg :=
  { id := 0, ops := [{ op := .box 0 (.slot 0) },
      { op := .box 1 (.slot 1) },
      { op := .mv (.con (.sc (.bool false))) }], sets := [(2, 0), (3, 1)], clr := [0, 1, 4] }
def slaws_eqWorld_r1 : Reg :=
  { id := 1, ops := [{ op := .fieldAddr (.slot 2) 0 },
      { op := .load none (.loc 0) },
      { op := .fieldAddr (.slot 3) 0 },
      { op := .load none (.loc 2) },
      { op := .call 47 [(false, .loc 1), (false, .loc 3)] [] },
      { op := .un .not (.loc 4) }], sets := [(5, 5)] }
def slaws_eqWorld_r2 : Reg :=
  { id := 2, ops := [{ op := .mv (.con (.sc (.bool false))) }], sets := [(4, 0)], clr := [2, 3] }
def slaws_eqWorld_r3 : Reg :=
  { id := 3, ops := [{ op := .fieldAddr (.slot 2) 1 },
      { op := .load none (.loc 0) },
      { op := .fieldAddr (.slot 3) 1 },
      { op := .load none (.loc 2) },
      { op := .call 47 [(false, .loc 1), (false, .loc 3)] [] },
      { op := .un .not (.loc 4) }], sets := [(6, 5)] }
def slaws_eqWorld_r4 : Reg :=
  { id := 4, ops := [{ op := .mv (.con (.sc (.bool false))) }], sets := [(4, 0)], clr := [2, 3] }
def slaws_eqWorld_r5 : Reg :=
  { id := 5, ops := [{ op := .fieldAddr (.slot 2) 2 },
      { op := .load none (.loc 0) },
      { op := .fieldAddr (.slot 3) 2 },
      { op := .load none (.loc 2) },
      { op := .bin .neq (.loc 1) (.loc 3) }], sets := [(7, 4)] }
def slaws_eqWorld_r6 : Reg :=
  { id := 6, ops := [{ op := .mv (.con (.sc (.bool false))) }], sets := [(4, 0)], clr := [2, 3] }
def slaws_eqWorld_r7 : Reg :=
  { id := 7, ops := [{ op := .fieldAddr (.slot 2) 3 },
      { op := .load none (.loc 0) },
      { op := .fieldAddr (.slot 3) 3 },
      { op := .load none (.loc 2) },
      { op := .call 48 [(false, .loc 1), (false, .loc 3)] [] },
      { op := .un .not (.loc 4) }], sets := [(8, 5)] }
def slaws_eqWorld_r8 : Reg :=
  { id := 8, ops := [{ op := .mv (.con (.sc (.bool false))) }], sets := [(4, 0)], clr := [2, 3] }
def slaws_eqWorld_r9 : Reg :=
  { id := 9, ops := [{ op := .fieldAddr (.slot 2) 4 },
      { op := .load (some 4) (.loc 0) },
      { op := .fieldAddr (.slot 3) 4 },
      { op := .load (some 4) (.loc 2) },
      { op := .call 49 [(false, .loc 1), (false, .loc 3)] [] },
      { op := .un .not (.loc 4) }], sets := [(9, 5)] }
def slaws_eqWorld_r10 : Reg :=
  { id := 10, ops := [{ op := .mv (.con (.sc (.bool false))) }], sets := [(4, 0)], clr := [2, 3] }
def slaws_eqWorld_r11 : Reg :=
  { id := 11, ops := [{ op := .fieldAddr (.slot 2) 8 },
      { op := .load none (.loc 0) },
      { op := .fieldAddr (.slot 3) 8 },
      { op := .load none (.loc 2) },
      { op := .bin .neq (.loc 1) (.loc 3) }], sets := [(10, 4)] }
def slaws_eqWorld_r12 : Reg :=
  { id := 12, ops := [{ op := .mv (.con (.sc (.bool false))) }], sets := [(4, 0)], clr := [2, 3] }
def slaws_eqWorld_r13 : Reg :=
  { id := 13, ops := [{ op := .fieldAddr (.slot 2) 9 },
      { op := .load none (.loc 0) },
      { op := .fieldAddr (.slot 3) 9 },
      { op := .load none (.loc 2) },
      { op := .bin .neq (.loc 1) (.loc 3) }], sets := [(11, 4)] }
def slaws_eqWorld_r14 : Reg :=
  { id := 14, ops := [{ op := .mv (.con (.sc (.bool false))) }], sets := [(4, 0)], clr := [2, 3] }
def slaws_eqWorld_r15 : Reg :=
  { id := 15, ops := [{ op := .fieldAddr (.slot 2) 10 },
      { op := .load none (.loc 0) },
      { op := .fieldAddr (.slot 3) 10 },
      { op := .load none (.loc 2) },
      { op := .call 50 [(false, .loc 1), (false, .loc 3)] [] },
      { op := .un .not (.loc 4) }], sets := [(12, 5)] }
def slaws_eqWorld_r16 : Reg :=
  { id := 16, ops := [{ op := .mv (.con (.sc (.bool false))) }], sets := [(4, 0)], clr := [2, 3] }
def slaws_eqWorld_r17 : Reg :=
  { id := 17, ops := [{ op := .fieldAddr (.slot 2) 11 },
      { op := .load none (.loc 0) },
      { op := .fieldAddr (.slot 3) 11 },
      { op := .load none (.loc 2) },
      { op := .call 51 [(false, .loc 1), (false, .loc 3)] [] },
      { op := .un .not (.loc 4) }], sets := [(13, 5)] }
def slaws_eqWorld_r18 : Reg :=
  { id := 18, ops := [{ op := .mv (.con (.sc (.bool false))) }], sets := [(4, 0)], clr := [2, 3] }
def slaws_eqWorld_r19 : Reg :=
  { id := 19, ops := [{ op := .fieldAddr (.slot 2) 12 },
      { op := .load none (.loc 0) },
      { op := .fieldAddr (.slot 3) 12 },
      { op := .load none (.loc 2) },
      { op := .bin .neq (.loc 1) (.loc 3) }], sets := [(14, 4)] }
def slaws_eqWorld_r20 : Reg :=
  { id := 20, ops := [{ op := .mv (.con (.sc (.bool false))) }], sets := [(4, 0)], clr := [2, 3] }
def slaws_eqWorld_r21 : Reg :=
  { id := 21, ops := [{ op := .fieldAddr (.slot 2) 13 },
      { op := .load none (.loc 0) },
      { op := .fieldAddr (.slot 3) 13 },
      { op := .load none (.loc 2) },
      { op := .bin .neq (.loc 1) (.loc 3) }], sets := [(15, 4)] }
def slaws_eqWorld_r22 : Reg :=
  { id := 22, ops := [{ op := .mv (.con (.sc (.bool false))) }], sets := [(4, 0)], clr := [2, 3] }
def slaws_eqWorld_r23 : Reg :=
  { id := 23, ops := [{ op := .fieldAddr (.slot 2) 14 },
      { op := .load none (.loc 0) },
      { op := .fieldAddr (.slot 3) 14 },
      { op := .load none (.loc 2) },
      { op := .bin .neq (.loc 1) (.loc 3) }], sets := [(16, 4)], clr := [2, 3] }
def slaws_eqWorld_r24 : Reg :=
  { id := 24, ops := [{ op := .mv (.con (.sc (.bool false))) }], sets := [(4, 0)] }
def slaws_eqWorld_r25 : Reg :=
  { id := 25, ops := [{ op := .mv (.con (.sc (.bool true))) }], sets := [(4, 0)] }
def slaws_eqWorld_b : SC := .seq (.reg slaws_eqWorld_r0) (.seq (.seq (.reg slaws_eqWorld_r1) (.cond 5 (.seq (.reg slaws_eqWorld_r2) (.ret)) (.skip))) (.seq (.seq (.reg slaws_eqWorld_r3) (.cond 6 (.seq (.reg slaws_eqWorld_r4) (.ret)) (.skip))) (.seq (.seq (.reg slaws_eqWorld_r5) (.cond 7 (.seq (.reg slaws_eqWorld_r6) (.ret)) (.skip))) (.seq (.seq (.reg slaws_eqWorld_r7) (.cond 8 (.seq (.reg slaws_eqWorld_r8) (.ret)) (.skip))) (.seq (.seq (.reg slaws_eqWorld_r9) (.cond 9 (.seq (.reg slaws_eqWorld_r10) (.ret)) (.skip))) (.seq (.seq (.reg slaws_eqWorld_r11) (.cond 10 (.seq (.reg slaws_eqWorld_r12) (.ret)) (.skip))) (.seq (.seq (.reg slaws_eqWorld_r13) (.cond 11 (.seq (.reg slaws_eqWorld_r14) (.ret)) (.skip))) (.seq (.seq (.reg slaws_eqWorld_r15) (.cond 12 (.seq (.reg slaws_eqWorld_r16) (.ret)) (.skip))) (.seq (.seq (.reg slaws_eqWorld_r17) (.cond 13 (.seq (.reg slaws_eqWorld_r18) (.ret)) (.skip))) (.seq (.seq (.reg slaws_eqWorld_r19) (.cond 14 (.seq (.reg slaws_eqWorld_r20) (.ret)) (.skip))) (.seq (.seq (.reg slaws_eqWorld_r21) (.cond 15 (.seq (.reg slaws_eqWorld_r22) (.ret)) (.skip))) (.seq (.seq (.reg slaws_eqWorld_r23) (.cond 16 (.seq (.reg slaws_eqWorld_r24) (.ret)) (.skip))) (.seq (.reg slaws_eqWorld_r25) (.ret))))))))))))))
def slaws_eqWorld : SFn := { nslots := 17, nobjs := 2, params := [0, 1], ngiven := 0, bor := false, takes := [], body := slaws_eqWorld_b, results := [.slot 4] }
def slaws_eqWorld_t : List Tmp := [0, 1, 2, 3, 4, 10, 16, 21, 27, 33, 38, 43, 49, 55, 60, 65, 70]
attribute [simp] slaws_eqWorld_r0 slaws_eqWorld_r1 slaws_eqWorld_r2 slaws_eqWorld_r3 slaws_eqWorld_r4 slaws_eqWorld_r5 slaws_eqWorld_r6 slaws_eqWorld_r7 slaws_eqWorld_r8 slaws_eqWorld_r9 slaws_eqWorld_r10 slaws_eqWorld_r11 slaws_eqWorld_r12 slaws_eqWorld_r13 slaws_eqWorld_r14 slaws_eqWorld_r15 slaws_eqWorld_r16 slaws_eqWorld_r17 slaws_eqWorld_r18 slaws_eqWorld_r19 slaws_eqWorld_r20 slaws_eqWorld_r21 slaws_eqWorld_r22 slaws_eqWorld_r23 slaws_eqWorld_r24 slaws_eqWorld_r25 slaws_eqWorld_b slaws_eqWorld
def slaws_szEndpointS_r0 : Reg :=
  { id := 0, ops := [{ op := .mv (.con (.sc (.int .i64 0))) }], clr := [2] }
def slaws_szEndpointS_r1 : Reg :=
  { id := 1, ops := [{ op := .mv (.slot 1) },
      { op := .mv (.slot 0) },
      { op := .len false (.loc 1) },
      { op := .bin .sub (.loc 0) (.loc 2) },
      { op := .mv (.loc 3) }], sets := [(1, 4)] }
def slaws_szEndpointS_r2 : Reg :=
  { id := 2, ops := [{ op := .mv (.slot 1) },
      { op := .bin .lss (.loc 0) (.con (.sc (.int .i64 0))) }], sets := [(4, 1)] }
def slaws_szEndpointS_r3 : Reg :=
  { id := 3, ops := [{ op := .mv (.con (.sc (.int .i64 (-1)))) }], sets := [(2, 0)], clr := [0, 1] }
def slaws_szEndpointS_r4 : Reg :=
  { id := 4, ops := [{ op := .mv (.con (.sc (.int .i64 0))) }], sets := [(3, 0)] }
def slaws_szEndpointS_r5 : Reg :=
  { id := 5, ops := [{ op := .mv (.slot 3) },
      { op := .mv (.slot 0) },
      { op := .len false (.loc 1) },
      { op := .bin .lss (.loc 0) (.loc 2) }], sets := [(5, 3)] }
def slaws_szEndpointS_r6 : Reg :=
  { id := 7, ops := [{ op := .mv (.slot 0) },
      { op := .mv (.slot 3) },
      { op := .indexAddr 4 (.loc 0) (.loc 1) },
      { op := .load (some 4) (.loc 2) },
      { op := .mv (.slot 1) },
      { op := .call 62 [(false, .loc 3), (false, .loc 4)] [] },
      { op := .mv (.loc 5) }], sets := [(1, 6)] }
def slaws_szEndpointS_r7 : Reg :=
  { id := 8, ops := [{ op := .mv (.slot 1) },
      { op := .bin .lss (.loc 0) (.con (.sc (.int .i64 0))) }], sets := [(6, 1)] }
def slaws_szEndpointS_r8 : Reg :=
  { id := 9, ops := [{ op := .mv (.con (.sc (.int .i64 (-1)))) }], sets := [(2, 0)], clr := [0, 1, 3] }
def slaws_szEndpointS_r9 : Reg :=
  { id := 6, ops := [{ op := .mv (.slot 3) },
      { op := .bin .add (.loc 0) (.con (.sc (.int .i64 1))) },
      { op := .mv (.loc 1) }], sets := [(3, 2)] }
def slaws_szEndpointS_r10 : Reg :=
  { id := 10, ops := [{ op := .mv (.slot 1) },
      { op := .mv (.loc 0) }], sets := [(2, 1)], clr := [0, 1, 3] }
def slaws_szEndpointS_b : SC := .seq (.reg slaws_szEndpointS_r0) (.seq (.reg slaws_szEndpointS_r1) (.seq (.seq (.reg slaws_szEndpointS_r2) (.cond 4 (.seq (.reg slaws_szEndpointS_r3) (.ret)) (.skip))) (.seq (.seq (.reg slaws_szEndpointS_r4) (.block 0 (.loop (.seq (.seq (.reg slaws_szEndpointS_r5) (.cond 5 (.skip) (.exit 0))) (.seq (.block 1 (.seq (.reg slaws_szEndpointS_r6) (.seq (.reg slaws_szEndpointS_r7) (.cond 6 (.seq (.reg slaws_szEndpointS_r8) (.ret)) (.skip))))) (.reg slaws_szEndpointS_r9)))))) (.seq (.reg slaws_szEndpointS_r10) (.ret)))))
def slaws_szEndpointS : SFn := { nslots := 7, nobjs := 0, params := [0, 1], ngiven := 0, bor := false, takes := [], body := slaws_szEndpointS_b, results := [.slot 2] }
def slaws_szEndpointS_t : List Tmp := [0, 1, 4, 5, 11, 15, 25]
attribute [simp] slaws_szEndpointS_r0 slaws_szEndpointS_r1 slaws_szEndpointS_r2 slaws_szEndpointS_r3 slaws_szEndpointS_r4 slaws_szEndpointS_r5 slaws_szEndpointS_r6 slaws_szEndpointS_r7 slaws_szEndpointS_r8 slaws_szEndpointS_r9 slaws_szEndpointS_r10 slaws_szEndpointS_b slaws_szEndpointS
def slaws_szRollout_r0 : Reg :=
  { id := 0, ops := [{ op := .box 0 (.slot 0) },
      { op := .mv (.con (.sc (.int .i64 0))) }], sets := [(2, 0)], clr := [0, 3] }
def slaws_szRollout_r1 : Reg :=
  { id := 1, ops := [{ op := .fieldAddr (.slot 2) 1 },
      { op := .load none (.loc 0) },
      { op := .mv (.slot 1) },
      { op := .call 16 [(false, .loc 1), (false, .loc 2)] [] },
      { op := .mv (.loc 3) }], sets := [(1, 4)], clr := [2] }
def slaws_szRollout_r2 : Reg :=
  { id := 2, ops := [{ op := .mv (.slot 1) },
      { op := .bin .lss (.loc 0) (.con (.sc (.int .i64 0))) }], sets := [(4, 1)] }
def slaws_szRollout_r3 : Reg :=
  { id := 3, ops := [{ op := .mv (.con (.sc (.int .i64 (-1)))) }], sets := [(3, 0)], clr := [1] }
def slaws_szRollout_r4 : Reg :=
  { id := 4, ops := [{ op := .mv (.slot 1) },
      { op := .mv (.loc 0) }], sets := [(3, 1)], clr := [1] }
def slaws_szRollout_b : SC := .seq (.reg slaws_szRollout_r0) (.seq (.reg slaws_szRollout_r1) (.seq (.seq (.reg slaws_szRollout_r2) (.cond 4 (.seq (.reg slaws_szRollout_r3) (.ret)) (.skip))) (.seq (.reg slaws_szRollout_r4) (.ret))))
def slaws_szRollout : SFn := { nslots := 5, nobjs := 1, params := [0, 1], ngiven := 0, bor := false, takes := [], body := slaws_szRollout_b, results := [.slot 3] }
def slaws_szRollout_t : List Tmp := [0, 1, 2, 4, 10]
attribute [simp] slaws_szRollout_r0 slaws_szRollout_r1 slaws_szRollout_r2 slaws_szRollout_r3 slaws_szRollout_r4 slaws_szRollout_b slaws_szRollout
def slaws_szDialedS_r0 : Reg :=
  { id := 0, ops := [{ op := .mv (.con (.sc (.int .i64 0))) }], clr := [2] }
def slaws_szDialedS_r1 : Reg :=
  { id := 1, ops := [{ op := .mv (.slot 1) },
      { op := .mv (.slot 0) },
      { op := .len false (.loc 1) },
      { op := .bin .sub (.loc 0) (.loc 2) },
      { op := .mv (.loc 3) }], sets := [(1, 4)] }
def slaws_szDialedS_r2 : Reg :=
  { id := 2, ops := [{ op := .mv (.slot 1) },
      { op := .bin .lss (.loc 0) (.con (.sc (.int .i64 0))) }], sets := [(4, 1)] }
def slaws_szDialedS_r3 : Reg :=
  { id := 3, ops := [{ op := .mv (.con (.sc (.int .i64 (-1)))) }], sets := [(2, 0)], clr := [0, 1] }
def slaws_szDialedS_r4 : Reg :=
  { id := 4, ops := [{ op := .mv (.con (.sc (.int .i64 0))) }], sets := [(3, 0)] }
def slaws_szDialedS_r5 : Reg :=
  { id := 5, ops := [{ op := .mv (.slot 3) },
      { op := .mv (.slot 0) },
      { op := .len false (.loc 1) },
      { op := .bin .lss (.loc 0) (.loc 2) }], sets := [(5, 3)] }
def slaws_szDialedS_r6 : Reg :=
  { id := 7, ops := [{ op := .mv (.slot 0) },
      { op := .mv (.slot 3) },
      { op := .indexAddr 5 (.loc 0) (.loc 1) },
      { op := .load (some 5) (.loc 2) },
      { op := .mv (.slot 1) },
      { op := .call 63 [(false, .loc 3), (false, .loc 4)] [] },
      { op := .mv (.loc 5) }], sets := [(1, 6)] }
def slaws_szDialedS_r7 : Reg :=
  { id := 8, ops := [{ op := .mv (.slot 1) },
      { op := .bin .lss (.loc 0) (.con (.sc (.int .i64 0))) }], sets := [(6, 1)] }
def slaws_szDialedS_r8 : Reg :=
  { id := 9, ops := [{ op := .mv (.con (.sc (.int .i64 (-1)))) }], sets := [(2, 0)], clr := [0, 1, 3] }
def slaws_szDialedS_r9 : Reg :=
  { id := 6, ops := [{ op := .mv (.slot 3) },
      { op := .bin .add (.loc 0) (.con (.sc (.int .i64 1))) },
      { op := .mv (.loc 1) }], sets := [(3, 2)] }
def slaws_szDialedS_r10 : Reg :=
  { id := 10, ops := [{ op := .mv (.slot 1) },
      { op := .mv (.loc 0) }], sets := [(2, 1)], clr := [0, 1, 3] }
def slaws_szDialedS_b : SC := .seq (.reg slaws_szDialedS_r0) (.seq (.reg slaws_szDialedS_r1) (.seq (.seq (.reg slaws_szDialedS_r2) (.cond 4 (.seq (.reg slaws_szDialedS_r3) (.ret)) (.skip))) (.seq (.seq (.reg slaws_szDialedS_r4) (.block 0 (.loop (.seq (.seq (.reg slaws_szDialedS_r5) (.cond 5 (.skip) (.exit 0))) (.seq (.block 1 (.seq (.reg slaws_szDialedS_r6) (.seq (.reg slaws_szDialedS_r7) (.cond 6 (.seq (.reg slaws_szDialedS_r8) (.ret)) (.skip))))) (.reg slaws_szDialedS_r9)))))) (.seq (.reg slaws_szDialedS_r10) (.ret)))))
def slaws_szDialedS : SFn := { nslots := 7, nobjs := 0, params := [0, 1], ngiven := 0, bor := false, takes := [], body := slaws_szDialedS_b, results := [.slot 2] }
def slaws_szDialedS_t : List Tmp := [0, 1, 4, 5, 11, 15, 25]
attribute [simp] slaws_szDialedS_r0 slaws_szDialedS_r1 slaws_szDialedS_r2 slaws_szDialedS_r3 slaws_szDialedS_r4 slaws_szDialedS_r5 slaws_szDialedS_r6 slaws_szDialedS_r7 slaws_szDialedS_r8 slaws_szDialedS_r9 slaws_szDialedS_r10 slaws_szDialedS_b slaws_szDialedS
def slaws_szLoggedS_r0 : Reg :=
  { id := 0, ops := [{ op := .mv (.con (.sc (.int .i64 0))) }], clr := [2] }
def slaws_szLoggedS_r1 : Reg :=
  { id := 1, ops := [{ op := .mv (.slot 1) },
      { op := .mv (.slot 0) },
      { op := .len false (.loc 1) },
      { op := .bin .sub (.loc 0) (.loc 2) },
      { op := .mv (.loc 3) }], sets := [(1, 4)] }
def slaws_szLoggedS_r2 : Reg :=
  { id := 2, ops := [{ op := .mv (.slot 1) },
      { op := .bin .lss (.loc 0) (.con (.sc (.int .i64 0))) }], sets := [(4, 1)] }
def slaws_szLoggedS_r3 : Reg :=
  { id := 3, ops := [{ op := .mv (.con (.sc (.int .i64 (-1)))) }], sets := [(2, 0)], clr := [0, 1] }
def slaws_szLoggedS_r4 : Reg :=
  { id := 4, ops := [{ op := .mv (.con (.sc (.int .i64 0))) }], sets := [(3, 0)] }
def slaws_szLoggedS_r5 : Reg :=
  { id := 5, ops := [{ op := .mv (.slot 3) },
      { op := .mv (.slot 0) },
      { op := .len false (.loc 1) },
      { op := .bin .lss (.loc 0) (.loc 2) }], sets := [(5, 3)] }
def slaws_szLoggedS_r6 : Reg :=
  { id := 7, ops := [{ op := .mv (.slot 0) },
      { op := .mv (.slot 3) },
      { op := .indexAddr 8 (.loc 0) (.loc 1) },
      { op := .load (some 8) (.loc 2) },
      { op := .mv (.slot 1) },
      { op := .call 64 [(false, .loc 3), (false, .loc 4)] [] },
      { op := .mv (.loc 5) }], sets := [(1, 6)] }
def slaws_szLoggedS_r7 : Reg :=
  { id := 8, ops := [{ op := .mv (.slot 1) },
      { op := .bin .lss (.loc 0) (.con (.sc (.int .i64 0))) }], sets := [(6, 1)] }
def slaws_szLoggedS_r8 : Reg :=
  { id := 9, ops := [{ op := .mv (.con (.sc (.int .i64 (-1)))) }], sets := [(2, 0)], clr := [0, 1, 3] }
def slaws_szLoggedS_r9 : Reg :=
  { id := 6, ops := [{ op := .mv (.slot 3) },
      { op := .bin .add (.loc 0) (.con (.sc (.int .i64 1))) },
      { op := .mv (.loc 1) }], sets := [(3, 2)] }
def slaws_szLoggedS_r10 : Reg :=
  { id := 10, ops := [{ op := .mv (.slot 1) },
      { op := .mv (.loc 0) }], sets := [(2, 1)], clr := [0, 1, 3] }
def slaws_szLoggedS_b : SC := .seq (.reg slaws_szLoggedS_r0) (.seq (.reg slaws_szLoggedS_r1) (.seq (.seq (.reg slaws_szLoggedS_r2) (.cond 4 (.seq (.reg slaws_szLoggedS_r3) (.ret)) (.skip))) (.seq (.seq (.reg slaws_szLoggedS_r4) (.block 0 (.loop (.seq (.seq (.reg slaws_szLoggedS_r5) (.cond 5 (.skip) (.exit 0))) (.seq (.block 1 (.seq (.reg slaws_szLoggedS_r6) (.seq (.reg slaws_szLoggedS_r7) (.cond 6 (.seq (.reg slaws_szLoggedS_r8) (.ret)) (.skip))))) (.reg slaws_szLoggedS_r9)))))) (.seq (.reg slaws_szLoggedS_r10) (.ret)))))
def slaws_szLoggedS : SFn := { nslots := 7, nobjs := 0, params := [0, 1], ngiven := 0, bor := false, takes := [], body := slaws_szLoggedS_b, results := [.slot 2] }
def slaws_szLoggedS_t : List Tmp := [0, 1, 4, 5, 11, 15, 25]
attribute [simp] slaws_szLoggedS_r0 slaws_szLoggedS_r1 slaws_szLoggedS_r2 slaws_szLoggedS_r3 slaws_szLoggedS_r4 slaws_szLoggedS_r5 slaws_szLoggedS_r6 slaws_szLoggedS_r7 slaws_szLoggedS_r8 slaws_szLoggedS_r9 slaws_szLoggedS_r10 slaws_szLoggedS_b slaws_szLoggedS
def slaws_toEndpointS_r0 : Reg :=
  { id := 0, ops := [{ op := .mv (.con (.nil 4)) }], clr := [1] }
def slaws_toEndpointS_r1 : Reg :=
  { id := 1, ops := [{ op := .mv (.slot 0) },
      { op := .len false (.loc 0) },
      { op := .makeSlice 0 4 80 [.sl 0 1 0 [], .sl 0 1 0 [], .sl 0 4 0 [], .sc (.int .i64 0)] (.loc 1) },
      { op := .mv (.loc 2) }], sets := [(2, 3)] }
def slaws_toEndpointS_r2 : Reg :=
  { id := 2, ops := [{ op := .mv (.con (.sc (.int .i64 0))) }], sets := [(3, 0)] }
def slaws_toEndpointS_r3 : Reg :=
  { id := 3, ops := [{ op := .mv (.slot 3) },
      { op := .mv (.slot 0) },
      { op := .len false (.loc 1) },
      { op := .bin .lss (.loc 0) (.loc 2) }], sets := [(4, 3)] }
def slaws_toEndpointS_r4 : Reg :=
  { id := 5, fresh := [1, 2, 3], ops := [{ op := .mv (.slot 2) },
      { op := .mv (.slot 3) },
      { op := .mv (.slot 0) },
      { op := .mv (.slot 3) },
      { op := .indexAddr 4 (.loc 2) (.loc 3) },
      { op := .load (some 4) (.loc 4) },
      { op := .call 98 [(false, .loc 5)] [1, 2, 3] },
      { op := .indexAddr 4 (.loc 0) (.loc 1) },
      { op := .store 4 (.loc 7) (.loc 6) }] }
def slaws_toEndpointS_r5 : Reg :=
  { id := 4, ops := [{ op := .mv (.slot 3) },
      { op := .bin .add (.loc 0) (.con (.sc (.int .i64 1))) },
      { op := .mv (.loc 1) }], sets := [(3, 2)] }
def slaws_toEndpointS_r6 : Reg :=
  { id := 6, ops := [{ op := .mv (.slot 2) },
      { op := .mv (.loc 0) }], sets := [(1, 1)], clr := [0, 2, 3] }
def slaws_toEndpointS_b : SC := .seq (.reg slaws_toEndpointS_r0) (.seq (.reg slaws_toEndpointS_r1) (.seq (.seq (.reg slaws_toEndpointS_r2) (.block 0 (.loop (.seq (.seq (.reg slaws_toEndpointS_r3) (.cond 4 (.skip) (.exit 0))) (.seq (.block 1 (.reg slaws_toEndpointS_r4)) (.reg slaws_toEndpointS_r5)))))) (.seq (.reg slaws_toEndpointS_r6) (.ret))))
def slaws_toEndpointS : SFn := { nslots := 5, nobjs := 4, params := [0], ngiven := 0, bor := false, takes := [], body := slaws_toEndpointS_b, results := [.slot 1] }
def slaws_toEndpointS_t : List Tmp := [0, 2, 3, 4, 11]
attribute [simp] slaws_toEndpointS_r0 slaws_toEndpointS_r1 slaws_toEndpointS_r2 slaws_toEndpointS_r3 slaws_toEndpointS_r4 slaws_toEndpointS_r5 slaws_toEndpointS_r6 slaws_toEndpointS_b slaws_toEndpointS
def slaws_toRollout_r0 : Reg :=
  { id := 0, ops := [{ op := .box 0 (.slot 0) },
      { op := .alloc 1 [.sc (.int .i64 0), .nil 1, .sc (.int .i64 0), .sc (.bool false)] }], sets := [(1, 0), (2, 1)], clr := [0] }
def slaws_toRollout_r1 : Reg :=
  { id := 1, ops := [{ op := .alloc 2 [.sc (.int .i64 0), .nil 1, .sc (.int .i64 0), .sc (.bool false)] }], sets := [(3, 0)] }
def slaws_toRollout_r2 : Reg :=
  { id := 2, ops := [{ op := .fieldAddr (.slot 1) 0 },
      { op := .load none (.loc 0) },
      { op := .fieldAddr (.slot 3) 0 },
      { op := .store 1 (.loc 2) (.loc 1) }] }
def slaws_toRollout_r3 : Reg :=
  { id := 3, ops := [{ op := .fieldAddr (.slot 1) 1 },
      { op := .load none (.loc 0) },
      { op := .call 31 [(false, .loc 1)] [3] },
      { op := .fieldAddr (.slot 3) 1 },
      { op := .store 1 (.loc 3) (.loc 2) }] }
def slaws_toRollout_r4 : Reg :=
  { id := 4, ops := [{ op := .fieldAddr (.slot 1) 2 },
      { op := .load none (.loc 0) },
      { op := .fieldAddr (.slot 3) 2 },
      { op := .store 1 (.loc 2) (.loc 1) }] }
def slaws_toRollout_r5 : Reg :=
  { id := 5, ops := [{ op := .fieldAddr (.slot 1) 3 },
      { op := .load none (.loc 0) },
      { op := .fieldAddr (.slot 3) 3 },
      { op := .store 1 (.loc 2) (.loc 1) }], clr := [1] }
def slaws_toRollout_r6 : Reg :=
  { id := 6, ops := [{ op := .load (some 4) (.slot 3) },
      { op := .store 4 (.slot 2) (.loc 0) }], clr := [3] }
def slaws_toRollout_b : SC := .seq (.reg slaws_toRollout_r0) (.seq (.reg slaws_toRollout_r1) (.seq (.reg slaws_toRollout_r2) (.seq (.reg slaws_toRollout_r3) (.seq (.reg slaws_toRollout_r4) (.seq (.reg slaws_toRollout_r5) (.seq (.reg slaws_toRollout_r6) (.ret)))))))
def slaws_toRollout : SFn := { nslots := 4, nobjs := 4, params := [0], ngiven := 0, bor := false, takes := [], body := slaws_toRollout_b, results := [.cell 2 (some 4)] }
def slaws_toRollout_t : List Tmp := [0, 1, 2, 3]
attribute [simp] slaws_toRollout_r0 slaws_toRollout_r1 slaws_toRollout_r2 slaws_toRollout_r3 slaws_toRollout_r4 slaws_toRollout_r5 slaws_toRollout_r6 slaws_toRollout_b slaws_toRollout
def slaws_toDialedS_r0 : Reg :=
  { id := 0, ops := [{ op := .mv (.con (.nil 5)) }], clr := [1] }
def slaws_toDialedS_r1 : Reg :=
  { id := 1, ops := [{ op := .mv (.slot 0) },
      { op := .len false (.loc 0) },
      { op := .makeSlice 0 5 72 [.sc (.bool false), .sc (.int .i64 0), .sl 0 1 0 [], .sc (.int .i64 0), .sl 0 1 0 []] (.loc 1) },
      { op := .mv (.loc 2) }], sets := [(2, 3)] }
def slaws_toDialedS_r2 : Reg :=
  { id := 2, ops := [{ op := .mv (.con (.sc (.int .i64 0))) }], sets := [(3, 0)] }
def slaws_toDialedS_r3 : Reg :=
  { id := 3, ops := [{ op := .mv (.slot 3) },
      { op := .mv (.slot 0) },
      { op := .len false (.loc 1) },
      { op := .bin .lss (.loc 0) (.loc 2) }], sets := [(4, 3)] }
def slaws_toDialedS_r4 : Reg :=
  { id := 5, fresh := [1, 2], ops := [{ op := .mv (.slot 2) },
      { op := .mv (.slot 3) },
      { op := .mv (.slot 0) },
      { op := .mv (.slot 3) },
      { op := .indexAddr 5 (.loc 2) (.loc 3) },
      { op := .load (some 5) (.loc 4) },
      { op := .call 99 [(false, .loc 5)] [1, 2] },
      { op := .indexAddr 5 (.loc 0) (.loc 1) },
      { op := .store 5 (.loc 7) (.loc 6) }] }
def slaws_toDialedS_r5 : Reg :=
  { id := 4, ops := [{ op := .mv (.slot 3) },
      { op := .bin .add (.loc 0) (.con (.sc (.int .i64 1))) },
      { op := .mv (.loc 1) }], sets := [(3, 2)] }
def slaws_toDialedS_r6 : Reg :=
  { id := 6, ops := [{ op := .mv (.slot 2) },
      { op := .mv (.loc 0) }], sets := [(1, 1)], clr := [0, 2, 3] }
def slaws_toDialedS_b : SC := .seq (.reg slaws_toDialedS_r0) (.seq (.reg slaws_toDialedS_r1) (.seq (.seq (.reg slaws_toDialedS_r2) (.block 0 (.loop (.seq (.seq (.reg slaws_toDialedS_r3) (.cond 4 (.skip) (.exit 0))) (.seq (.block 1 (.reg slaws_toDialedS_r4)) (.reg slaws_toDialedS_r5)))))) (.seq (.reg slaws_toDialedS_r6) (.ret))))
def slaws_toDialedS : SFn := { nslots := 5, nobjs := 3, params := [0], ngiven := 0, bor := false, takes := [], body := slaws_toDialedS_b, results := [.slot 1] }
def slaws_toDialedS_t : List Tmp := [0, 2, 3, 4, 11]
attribute [simp] slaws_toDialedS_r0 slaws_toDialedS_r1 slaws_toDialedS_r2 slaws_toDialedS_r3 slaws_toDialedS_r4 slaws_toDialedS_r5 slaws_toDialedS_r6 slaws_toDialedS_b slaws_toDialedS
def slaws_toLoggedS_r0 : Reg :=
  { id := 0, ops := [{ op := .mv (.con (.nil 8)) }], clr := [1] }
def slaws_toLoggedS_r1 : Reg :=
  { id := 1, ops := [{ op := .mv (.slot 0) },
      { op := .len false (.loc 0) },
      { op := .makeSlice 0 8 96 [.sc (.int .i64 0), .sc (.int .i64 0), .sc (.bool false), .sc (.bool false), .sc (.int .i64 0), .sl 0 1 0 [], .sc (.int .i64 0), .sl 0 1 0 []] (.loc 1) },
      { op := .mv (.loc 2) }], sets := [(2, 3)] }
def slaws_toLoggedS_r2 : Reg :=
  { id := 2, ops := [{ op := .mv (.con (.sc (.int .i64 0))) }], sets := [(3, 0)] }
def slaws_toLoggedS_r3 : Reg :=
  { id := 3, ops := [{ op := .mv (.slot 3) },
      { op := .mv (.slot 0) },
      { op := .len false (.loc 1) },
      { op := .bin .lss (.loc 0) (.loc 2) }], sets := [(4, 3)] }
def slaws_toLoggedS_r4 : Reg :=
  { id := 5, fresh := [1, 2], ops := [{ op := .mv (.slot 2) },
      { op := .mv (.slot 3) },
      { op := .mv (.slot 0) },
      { op := .mv (.slot 3) },
      { op := .indexAddr 8 (.loc 2) (.loc 3) },
      { op := .load (some 8) (.loc 4) },
      { op := .call 100 [(false, .loc 5)] [1, 2] },
      { op := .indexAddr 8 (.loc 0) (.loc 1) },
      { op := .store 8 (.loc 7) (.loc 6) }] }
def slaws_toLoggedS_r5 : Reg :=
  { id := 4, ops := [{ op := .mv (.slot 3) },
      { op := .bin .add (.loc 0) (.con (.sc (.int .i64 1))) },
      { op := .mv (.loc 1) }], sets := [(3, 2)] }
def slaws_toLoggedS_r6 : Reg :=
  { id := 6, ops := [{ op := .mv (.slot 2) },
      { op := .mv (.loc 0) }], sets := [(1, 1)], clr := [0, 2, 3] }
def slaws_toLoggedS_b : SC := .seq (.reg slaws_toLoggedS_r0) (.seq (.reg slaws_toLoggedS_r1) (.seq (.seq (.reg slaws_toLoggedS_r2) (.block 0 (.loop (.seq (.seq (.reg slaws_toLoggedS_r3) (.cond 4 (.skip) (.exit 0))) (.seq (.block 1 (.reg slaws_toLoggedS_r4)) (.reg slaws_toLoggedS_r5)))))) (.seq (.reg slaws_toLoggedS_r6) (.ret))))
def slaws_toLoggedS : SFn := { nslots := 5, nobjs := 3, params := [0], ngiven := 0, bor := false, takes := [], body := slaws_toLoggedS_b, results := [.slot 1] }
def slaws_toLoggedS_t : List Tmp := [0, 2, 3, 4, 11]
attribute [simp] slaws_toLoggedS_r0 slaws_toLoggedS_r1 slaws_toLoggedS_r2 slaws_toLoggedS_r3 slaws_toLoggedS_r4 slaws_toLoggedS_r5 slaws_toLoggedS_r6 slaws_toLoggedS_b slaws_toLoggedS
def slaws_eqRollout_r0 : Reg :=
  { id := 0, ops := [{ op := .box 0 (.slot 0) },
      { op := .box 1 (.slot 1) },
      { op := .mv (.con (.sc (.bool false))) }], sets := [(2, 0), (3, 1)], clr := [0, 1, 4] }
def slaws_eqRollout_r1 : Reg :=
  { id := 1, ops := [{ op := .fieldAddr (.slot 2) 0 },
      { op := .load none (.loc 0) },
      { op := .fieldAddr (.slot 3) 0 },
      { op := .load none (.loc 2) },
      { op := .bin .neq (.loc 1) (.loc 3) }], sets := [(5, 4)] }
def slaws_eqRollout_r2 : Reg :=
  { id := 2, ops := [{ op := .mv (.con (.sc (.bool false))) }], sets := [(4, 0)], clr := [2, 3] }
def slaws_eqRollout_r3 : Reg :=
  { id := 3, ops := [{ op := .fieldAddr (.slot 2) 1 },
      { op := .load none (.loc 0) },
      { op := .fieldAddr (.slot 3) 1 },
      { op := .load none (.loc 2) },
      { op := .call 47 [(false, .loc 1), (false, .loc 3)] [] },
      { op := .un .not (.loc 4) }], sets := [(6, 5)] }
def slaws_eqRollout_r4 : Reg :=
  { id := 4, ops := [{ op := .mv (.con (.sc (.bool false))) }], sets := [(4, 0)], clr := [2, 3] }
def slaws_eqRollout_r5 : Reg :=
  { id := 5, ops := [{ op := .fieldAddr (.slot 2) 2 },
      { op := .load none (.loc 0) },
      { op := .fieldAddr (.slot 3) 2 },
      { op := .load none (.loc 2) },
      { op := .bin .neq (.loc 1) (.loc 3) }], sets := [(7, 4)] }
def slaws_eqRollout_r6 : Reg :=
  { id := 6, ops := [{ op := .mv (.con (.sc (.bool false))) }], sets := [(4, 0)], clr := [2, 3] }
def slaws_eqRollout_r7 : Reg :=
  { id := 7, ops := [{ op := .fieldAddr (.slot 2) 3 },
      { op := .load none (.loc 0) },
      { op := .fieldAddr (.slot 3) 3 },
      { op := .load none (.loc 2) },
      { op := .beq true (.loc 1) (.loc 3) }], sets := [(8, 4)], clr := [2, 3] }
def slaws_eqRollout_r8 : Reg :=
  { id := 8, ops := [{ op := .mv (.con (.sc (.bool false))) }], sets := [(4, 0)] }
def slaws_eqRollout_r9 : Reg :=
  { id := 9, ops := [{ op := .mv (.con (.sc (.bool true))) }], sets := [(4, 0)] }
def slaws_eqRollout_b : SC := .seq (.reg slaws_eqRollout_r0) (.seq (.seq (.reg slaws_eqRollout_r1) (.cond 5 (.seq (.reg slaws_eqRollout_r2) (.ret)) (.skip))) (.seq (.seq (.reg slaws_eqRollout_r3) (.cond 6 (.seq (.reg slaws_eqRollout_r4) (.ret)) (.skip))) (.seq (.seq (.reg slaws_eqRollout_r5) (.cond 7 (.seq (.reg slaws_eqRollout_r6) (.ret)) (.skip))) (.seq (.seq (.reg slaws_eqRollout_r7) (.cond 8 (.seq (.reg slaws_eqRollout_r8) (.ret)) (.skip))) (.seq (.reg slaws_eqRollout_r9) (.ret))))))
def slaws_eqRollout : SFn := { nslots := 9, nobjs := 2, params := [0, 1], ngiven := 0, bor := false, takes := [], body := slaws_eqRollout_b, results := [.slot 4] }
def slaws_eqRollout_t : List Tmp := [0, 1, 2, 3, 4, 9, 15, 20, 25]
attribute [simp] slaws_eqRollout_r0 slaws_eqRollout_r1 slaws_eqRollout_r2 slaws_eqRollout_r3 slaws_eqRollout_r4 slaws_eqRollout_r5 slaws_eqRollout_r6 slaws_eqRollout_r7 slaws_eqRollout_r8 slaws_eqRollout_r9 slaws_eqRollout_b slaws_eqRollout
def slaws_eqDialedS_r0 : Reg :=
  { id := 0, ops := [{ op := .mv (.con (.sc (.bool false))) }], clr := [2] }
def slaws_eqDialedS_r1 : Reg :=
  { id := 1, ops := [{ op := .mv (.slot 0) },
      { op := .len false (.loc 0) },
      { op := .mv (.slot 1) },
      { op := .len false (.loc 2) },
      { op := .bin .neq (.loc 1) (.loc 3) }], sets := [(4, 4)] }
def slaws_eqDialedS_r2 : Reg :=
  { id := 2, ops := [{ op := .mv (.con (.sc (.bool false))) }], sets := [(2, 0)], clr := [0, 1] }
def slaws_eqDialedS_r3 : Reg :=
  { id := 3, ops := [{ op := .mv (.con (.sc (.int .i64 0))) }], sets := [(3, 0)] }
def slaws_eqDialedS_r4 : Reg :=
  { id := 4, ops := [{ op := .mv (.slot 3) },
      { op := .mv (.slot 0) },
      { op := .len false (.loc 1) },
      { op := .bin .lss (.loc 0) (.loc 2) }], sets := [(5, 3)] }
def slaws_eqDialedS_r5 : Reg :=
  { id := 6, draw := true, ops := [{ op := .mv (.slot 0), tau := some [], om := [] },
      { op := .mv (.slot 3), tau := some [], om := [] },
      { op := .indexAddr 5 (.loc 0) (.loc 1), tau := some [], om := [] },
      { op := .load (some 5) (.loc 2), tau := some [], om := [] },
      { op := .mv (.slot 1), tau := some [], om := [] },
      { op := .mv (.slot 3), tau := some [], om := [] },
      { op := .indexAddr 5 (.loc 4) (.loc 5), tau := some [], om := [] },
      { op := .load (some 5) (.loc 6), tau := some [], om := [] },
      { op := .call 135 [(false, .loc 3), (false, .loc 7)] [], tau := some [], om := [] },
      { op := .un .not (.loc 8), tau := some [], om := [] }], sets := [(6, 9)] }
def slaws_eqDialedS_r6 : Reg :=
  { id := 7, ops := [{ op := .mv (.con (.sc (.bool false))) }], sets := [(2, 0)], clr := [0, 1, 3] }
def slaws_eqDialedS_r7 : Reg :=
  { id := 5, ops := [{ op := .mv (.slot 3) },
      { op := .bin .add (.loc 0) (.con (.sc (.int .i64 1))) },
      { op := .mv (.loc 1) }], sets := [(3, 2)] }
def slaws_eqDialedS_r8 : Reg :=
  { id := 8, ops := [{ op := .mv (.con (.sc (.bool true))) }], sets := [(2, 0)], clr := [0, 1, 3] }
def slaws_eqDialedS_b : SC := .seq (.reg slaws_eqDialedS_r0) (.seq (.seq (.reg slaws_eqDialedS_r1) (.cond 4 (.seq (.reg slaws_eqDialedS_r2) (.ret)) (.skip))) (.seq (.seq (.reg slaws_eqDialedS_r3) (.block 0 (.loop (.seq (.seq (.reg slaws_eqDialedS_r4) (.cond 5 (.skip) (.exit 0))) (.seq (.block 1 (.seq (.reg slaws_eqDialedS_r5) (.cond 6 (.seq (.reg slaws_eqDialedS_r6) (.ret)) (.skip)))) (.reg slaws_eqDialedS_r7)))))) (.seq (.reg slaws_eqDialedS_r8) (.ret))))
def slaws_eqDialedS : SFn := { nslots := 7, nobjs := 0, params := [0, 1], ngiven := 0, bor := false, takes := [], body := slaws_eqDialedS_b, results := [.slot 2] }
def slaws_eqDialedS_t : List Tmp := [0, 1, 4, 5, 10, 14, 26]
attribute [simp] slaws_eqDialedS_r0 slaws_eqDialedS_r1 slaws_eqDialedS_r2 slaws_eqDialedS_r3 slaws_eqDialedS_r4 slaws_eqDialedS_r5 slaws_eqDialedS_r6 slaws_eqDialedS_r7 slaws_eqDialedS_r8 slaws_eqDialedS_b slaws_eqDialedS
def slaws_eqLoggedS_r0 : Reg :=
  { id := 0, ops := [{ op := .mv (.con (.sc (.bool false))) }], clr := [2] }
def slaws_eqLoggedS_r1 : Reg :=
  { id := 1, ops := [{ op := .mv (.slot 0) },
      { op := .len false (.loc 0) },
      { op := .mv (.slot 1) },
      { op := .len false (.loc 2) },
      { op := .bin .neq (.loc 1) (.loc 3) }], sets := [(4, 4)] }
def slaws_eqLoggedS_r2 : Reg :=
  { id := 2, ops := [{ op := .mv (.con (.sc (.bool false))) }], sets := [(2, 0)], clr := [0, 1] }
def slaws_eqLoggedS_r3 : Reg :=
  { id := 3, ops := [{ op := .mv (.con (.sc (.int .i64 0))) }], sets := [(3, 0)] }
def slaws_eqLoggedS_r4 : Reg :=
  { id := 4, ops := [{ op := .mv (.slot 3) },
      { op := .mv (.slot 0) },
      { op := .len false (.loc 1) },
      { op := .bin .lss (.loc 0) (.loc 2) }], sets := [(5, 3)] }
def slaws_eqLoggedS_r5 : Reg :=
  { id := 6, draw := true, ops := [{ op := .mv (.slot 0), tau := some [], om := [] },
      { op := .mv (.slot 3), tau := some [], om := [] },
      { op := .indexAddr 8 (.loc 0) (.loc 1), tau := some [], om := [] },
      { op := .load (some 8) (.loc 2), tau := some [], om := [] },
      { op := .mv (.slot 1), tau := some [], om := [] },
      { op := .mv (.slot 3), tau := some [], om := [] },
      { op := .indexAddr 8 (.loc 4) (.loc 5), tau := some [], om := [] },
      { op := .load (some 8) (.loc 6), tau := some [], om := [] },
      { op := .call 136 [(false, .loc 3), (false, .loc 7)] [], tau := some [], om := [] },
      { op := .un .not (.loc 8), tau := some [], om := [] }], sets := [(6, 9)] }
def slaws_eqLoggedS_r6 : Reg :=
  { id := 7, ops := [{ op := .mv (.con (.sc (.bool false))) }], sets := [(2, 0)], clr := [0, 1, 3] }
def slaws_eqLoggedS_r7 : Reg :=
  { id := 5, ops := [{ op := .mv (.slot 3) },
      { op := .bin .add (.loc 0) (.con (.sc (.int .i64 1))) },
      { op := .mv (.loc 1) }], sets := [(3, 2)] }
def slaws_eqLoggedS_r8 : Reg :=
  { id := 8, ops := [{ op := .mv (.con (.sc (.bool true))) }], sets := [(2, 0)], clr := [0, 1, 3] }
def slaws_eqLoggedS_b : SC := .seq (.reg slaws_eqLoggedS_r0) (.seq (.seq (.reg slaws_eqLoggedS_r1) (.cond 4 (.seq (.reg slaws_eqLoggedS_r2) (.ret)) (.skip))) (.seq (.seq (.reg slaws_eqLoggedS_r3) (.block 0 (.loop (.seq (.seq (.reg slaws_eqLoggedS_r4) (.cond 5 (.skip) (.exit 0))) (.seq (.block 1 (.seq (.reg slaws_eqLoggedS_r5) (.cond 6 (.seq (.reg slaws_eqLoggedS_r6) (.ret)) (.skip)))) (.reg slaws_eqLoggedS_r7)))))) (.seq (.reg slaws_eqLoggedS_r8) (.ret))))
def slaws_eqLoggedS : SFn := { nslots := 7, nobjs := 0, params := [0, 1], ngiven := 0, bor := false, takes := [], body := slaws_eqLoggedS_b, results := [.slot 2] }
def slaws_eqLoggedS_t : List Tmp := [0, 1, 4, 5, 10, 14, 26]
attribute [simp] slaws_eqLoggedS_r0 slaws_eqLoggedS_r1 slaws_eqLoggedS_r2 slaws_eqLoggedS_r3 slaws_eqLoggedS_r4 slaws_eqLoggedS_r5 slaws_eqLoggedS_r6 slaws_eqLoggedS_r7 slaws_eqLoggedS_r8 slaws_eqLoggedS_b slaws_eqLoggedS
def slaws_szEndpoint_r0 : Reg :=
  { id := 0, ops := [{ op := .box 0 (.slot 0) },
      { op := .mv (.con (.sc (.int .i64 0))) }], sets := [(2, 0)], clr := [0, 3] }
def slaws_szEndpoint_r1 : Reg :=
  { id := 1, ops := [{ op := .fieldAddr (.slot 2) 0 },
      { op := .load none (.loc 0) },
      { op := .mv (.slot 1) },
      { op := .call 16 [(false, .loc 1), (false, .loc 2)] [] },
      { op := .mv (.loc 3) }], sets := [(1, 4)] }
def slaws_szEndpoint_r2 : Reg :=
  { id := 2, ops := [{ op := .mv (.slot 1) },
      { op := .bin .lss (.loc 0) (.con (.sc (.int .i64 0))) }], sets := [(4, 1)] }
def slaws_szEndpoint_r3 : Reg :=
  { id := 3, ops := [{ op := .mv (.con (.sc (.int .i64 (-1)))) }], sets := [(3, 0)], clr := [1, 2] }
def slaws_szEndpoint_r4 : Reg :=
  { id := 4, ops := [{ op := .fieldAddr (.slot 2) 1 },
      { op := .load none (.loc 0) },
      { op := .mv (.slot 1) },
      { op := .call 16 [(false, .loc 1), (false, .loc 2)] [] },
      { op := .mv (.loc 3) }], sets := [(1, 4)] }
def slaws_szEndpoint_r5 : Reg :=
  { id := 5, ops := [{ op := .mv (.slot 1) },
      { op := .bin .lss (.loc 0) (.con (.sc (.int .i64 0))) }], sets := [(5, 1)] }
def slaws_szEndpoint_r6 : Reg :=
  { id := 6, ops := [{ op := .mv (.con (.sc (.int .i64 (-1)))) }], sets := [(3, 0)], clr := [1, 2] }
def slaws_szEndpoint_r7 : Reg :=
  { id := 7, ops := [{ op := .fieldAddr (.slot 2) 2 },
      { op := .load none (.loc 0) },
      { op := .mv (.slot 1) },
      { op := .call 139 [(false, .loc 1), (false, .loc 2)] [] },
      { op := .mv (.loc 3) }], sets := [(1, 4)], clr := [2] }
def slaws_szEndpoint_r8 : Reg :=
  { id := 8, ops := [{ op := .mv (.slot 1) },
      { op := .bin .lss (.loc 0) (.con (.sc (.int .i64 0))) }], sets := [(6, 1)] }
def slaws_szEndpoint_r9 : Reg :=
  { id := 9, ops := [{ op := .mv (.con (.sc (.int .i64 (-1)))) }], sets := [(3, 0)], clr := [1] }
def slaws_szEndpoint_r10 : Reg :=
  { id := 10, ops := [{ op := .mv (.slot 1) },
      { op := .mv (.loc 0) }], sets := [(3, 1)], clr := [1] }
def slaws_szEndpoint_b : SC := .seq (.reg slaws_szEndpoint_r0) (.seq (.reg slaws_szEndpoint_r1) (.seq (.seq (.reg slaws_szEndpoint_r2) (.cond 4 (.seq (.reg slaws_szEndpoint_r3) (.ret)) (.skip))) (.seq (.reg slaws_szEndpoint_r4) (.seq (.seq (.reg slaws_szEndpoint_r5) (.cond 5 (.seq (.reg slaws_szEndpoint_r6) (.ret)) (.skip))) (.seq (.reg slaws_szEndpoint_r7) (.seq (.seq (.reg slaws_szEndpoint_r8) (.cond 6 (.seq (.reg slaws_szEndpoint_r9) (.ret)) (.skip))) (.seq (.reg slaws_szEndpoint_r10) (.ret))))))))
def slaws_szEndpoint : SFn := { nslots := 7, nobjs := 1, params := [0, 1], ngiven := 0, bor := false, takes := [], body := slaws_szEndpoint_b, results := [.slot 3] }
def slaws_szEndpoint_t : List Tmp := [0, 1, 2, 4, 10, 16, 22]
attribute [simp] slaws_szEndpoint_r0 slaws_szEndpoint_r1 slaws_szEndpoint_r2 slaws_szEndpoint_r3 slaws_szEndpoint_r4 slaws_szEndpoint_r5 slaws_szEndpoint_r6 slaws_szEndpoint_r7 slaws_szEndpoint_r8 slaws_szEndpoint_r9 slaws_szEndpoint_r10 slaws_szEndpoint_b slaws_szEndpoint
def slaws_szLogged_r0 : Reg :=
  { id := 0, ops := [{ op := .box 0 (.slot 0) },
      { op := .mv (.con (.sc (.int .i64 0))) }], sets := [(2, 0)], clr := [0, 3] }
def slaws_szLogged_r1 : Reg :=
  { id := 1, ops := [{ op := .fieldAddr (.slot 2) 3 },
      { op := .load (some 5) (.loc 0) },
      { op := .mv (.slot 1) },
      { op := .call 63 [(false, .loc 1), (false, .loc 2)] [] },
      { op := .mv (.loc 3) }], sets := [(1, 4)], clr := [2] }
def slaws_szLogged_r2 : Reg :=
  { id := 2, ops := [{ op := .mv (.slot 1) },
      { op := .bin .lss (.loc 0) (.con (.sc (.int .i64 0))) }], sets := [(4, 1)] }
def slaws_szLogged_r3 : Reg :=
  { id := 3, ops := [{ op := .mv (.con (.sc (.int .i64 (-1)))) }], sets := [(3, 0)], clr := [1] }
def slaws_szLogged_r4 : Reg :=
  { id := 4, ops := [{ op := .mv (.slot 1) },
      { op := .mv (.loc 0) }], sets := [(3, 1)], clr := [1] }
def slaws_szLogged_b : SC := .seq (.reg slaws_szLogged_r0) (.seq (.reg slaws_szLogged_r1) (.seq (.seq (.reg slaws_szLogged_r2) (.cond 4 (.seq (.reg slaws_szLogged_r3) (.ret)) (.skip))) (.seq (.reg slaws_szLogged_r4) (.ret))))
def slaws_szLogged : SFn := { nslots := 5, nobjs := 1, params := [0, 1], ngiven := 0, bor := false, takes := [], body := slaws_szLogged_b, results := [.slot 3] }
def slaws_szLogged_t : List Tmp := [0, 1, 2, 4, 10]
attribute [simp] slaws_szLogged_r0 slaws_szLogged_r1 slaws_szLogged_r2 slaws_szLogged_r3 slaws_szLogged_r4 slaws_szLogged_b slaws_szLogged
def slaws_toEndpoint_r0 : Reg :=
  { id := 0, ops := [{ op := .box 0 (.slot 0) },
      { op := .alloc 1 [.nil 1, .nil 1, .nil 4, .sc (.int .i64 0)] }], sets := [(1, 0), (2, 1)], clr := [0] }
def slaws_toEndpoint_r1 : Reg :=
  { id := 1, ops := [{ op := .alloc 2 [.nil 1, .nil 1, .nil 4, .sc (.int .i64 0)] }], sets := [(3, 0)] }
def slaws_toEndpoint_r2 : Reg :=
  { id := 2, ops := [{ op := .fieldAddr (.slot 1) 0 },
      { op := .load none (.loc 0) },
      { op := .call 31 [(false, .loc 1)] [3] },
      { op := .fieldAddr (.slot 3) 0 },
      { op := .store 1 (.loc 3) (.loc 2) }] }
def slaws_toEndpoint_r3 : Reg :=
  { id := 3, ops := [{ op := .fieldAddr (.slot 1) 1 },
      { op := .load none (.loc 0) },
      { op := .call 31 [(false, .loc 1)] [4] },
      { op := .fieldAddr (.slot 3) 1 },
      { op := .store 1 (.loc 3) (.loc 2) }] }
def slaws_toEndpoint_r4 : Reg :=
  { id := 4, ops := [{ op := .fieldAddr (.slot 1) 2 },
      { op := .load none (.loc 0) },
      { op := .call 170 [(false, .loc 1)] [5] },
      { op := .fieldAddr (.slot 3) 2 },
      { op := .store 1 (.loc 3) (.loc 2) }] }
def slaws_toEndpoint_r5 : Reg :=
  { id := 5, ops := [{ op := .fieldAddr (.slot 1) 3 },
      { op := .load none (.loc 0) },
      { op := .fieldAddr (.slot 3) 3 },
      { op := .store 1 (.loc 2) (.loc 1) }], clr := [1] }
def slaws_toEndpoint_r6 : Reg :=
  { id := 6, ops := [{ op := .load (some 4) (.slot 3) },
      { op := .store 4 (.slot 2) (.loc 0) }], clr := [3] }
def slaws_toEndpoint_b : SC := .seq (.reg slaws_toEndpoint_r0) (.seq (.reg slaws_toEndpoint_r1) (.seq (.reg slaws_toEndpoint_r2) (.seq (.reg slaws_toEndpoint_r3) (.seq (.reg slaws_toEndpoint_r4) (.seq (.reg slaws_toEndpoint_r5) (.seq (.reg slaws_toEndpoint_r6) (.ret)))))))
def slaws_toEndpoint : SFn := { nslots := 4, nobjs := 6, params := [0], ngiven := 0, bor := false, takes := [], body := slaws_toEndpoint_b, results := [.cell 2 (some 4)] }
def slaws_toEndpoint_t : List Tmp := [0, 1, 2, 3]
attribute [simp] slaws_toEndpoint_r0 slaws_toEndpoint_r1 slaws_toEndpoint_r2 slaws_toEndpoint_r3 slaws_toEndpoint_r4 slaws_toEndpoint_r5 slaws_toEndpoint_r6 slaws_toEndpoint_b slaws_toEndpoint
def slaws_toLogged_r0 : Reg :=
  { id := 0, ops := [{ op := .box 0 (.slot 0) },
      { op := .alloc 1 [.sc (.int .i64 0), .sc (.int .i64 0), .sc (.bool false), .sc (.bool false), .sc (.int .i64 0), .nil 1, .sc (.int .i64 0), .nil 1] }], sets := [(1, 0), (2, 1)], clr := [0] }
def slaws_toLogged_r1 : Reg :=
  { id := 1, ops := [{ op := .alloc 2 [.sc (.int .i64 0), .sc (.int .i64 0), .sc (.bool false), .sc (.bool false), .sc (.int .i64 0), .nil 1, .sc (.int .i64 0), .nil 1] }], sets := [(3, 0)] }
def slaws_toLogged_r2 : Reg :=
  { id := 2, ops := [{ op := .fieldAddr (.slot 1) 0 },
      { op := .load none (.loc 0) },
      { op := .fieldAddr (.slot 3) 0 },
      { op := .store 1 (.loc 2) (.loc 1) }] }
def slaws_toLogged_r3 : Reg :=
  { id := 3, ops := [{ op := .fieldAddr (.slot 1) 1 },
      { op := .load none (.loc 0) },
      { op := .fieldAddr (.slot 3) 1 },
      { op := .store 1 (.loc 2) (.loc 1) }] }
def slaws_toLogged_r4 : Reg :=
  { id := 4, ops := [{ op := .fieldAddr (.slot 1) 2 },
      { op := .load none (.loc 0) },
      { op := .fieldAddr (.slot 3) 2 },
      { op := .store 1 (.loc 2) (.loc 1) }] }
def slaws_toLogged_r5 : Reg :=
  { id := 5, ops := [{ op := .fieldAddr (.slot 1) 3 },
      { op := .load (some 5) (.loc 0) },
      { op := .call 99 [(false, .loc 1)] [3, 4] },
      { op := .fieldAddr (.slot 3) 3 },
      { op := .store 5 (.loc 3) (.loc 2) }], clr := [1] }
def slaws_toLogged_r6 : Reg :=
  { id := 6, ops := [{ op := .load (some 8) (.slot 3) },
      { op := .store 8 (.slot 2) (.loc 0) }], clr := [3] }
def slaws_toLogged_b : SC := .seq (.reg slaws_toLogged_r0) (.seq (.reg slaws_toLogged_r1) (.seq (.reg slaws_toLogged_r2) (.seq (.reg slaws_toLogged_r3) (.seq (.reg slaws_toLogged_r4) (.seq (.reg slaws_toLogged_r5) (.seq (.reg slaws_toLogged_r6) (.ret)))))))
def slaws_toLogged : SFn := { nslots := 4, nobjs := 5, params := [0], ngiven := 0, bor := false, takes := [], body := slaws_toLogged_b, results := [.cell 2 (some 8)] }
def slaws_toLogged_t : List Tmp := [0, 1, 2, 3]
attribute [simp] slaws_toLogged_r0 slaws_toLogged_r1 slaws_toLogged_r2 slaws_toLogged_r3 slaws_toLogged_r4 slaws_toLogged_r5 slaws_toLogged_r6 slaws_toLogged_b slaws_toLogged
def slaws_eqLogged_r0 : Reg :=
  { id := 0, ops := [{ op := .box 0 (.slot 0) },
      { op := .box 1 (.slot 1) },
      { op := .mv (.con (.sc (.bool false))) }], sets := [(2, 0), (3, 1)], clr := [0, 1, 4] }
def slaws_eqLogged_r1 : Reg :=
  { id := 1, ops := [{ op := .fieldAddr (.slot 2) 0 },
      { op := .load none (.loc 0) },
      { op := .fieldAddr (.slot 3) 0 },
      { op := .load none (.loc 2) },
      { op := .bin .neq (.loc 1) (.loc 3) }], sets := [(5, 4)] }
def slaws_eqLogged_r2 : Reg :=
  { id := 2, ops := [{ op := .mv (.con (.sc (.bool false))) }], sets := [(4, 0)], clr := [2, 3] }
def slaws_eqLogged_r3 : Reg :=
  { id := 3, ops := [{ op := .fieldAddr (.slot 2) 1 },
      { op := .load none (.loc 0) },
      { op := .fieldAddr (.slot 3) 1 },
      { op := .load none (.loc 2) },
      { op := .bin .neq (.loc 1) (.loc 3) }], sets := [(6, 4)] }
def slaws_eqLogged_r4 : Reg :=
  { id := 4, ops := [{ op := .mv (.con (.sc (.bool false))) }], sets := [(4, 0)], clr := [2, 3] }
def slaws_eqLogged_r5 : Reg :=
  { id := 5, ops := [{ op := .fieldAddr (.slot 2) 2 },
      { op := .load none (.loc 0) },
      { op := .fieldAddr (.slot 3) 2 },
      { op := .load none (.loc 2) },
      { op := .beq true (.loc 1) (.loc 3) }], sets := [(7, 4)] }
def slaws_eqLogged_r6 : Reg :=
  { id := 6, ops := [{ op := .mv (.con (.sc (.bool false))) }], sets := [(4, 0)], clr := [2, 3] }
def slaws_eqLogged_r7 : Reg :=
  { id := 7, ops := [{ op := .fieldAddr (.slot 2) 3 },
      { op := .load (some 5) (.loc 0) },
      { op := .fieldAddr (.slot 3) 3 },
      { op := .load (some 5) (.loc 2) },
      { op := .call 135 [(false, .loc 1), (false, .loc 3)] [] },
      { op := .un .not (.loc 4) }], sets := [(8, 5)], clr := [2, 3] }
def slaws_eqLogged_r8 : Reg :=
  { id := 8, ops := [{ op := .mv (.con (.sc (.bool false))) }], sets := [(4, 0)] }
def slaws_eqLogged_r9 : Reg :=
  { id := 9, ops := [{ op := .mv (.con (.sc (.bool true))) }], sets := [(4, 0)] }
def slaws_eqLogged_b : SC := .seq (.reg slaws_eqLogged_r0) (.seq (.seq (.reg slaws_eqLogged_r1) (.cond 5 (.seq (.reg slaws_eqLogged_r2) (.ret)) (.skip))) (.seq (.seq (.reg slaws_eqLogged_r3) (.cond 6 (.seq (.reg slaws_eqLogged_r4) (.ret)) (.skip))) (.seq (.seq (.reg slaws_eqLogged_r5) (.cond 7 (.seq (.reg slaws_eqLogged_r6) (.ret)) (.skip))) (.seq (.seq (.reg slaws_eqLogged_r7) (.cond 8 (.seq (.reg slaws_eqLogged_r8) (.ret)) (.skip))) (.seq (.reg slaws_eqLogged_r9) (.ret))))))
def slaws_eqLogged : SFn := { nslots := 9, nobjs := 2, params := [0, 1], ngiven := 0, bor := false, takes := [], body := slaws_eqLogged_b, results := [.slot 4] }
def slaws_eqLogged_t : List Tmp := [0, 1, 2, 3, 4, 9, 14, 19, 25]
attribute [simp] slaws_eqLogged_r0 slaws_eqLogged_r1 slaws_eqLogged_r2 slaws_eqLogged_r3 slaws_eqLogged_r4 slaws_eqLogged_r5 slaws_eqLogged_r6 slaws_eqLogged_r7 slaws_eqLogged_r8 slaws_eqLogged_r9 slaws_eqLogged_b slaws_eqLogged
def slaws_szBoxS_r0 : Reg :=
  { id := 0, ops := [{ op := .mv (.con (.sc (.int .i64 0))) }], clr := [2] }
def slaws_szBoxS_r1 : Reg :=
  { id := 1, ops := [{ op := .mv (.slot 1) },
      { op := .mv (.slot 0) },
      { op := .len false (.loc 1) },
      { op := .bin .sub (.loc 0) (.loc 2) },
      { op := .mv (.loc 3) }], sets := [(1, 4)] }
def slaws_szBoxS_r2 : Reg :=
  { id := 2, ops := [{ op := .mv (.slot 1) },
      { op := .bin .lss (.loc 0) (.con (.sc (.int .i64 0))) }], sets := [(4, 1)] }
def slaws_szBoxS_r3 : Reg :=
  { id := 3, ops := [{ op := .mv (.con (.sc (.int .i64 (-1)))) }], sets := [(2, 0)], clr := [0, 1] }
def slaws_szBoxS_r4 : Reg :=
  { id := 4, ops := [{ op := .mv (.con (.sc (.int .i64 0))) }], sets := [(3, 0)] }
def slaws_szBoxS_r5 : Reg :=
  { id := 5, ops := [{ op := .mv (.slot 3) },
      { op := .mv (.slot 0) },
      { op := .len false (.loc 1) },
      { op := .bin .lss (.loc 0) (.loc 2) }], sets := [(5, 3)] }
def slaws_szBoxS_r6 : Reg :=
  { id := 7, ops := [{ op := .mv (.slot 0) },
      { op := .mv (.slot 3) },
      { op := .indexAddr 4 (.loc 0) (.loc 1) },
      { op := .load (some 4) (.loc 2) },
      { op := .mv (.slot 1) },
      { op := .call 206 [(false, .loc 3), (false, .loc 4)] [] },
      { op := .mv (.loc 5) }], sets := [(1, 6)] }
def slaws_szBoxS_r7 : Reg :=
  { id := 8, ops := [{ op := .mv (.slot 1) },
      { op := .bin .lss (.loc 0) (.con (.sc (.int .i64 0))) }], sets := [(6, 1)] }
def slaws_szBoxS_r8 : Reg :=
  { id := 9, ops := [{ op := .mv (.con (.sc (.int .i64 (-1)))) }], sets := [(2, 0)], clr := [0, 1, 3] }
def slaws_szBoxS_r9 : Reg :=
  { id := 6, ops := [{ op := .mv (.slot 3) },
      { op := .bin .add (.loc 0) (.con (.sc (.int .i64 1))) },
      { op := .mv (.loc 1) }], sets := [(3, 2)] }
def slaws_szBoxS_r10 : Reg :=
  { id := 10, ops := [{ op := .mv (.slot 1) },
      { op := .mv (.loc 0) }], sets := [(2, 1)], clr := [0, 1, 3] }
def slaws_szBoxS_b : SC := .seq (.reg slaws_szBoxS_r0) (.seq (.reg slaws_szBoxS_r1) (.seq (.seq (.reg slaws_szBoxS_r2) (.cond 4 (.seq (.reg slaws_szBoxS_r3) (.ret)) (.skip))) (.seq (.seq (.reg slaws_szBoxS_r4) (.block 0 (.loop (.seq (.seq (.reg slaws_szBoxS_r5) (.cond 5 (.skip) (.exit 0))) (.seq (.block 1 (.seq (.reg slaws_szBoxS_r6) (.seq (.reg slaws_szBoxS_r7) (.cond 6 (.seq (.reg slaws_szBoxS_r8) (.ret)) (.skip))))) (.reg slaws_szBoxS_r9)))))) (.seq (.reg slaws_szBoxS_r10) (.ret)))))
def slaws_szBoxS : SFn := { nslots := 7, nobjs := 0, params := [0, 1], ngiven := 0, bor := false, takes := [], body := slaws_szBoxS_b, results := [.slot 2] }
def slaws_szBoxS_t : List Tmp := [0, 1, 4, 5, 11, 15, 25]
attribute [simp] slaws_szBoxS_r0 slaws_szBoxS_r1 slaws_szBoxS_r2 slaws_szBoxS_r3 slaws_szBoxS_r4 slaws_szBoxS_r5 slaws_szBoxS_r6 slaws_szBoxS_r7 slaws_szBoxS_r8 slaws_szBoxS_r9 slaws_szBoxS_r10 slaws_szBoxS_b slaws_szBoxS
def slaws_toBoxS_r0 : Reg :=
  { id := 0, ops := [{ op := .mv (.con (.nil 4)) }], clr := [1] }
def slaws_toBoxS_r1 : Reg :=
  { id := 1, ops := [{ op := .mv (.slot 0) },
      { op := .len false (.loc 0) },
      { op := .makeSlice 0 4 64 [.sc (.int .i64 0), .sl 0 1 0 [], .sl 0 1 0 [], .sc (.bool false)] (.loc 1) },
      { op := .mv (.loc 2) }], sets := [(2, 3)] }
def slaws_toBoxS_r2 : Reg :=
  { id := 2, ops := [{ op := .mv (.con (.sc (.int .i64 0))) }], sets := [(3, 0)] }
def slaws_toBoxS_r3 : Reg :=
  { id := 3, ops := [{ op := .mv (.slot 3) },
      { op := .mv (.slot 0) },
      { op := .len false (.loc 1) },
      { op := .bin .lss (.loc 0) (.loc 2) }], sets := [(4, 3)] }
def slaws_toBoxS_r4 : Reg :=
  { id := 5, fresh := [1, 2], ops := [{ op := .mv (.slot 2) },
      { op := .mv (.slot 3) },
      { op := .mv (.slot 0) },
      { op := .mv (.slot 3) },
      { op := .indexAddr 4 (.loc 2) (.loc 3) },
      { op := .load (some 4) (.loc 4) },
      { op := .call 226 [(false, .loc 5)] [1, 2] },
      { op := .indexAddr 4 (.loc 0) (.loc 1) },
      { op := .store 4 (.loc 7) (.loc 6) }] }
def slaws_toBoxS_r5 : Reg :=
  { id := 4, ops := [{ op := .mv (.slot 3) },
      { op := .bin .add (.loc 0) (.con (.sc (.int .i64 1))) },
      { op := .mv (.loc 1) }], sets := [(3, 2)] }
def slaws_toBoxS_r6 : Reg :=
  { id := 6, ops := [{ op := .mv (.slot 2) },
      { op := .mv (.loc 0) }], sets := [(1, 1)], clr := [0, 2, 3] }
def slaws_toBoxS_b : SC := .seq (.reg slaws_toBoxS_r0) (.seq (.reg slaws_toBoxS_r1) (.seq (.seq (.reg slaws_toBoxS_r2) (.block 0 (.loop (.seq (.seq (.reg slaws_toBoxS_r3) (.cond 4 (.skip) (.exit 0))) (.seq (.block 1 (.reg slaws_toBoxS_r4)) (.reg slaws_toBoxS_r5)))))) (.seq (.reg slaws_toBoxS_r6) (.ret))))
def slaws_toBoxS : SFn := { nslots := 5, nobjs := 3, params := [0], ngiven := 0, bor := false, takes := [], body := slaws_toBoxS_b, results := [.slot 1] }
def slaws_toBoxS_t : List Tmp := [0, 2, 3, 4, 11]
attribute [simp] slaws_toBoxS_r0 slaws_toBoxS_r1 slaws_toBoxS_r2 slaws_toBoxS_r3 slaws_toBoxS_r4 slaws_toBoxS_r5 slaws_toBoxS_r6 slaws_toBoxS_b slaws_toBoxS
def slaws_markWorld_r0 : Reg :=
  { id := 0, ops := [{ op := .box 6 (.slot 0) },
      { op := .mv (.con (.sc (.int .i64 0))) }], sets := [(2, 0)], clr := [0, 3] }
def slaws_markWorld_r1 : Reg :=
  { id := 1, ops := [{ op := .fieldAddr (.slot 2) 0 },
      { op := .load none (.loc 0) },
      { op := .mv (.slot 1) },
      { op := .call 52 [(true, .loc 1), (false, .loc 2)] [] },
      { op := .mv (.loc 3) }], sets := [(1, 4)] }
def slaws_markWorld_r2 : Reg :=
  { id := 2, ops := [{ op := .fieldAddr (.slot 2) 1 },
      { op := .load none (.loc 0) },
      { op := .mv (.slot 1) },
      { op := .call 52 [(true, .loc 1), (false, .loc 2)] [] },
      { op := .mv (.loc 3) }], sets := [(1, 4)] }
def slaws_markWorld_r3 : Reg :=
  { id := 3, ops := [{ op := .fieldAddr (.slot 2) 3 },
      { op := .load none (.loc 0) },
      { op := .mv (.slot 1) },
      { op := .call 53 [(true, .loc 1), (false, .loc 2)] [] },
      { op := .mv (.loc 3) }], sets := [(1, 4)] }
def slaws_markWorld_r4 : Reg :=
  { id := 4, ops := [{ op := .fieldAddr (.slot 2) 4 },
      { op := .load (some 4) (.loc 0) },
      { op := .mv (.slot 1) },
      { op := .call 54 [(true, .loc 1), (false, .loc 2)] [] },
      { op := .mv (.loc 3) }], sets := [(1, 4)] }
def slaws_markWorld_r5 : Reg :=
  { id := 5, ops := [{ op := .fieldAddr (.slot 2) 10 },
      { op := .load none (.loc 0) },
      { op := .mv (.slot 1) },
      { op := .call 55 [(true, .loc 1), (false, .loc 2)] [] },
      { op := .mv (.loc 3) }], sets := [(1, 4)] }
def slaws_markWorld_r6 : Reg :=
  { id := 6, ops := [{ op := .fieldAddr (.slot 2) 11 },
      { op := .load none (.loc 0) },
      { op := .mv (.slot 1) },
      { op := .call 56 [(true, .loc 1), (false, .loc 2)] [] },
      { op := .mv (.loc 3) }], sets := [(1, 4)], clr := [2] }
def slaws_markWorld_r7 : Reg :=
  { id := 7, ops := [{ op := .mv (.slot 1) },
      { op := .mv (.loc 0) }], sets := [(3, 1)], clr := [1] }
def slaws_markWorld_b : SC := .seq (.reg slaws_markWorld_r0) (.seq (.reg slaws_markWorld_r1) (.seq (.reg slaws_markWorld_r2) (.seq (.reg slaws_markWorld_r3) (.seq (.reg slaws_markWorld_r4) (.seq (.reg slaws_markWorld_r5) (.seq (.reg slaws_markWorld_r6) (.seq (.reg slaws_markWorld_r7) (.ret))))))))
def slaws_markWorld : SFn := { nslots := 4, nobjs := 7, params := [0, 1], ngiven := 6, bor := false, takes := [], body := slaws_markWorld_b, results := [.slot 3] }
def slaws_markWorld_t : List Tmp := [0, 1, 2, 4]
attribute [simp] slaws_markWorld_r0 slaws_markWorld_r1 slaws_markWorld_r2 slaws_markWorld_r3 slaws_markWorld_r4 slaws_markWorld_r5 slaws_markWorld_r6 slaws_markWorld_r7 slaws_markWorld_b slaws_markWorld
def simpl_IsHardened_r0 : Reg :=
  { id := 0, ops := [{ op := .mv (.con (.sc (.bool false))) }], clr := [1] }
def simpl_IsHardened_r1 : Reg :=
  { id := 1, ops := [{ op := .mv (.slot 0) },
      { op := .call 267 [(false, .loc 0), (false, .con (.fn 279 []))] [] },
      { op := .mv (.loc 1) }], sets := [(1, 2)], clr := [0] }
def simpl_IsHardened_b : SC := .seq (.reg simpl_IsHardened_r0) (.seq (.reg simpl_IsHardened_r1) (.ret))
def simpl_IsHardened : SFn := { nslots := 2, nobjs := 0, params := [0], ngiven := 0, bor := false, takes := [], body := simpl_IsHardened_b, results := [.slot 1] }
def simpl_IsHardened_t : List Tmp := [0, 2]
attribute [simp] simpl_IsHardened_r0 simpl_IsHardened_r1 simpl_IsHardened_b simpl_IsHardened
def simpl_hasEnd_r0 : Reg :=
  { id := 0, ops := [{ op := .box 0 (.slot 0) },
      { op := .mv (.con (.sc (.bool false))) }], sets := [(2, 0)], clr := [0, 3] }
def simpl_hasEnd_r1 : Reg :=
  { id := 1, ops := [{ op := .mv (.slot 1) },
      { op := .fieldAddr (.slot 2) 3 },
      { op := .load none (.loc 1) },
      { op := .len false (.loc 2) },
      { op := .bin .sub (.loc 3) (.con (.sc (.int .i64 1))) },
      { op := .call 114 [(false, .loc 0), (false, .con (.sc (.int .i64 0))), (false, .loc 4)] [] },
      { op := .mv (.loc 5) }], sets := [(3, 6)], clr := [1, 2] }
def simpl_hasEnd_b : SC := .seq (.reg simpl_hasEnd_r0) (.seq (.reg simpl_hasEnd_r1) (.ret))
def simpl_hasEnd : SFn := { nslots := 4, nobjs := 1, params := [0, 1], ngiven := 0, bor := false, takes := [], body := simpl_hasEnd_b, results := [.slot 3] }
def simpl_hasEnd_t : List Tmp := [0, 1, 2, 4]
attribute [simp] simpl_hasEnd_r0 simpl_hasEnd_r1 simpl_hasEnd_b simpl_hasEnd
def slaws_markRollout_r0 : Reg :=
  { id := 0, ops := [{ op := .box 1 (.slot 0) },
      { op := .mv (.con (.sc (.int .i64 0))) }], sets := [(2, 0)], clr := [0, 3] }
def slaws_markRollout_r1 : Reg :=
  { id := 1, ops := [{ op := .fieldAddr (.slot 2) 1 },
      { op := .load none (.loc 0) },
      { op := .mv (.slot 1) },
      { op := .call 52 [(true, .loc 1), (false, .loc 2)] [] },
      { op := .mv (.loc 3) }], sets := [(1, 4)], clr := [2] }
def slaws_markRollout_r2 : Reg :=
  { id := 2, ops := [{ op := .mv (.slot 1) },
      { op := .mv (.loc 0) }], sets := [(3, 1)], clr := [1] }
def slaws_markRollout_b : SC := .seq (.reg slaws_markRollout_r0) (.seq (.reg slaws_markRollout_r1) (.seq (.reg slaws_markRollout_r2) (.ret)))
def slaws_markRollout : SFn := { nslots := 4, nobjs := 2, params := [0, 1], ngiven := 1, bor := false, takes := [], body := slaws_markRollout_b, results := [.slot 3] }
def slaws_markRollout_t : List Tmp := [0, 1, 2, 4]
attribute [simp] slaws_markRollout_r0 slaws_markRollout_r1 slaws_markRollout_r2 slaws_markRollout_b slaws_markRollout
def slaws_markDialedS_r0 : Reg :=
  { id := 0, ops := [{ op := .mv (.con (.sc (.int .i64 0))) }], clr := [2] }
def slaws_markDialedS_r1 : Reg :=
  { id := 1, ops := [{ op := .mv (.con (.sc (.int .i64 0))) }], sets := [(3, 0)] }
def slaws_markDialedS_r2 : Reg :=
  { id := 2, ops := [{ op := .mv (.slot 3) },
      { op := .mv (.slot 0) },
      { op := .len false (.loc 1) },
      { op := .bin .lss (.loc 0) (.loc 2) }], sets := [(4, 3)] }
def slaws_markDialedS_r3 : Reg :=
  { id := 4, ops := [{ op := .mv (.slot 0) },
      { op := .mv (.slot 3) },
      { op := .mv (.slot 1) },
      { op := .bin .rem (.loc 2) (.con (.sc (.int .i64 3))) },
      { op := .bin .eql (.loc 3) (.con (.sc (.int .i64 0))) },
      { op := .indexAddr 5 (.loc 0) (.loc 1) },
      { op := .fieldAddr (.loc 5) 0 },
      { op := .fieldAddr (.loc 6) 0 },
      { op := .store 1 (.loc 7) (.loc 4) }] }
def slaws_markDialedS_r4 : Reg :=
  { id := 5, ops := [{ op := .mv (.slot 1) },
      { op := .bin .add (.loc 0) (.con (.sc (.int .i64 1))) },
      { op := .mv (.loc 1) }], sets := [(1, 2)] }
def slaws_markDialedS_r5 : Reg :=
  { id := 6, ops := [{ op := .mv (.slot 0) },
      { op := .mv (.slot 3) },
      { op := .mv (.slot 1) },
      { op := .indexAddr 5 (.loc 0) (.loc 1) },
      { op := .fieldAddr (.loc 3) 0 },
      { op := .fieldAddr (.loc 4) 1 },
      { op := .store 1 (.loc 5) (.loc 2) }] }
def slaws_markDialedS_r6 : Reg :=
  { id := 7, ops := [{ op := .mv (.slot 1) },
      { op := .bin .add (.loc 0) (.con (.sc (.int .i64 1))) },
      { op := .mv (.loc 1) }], sets := [(1, 2)] }
def slaws_markDialedS_r7 : Reg :=
  { id := 8, fresh := [1], ops := [{ op := .mv (.slot 0) },
      { op := .mv (.slot 3) },
      { op := .indexAddr 5 (.loc 0) (.loc 1) },
      { op := .fieldAddr (.loc 2) 0 },
      { op := .fieldAddr (.loc 3) 2 },
      { op := .take 1 (.loc 4) },
      { op := .mv (.slot 1) },
      { op := .call 52 [(true, .loc 5), (false, .loc 6)] [] },
      { op := .mv (.loc 7) }], sets := [(1, 8)], ghosts := [.untake 1] }
def slaws_markDialedS_r8 : Reg :=
  { id := 9, ops := [{ op := .mv (.slot 0) },
      { op := .mv (.slot 3) },
      { op := .mv (.slot 1) },
      { op := .indexAddr 5 (.loc 0) (.loc 1) },
      { op := .fieldAddr (.loc 3) 3 },
      { op := .store 1 (.loc 4) (.loc 2) }] }
def slaws_markDialedS_r9 : Reg :=
  { id := 10, ops := [{ op := .mv (.slot 1) },
      { op := .bin .add (.loc 0) (.con (.sc (.int .i64 1))) },
      { op := .mv (.loc 1) }], sets := [(1, 2)] }
def slaws_markDialedS_r10 : Reg :=
  { id := 11, fresh := [2], ops := [{ op := .mv (.slot 0) },
      { op := .mv (.slot 3) },
      { op := .indexAddr 5 (.loc 0) (.loc 1) },
      { op := .fieldAddr (.loc 2) 4 },
      { op := .take 2 (.loc 3) },
      { op := .mv (.slot 1) },
      { op := .call 52 [(true, .loc 4), (false, .loc 5)] [] },
      { op := .mv (.loc 6) }], sets := [(1, 7)], ghosts := [.untake 2] }
def slaws_markDialedS_r11 : Reg :=
  { id := 3, ops := [{ op := .mv (.slot 3) },
      { op := .bin .add (.loc 0) (.con (.sc (.int .i64 1))) },
      { op := .mv (.loc 1) }], sets := [(3, 2)] }
def slaws_markDialedS_r12 : Reg :=
  { id := 12, ops := [{ op := .mv (.slot 1) },
      { op := .mv (.loc 0) }], sets := [(2, 1)], clr := [0, 1, 3] }
def slaws_markDialedS_b : SC := .seq (.reg slaws_markDialedS_r0) (.seq (.seq (.reg slaws_markDialedS_r1) (.block 0 (.loop (.seq (.seq (.reg slaws_markDialedS_r2) (.cond 4 (.skip) (.exit 0))) (.seq (.block 1 (.seq (.reg slaws_markDialedS_r3) (.seq (.reg slaws_markDialedS_r4) (.seq (.reg slaws_markDialedS_r5) (.seq (.reg slaws_markDialedS_r6) (.seq (.reg slaws_markDialedS_r7) (.seq (.reg slaws_markDialedS_r8) (.seq (.reg slaws_markDialedS_r9) (.reg slaws_markDialedS_r10))))))))) (.reg slaws_markDialedS_r11)))))) (.seq (.reg slaws_markDialedS_r12) (.ret)))
def slaws_markDialedS : SFn := { nslots := 5, nobjs := 3, params := [0, 1], ngiven := 1, bor := false, takes := [1, 2], body := slaws_markDialedS_b, results := [.slot 2] }
def slaws_markDialedS_t : List Tmp := [0, 1, 4, 5, 9]
attribute [simp] slaws_markDialedS_r0 slaws_markDialedS_r1 slaws_markDialedS_r2 slaws_markDialedS_r3 slaws_markDialedS_r4 slaws_markDialedS_r5 slaws_markDialedS_r6 slaws_markDialedS_r7 slaws_markDialedS_r8 slaws_markDialedS_r9 slaws_markDialedS_r10 slaws_markDialedS_r11 slaws_markDialedS_r12 slaws_markDialedS_b slaws_markDialedS
def slaws_markLoggedS_r0 : Reg :=
  { id := 0, ops := [{ op := .mv (.con (.sc (.int .i64 0))) }], clr := [2] }
def slaws_markLoggedS_r1 : Reg :=
  { id := 1, ops := [{ op := .mv (.con (.sc (.int .i64 0))) }], sets := [(3, 0)] }
def slaws_markLoggedS_r2 : Reg :=
  { id := 2, ops := [{ op := .mv (.slot 3) },
      { op := .mv (.slot 0) },
      { op := .len false (.loc 1) },
      { op := .bin .lss (.loc 0) (.loc 2) }], sets := [(4, 3)] }
def slaws_markLoggedS_r3 : Reg :=
  { id := 4, ops := [{ op := .mv (.slot 0) },
      { op := .mv (.slot 3) },
      { op := .mv (.slot 1) },
      { op := .indexAddr 8 (.loc 0) (.loc 1) },
      { op := .fieldAddr (.loc 3) 0 },
      { op := .store 1 (.loc 4) (.loc 2) }] }
def slaws_markLoggedS_r4 : Reg :=
  { id := 5, ops := [{ op := .mv (.slot 1) },
      { op := .bin .add (.loc 0) (.con (.sc (.int .i64 1))) },
      { op := .mv (.loc 1) }], sets := [(1, 2)] }
def slaws_markLoggedS_r5 : Reg :=
  { id := 6, ops := [{ op := .mv (.slot 0) },
      { op := .mv (.slot 3) },
      { op := .mv (.slot 1) },
      { op := .indexAddr 8 (.loc 0) (.loc 1) },
      { op := .fieldAddr (.loc 3) 1 },
      { op := .store 1 (.loc 4) (.loc 2) }] }
def slaws_markLoggedS_r6 : Reg :=
  { id := 7, ops := [{ op := .mv (.slot 1) },
      { op := .bin .add (.loc 0) (.con (.sc (.int .i64 1))) },
      { op := .mv (.loc 1) }], sets := [(1, 2)] }
def slaws_markLoggedS_r7 : Reg :=
  { id := 8, ops := [{ op := .mv (.slot 0) },
      { op := .mv (.slot 3) },
      { op := .mv (.slot 1) },
      { op := .bin .rem (.loc 2) (.con (.sc (.int .i64 3))) },
      { op := .bin .eql (.loc 3) (.con (.sc (.int .i64 0))) },
      { op := .indexAddr 8 (.loc 0) (.loc 1) },
      { op := .fieldAddr (.loc 5) 2 },
      { op := .store 1 (.loc 6) (.loc 4) }] }
def slaws_markLoggedS_r8 : Reg :=
  { id := 9, ops := [{ op := .mv (.slot 1) },
      { op := .bin .add (.loc 0) (.con (.sc (.int .i64 1))) },
      { op := .mv (.loc 1) }], sets := [(1, 2)] }
def slaws_markLoggedS_r9 : Reg :=
  { id := 10, ops := [{ op := .mv (.slot 0) },
      { op := .mv (.slot 3) },
      { op := .mv (.slot 1) },
      { op := .bin .rem (.loc 2) (.con (.sc (.int .i64 3))) },
      { op := .bin .eql (.loc 3) (.con (.sc (.int .i64 0))) },
      { op := .indexAddr 8 (.loc 0) (.loc 1) },
      { op := .fieldAddr (.loc 5) 3 },
      { op := .fieldAddr (.loc 6) 0 },
      { op := .fieldAddr (.loc 7) 0 },
      { op := .store 1 (.loc 8) (.loc 4) }] }
def slaws_markLoggedS_r10 : Reg :=
  { id := 11, ops := [{ op := .mv (.slot 1) },
      { op := .bin .add (.loc 0) (.con (.sc (.int .i64 1))) },
      { op := .mv (.loc 1) }], sets := [(1, 2)] }
def slaws_markLoggedS_r11 : Reg :=
  { id := 12, ops := [{ op := .mv (.slot 0) },
      { op := .mv (.slot 3) },
      { op := .mv (.slot 1) },
      { op := .indexAddr 8 (.loc 0) (.loc 1) },
      { op := .fieldAddr (.loc 3) 3 },
      { op := .fieldAddr (.loc 4) 0 },
      { op := .fieldAddr (.loc 5) 1 },
      { op := .store 1 (.loc 6) (.loc 2) }] }
def slaws_markLoggedS_r12 : Reg :=
  { id := 13, ops := [{ op := .mv (.slot 1) },
      { op := .bin .add (.loc 0) (.con (.sc (.int .i64 1))) },
      { op := .mv (.loc 1) }], sets := [(1, 2)] }
def slaws_markLoggedS_r13 : Reg :=
  { id := 14, fresh := [1], ops := [{ op := .mv (.slot 0) },
      { op := .mv (.slot 3) },
      { op := .indexAddr 8 (.loc 0) (.loc 1) },
      { op := .fieldAddr (.loc 2) 3 },
      { op := .fieldAddr (.loc 3) 0 },
      { op := .fieldAddr (.loc 4) 2 },
      { op := .take 1 (.loc 5) },
      { op := .mv (.slot 1) },
      { op := .call 52 [(true, .loc 6), (false, .loc 7)] [] },
      { op := .mv (.loc 8) }], sets := [(1, 9)], ghosts := [.untake 1] }
def slaws_markLoggedS_r14 : Reg :=
  { id := 15, ops := [{ op := .mv (.slot 0) },
      { op := .mv (.slot 3) },
      { op := .mv (.slot 1) },
      { op := .indexAddr 8 (.loc 0) (.loc 1) },
      { op := .fieldAddr (.loc 3) 3 },
      { op := .fieldAddr (.loc 4) 3 },
      { op := .store 1 (.loc 5) (.loc 2) }] }
def slaws_markLoggedS_r15 : Reg :=
  { id := 16, ops := [{ op := .mv (.slot 1) },
      { op := .bin .add (.loc 0) (.con (.sc (.int .i64 1))) },
      { op := .mv (.loc 1) }], sets := [(1, 2)] }
def slaws_markLoggedS_r16 : Reg :=
  { id := 17, fresh := [2], ops := [{ op := .mv (.slot 0) },
      { op := .mv (.slot 3) },
      { op := .indexAddr 8 (.loc 0) (.loc 1) },
      { op := .fieldAddr (.loc 2) 3 },
      { op := .fieldAddr (.loc 3) 4 },
      { op := .take 2 (.loc 4) },
      { op := .mv (.slot 1) },
      { op := .call 52 [(true, .loc 5), (false, .loc 6)] [] },
      { op := .mv (.loc 7) }], sets := [(1, 8)], ghosts := [.untake 2] }
def slaws_markLoggedS_r17 : Reg :=
  { id := 3, ops := [{ op := .mv (.slot 3) },
      { op := .bin .add (.loc 0) (.con (.sc (.int .i64 1))) },
      { op := .mv (.loc 1) }], sets := [(3, 2)] }
def slaws_markLoggedS_r18 : Reg :=
  { id := 18, ops := [{ op := .mv (.slot 1) },
      { op := .mv (.loc 0) }], sets := [(2, 1)], clr := [0, 1, 3] }
def slaws_markLoggedS_b : SC := .seq (.reg slaws_markLoggedS_r0) (.seq (.seq (.reg slaws_markLoggedS_r1) (.block 0 (.loop (.seq (.seq (.reg slaws_markLoggedS_r2) (.cond 4 (.skip) (.exit 0))) (.seq (.block 1 (.seq (.reg slaws_markLoggedS_r3) (.seq (.reg slaws_markLoggedS_r4) (.seq (.reg slaws_markLoggedS_r5) (.seq (.reg slaws_markLoggedS_r6) (.seq (.reg slaws_markLoggedS_r7) (.seq (.reg slaws_markLoggedS_r8) (.seq (.reg slaws_markLoggedS_r9) (.seq (.reg slaws_markLoggedS_r10) (.seq (.reg slaws_markLoggedS_r11) (.seq (.reg slaws_markLoggedS_r12) (.seq (.reg slaws_markLoggedS_r13) (.seq (.reg slaws_markLoggedS_r14) (.seq (.reg slaws_markLoggedS_r15) (.reg slaws_markLoggedS_r16))))))))))))))) (.reg slaws_markLoggedS_r17)))))) (.seq (.reg slaws_markLoggedS_r18) (.ret)))
def slaws_markLoggedS : SFn := { nslots := 5, nobjs := 3, params := [0, 1], ngiven := 1, bor := false, takes := [1, 2], body := slaws_markLoggedS_b, results := [.slot 2] }
def slaws_markLoggedS_t : List Tmp := [0, 1, 4, 5, 9]
attribute [simp] slaws_markLoggedS_r0 slaws_markLoggedS_r1 slaws_markLoggedS_r2 slaws_markLoggedS_r3 slaws_markLoggedS_r4 slaws_markLoggedS_r5 slaws_markLoggedS_r6 slaws_markLoggedS_r7 slaws_markLoggedS_r8 slaws_markLoggedS_r9 slaws_markLoggedS_r10 slaws_markLoggedS_r11 slaws_markLoggedS_r12 slaws_markLoggedS_r13 slaws_markLoggedS_r14 slaws_markLoggedS_r15 slaws_markLoggedS_r16 slaws_markLoggedS_r17 slaws_markLoggedS_r18 slaws_markLoggedS_b slaws_markLoggedS
def sspec_IsReserved_r0 : Reg :=
  { id := 0, ops := [{ op := .mv (.con (.sc (.bool false))) }], clr := [1] }
def sspec_IsReserved_r1 : Reg :=
  { id := 1, ops := [{ op := .mv (.slot 0) },
      { op := .call 71 [(false, .loc 0), (false, .con (.sc (.int .i64 0))), (false, .con (.sc (.int .i64 255)))] [] },
      { op := .mv (.loc 1) },
      { op := .mv (.slot 0), guard := some (2, true) },
      { op := .bin .rem (.loc 3) (.con (.sc (.int .i64 16))), guard := some (2, true) },
      { op := .bin .eql (.loc 4) (.con (.sc (.int .i64 10))), guard := some (2, true) },
      { op := .pick (.loc 2) (.loc 5) (.con (.sc (.bool false))) },
      { op := .mv (.loc 6) }], sets := [(1, 7)], clr := [0] }
def sspec_IsReserved_b : SC := .seq (.reg sspec_IsReserved_r0) (.seq (.reg sspec_IsReserved_r1) (.ret))
def sspec_IsReserved : SFn := { nslots := 2, nobjs := 0, params := [0], ngiven := 0, bor := false, takes := [], body := sspec_IsReserved_b, results := [.slot 1] }
def sspec_IsReserved_t : List Tmp := [0, 2]
attribute [simp] sspec_IsReserved_r0 sspec_IsReserved_r1 sspec_IsReserved_b sspec_IsReserved
def sslices_ContainsFunc___int_int__r0 : Reg :=
  { id := 0, ops := [{ op := .mv (.con (.sc (.bool false))) }], clr := [2] }
def sslices_ContainsFunc___int_int__r1 : Reg :=
  { id := 1, ops := [{ op := .mv (.slot 0) },
      { op := .mv (.slot 1) },
      { op := .call 404 [(false, .loc 0), (false, .loc 1)] [] },
      { op := .bin .geq (.loc 2) (.con (.sc (.int .i64 0))) },
      { op := .mv (.loc 3) }], sets := [(2, 4)], clr := [0, 1] }
def sslices_ContainsFunc___int_int__b : SC := .seq (.reg sslices_ContainsFunc___int_int__r0) (.seq (.reg sslices_ContainsFunc___int_int__r1) (.ret))
def sslices_ContainsFunc___int_int_ : SFn := { nslots := 3, nobjs := 0, params := [0, 1], ngiven := 0, bor := false, takes := [], body := sslices_ContainsFunc___int_int__b, results := [.slot 2] }
def sslices_ContainsFunc___int_int__t : List Tmp := [0, 1, 4]
attribute [simp] sslices_ContainsFunc___int_int__r0 sslices_ContainsFunc___int_int__r1 sslices_ContainsFunc___int_int__b sslices_ContainsFunc___int_int_
def simpl_IsReserved_r0 : Reg :=
  { id := 0, ops := [{ op := .mv (.con (.sc (.bool false))) }], clr := [1] }
def simpl_IsReserved_r1 : Reg :=
  { id := 1, ops := [{ op := .mv (.slot 0) },
      { op := .call 114 [(false, .loc 0), (false, .con (.sc (.int .i64 0))), (false, .con (.sc (.int .i64 255)))] [] },
      { op := .mv (.loc 1) },
      { op := .mv (.slot 0), guard := some (2, true) },
      { op := .bin .rem (.loc 3) (.con (.sc (.int .i64 16))), guard := some (2, true) },
      { op := .bin .eql (.loc 4) (.con (.sc (.int .i64 10))), guard := some (2, true) },
      { op := .pick (.loc 2) (.loc 5) (.con (.sc (.bool false))) },
      { op := .mv (.loc 6) }], sets := [(1, 7)], clr := [0] }
def simpl_IsReserved_b : SC := .seq (.reg simpl_IsReserved_r0) (.seq (.reg simpl_IsReserved_r1) (.ret))
def simpl_IsReserved : SFn := { nslots := 2, nobjs := 0, params := [0], ngiven := 0, bor := false, takes := [], body := simpl_IsReserved_b, results := [.slot 1] }
def simpl_IsReserved_t : List Tmp := [0, 2]
attribute [simp] simpl_IsReserved_r0 simpl_IsReserved_r1 simpl_IsReserved_b simpl_IsReserved
def simpl_areNumbers_r0 : Reg :=
  { id := 0, ops := [{ op := .box 0 (.slot 1) },
      { op := .box 1 (.slot 2) },
      { op := .mv (.con (.sc (.bool false))) }], sets := [(3, 0), (4, 1)], clr := [1, 2, 5] }
def simpl_areNumbers_r1 : Reg :=
  { id := 1, ops := [{ op := .mv (.slot 0) },
      { op := .makeFunc 266 [.slot 3, .slot 4] },
      { op := .call 267 [(false, .loc 0), (false, .loc 1)] [] },
      { op := .un .not (.loc 2) },
      { op := .mv (.loc 3) }], sets := [(5, 4)], clr := [0, 3, 4] }
def simpl_areNumbers_b : SC := .seq (.reg simpl_areNumbers_r0) (.seq (.reg simpl_areNumbers_r1) (.ret))
def simpl_areNumbers : SFn := { nslots := 6, nobjs := 2, params := [0, 1, 2], ngiven := 0, bor := false, takes := [], body := simpl_areNumbers_b, results := [.slot 5] }
def simpl_areNumbers_t : List Tmp := [0, 1, 2, 4, 5, 6]
attribute [simp] simpl_areNumbers_r0 simpl_areNumbers_r1 simpl_areNumbers_b simpl_areNumbers
def sslices_IndexFunc___int_int__r0 : Reg :=
  { id := 0, ops := [{ op := .mv (.con (.sc (.int .i64 0))) }], clr := [2] }
def sslices_IndexFunc___int_int__r1 : Reg :=
  { id := 1, ops := [{ op := .mv (.slot 0) },
      { op := .len false (.loc 0) },
      { op := .mv (.con (.sc (.int .i64 0))) }], sets := [(4, 1), (5, 2)] }
def sslices_IndexFunc___int_int__r2 : Reg :=
  { id := 2, ops := [{ op := .bin .lss (.slot 5) (.slot 4) }], sets := [(6, 0)] }
def sslices_IndexFunc___int_int__r3 : Reg :=
  { id := 3, ops := [{ op := .mv (.slot 5) },
      { op := .mv (.loc 0) }], sets := [(3, 1)] }
def sslices_IndexFunc___int_int__r4 : Reg :=
  { id := 4, ops := [{ op := .mv (.slot 1) },
      { op := .mv (.slot 0) },
      { op := .mv (.slot 3) },
      { op := .indexAddr 1 (.loc 1) (.loc 2) },
      { op := .load none (.loc 3) },
      { op := .callv (.loc 0) [(false, .loc 4)] [] }], sets := [(7, 5)] }
def sslices_IndexFunc___int_int__r5 : Reg :=
  { id := 5, ops := [{ op := .mv (.slot 3) },
      { op := .mv (.loc 0) }], sets := [(2, 1)], clr := [0, 1, 3, 4, 5] }
def sslices_IndexFunc___int_int__r6 : Reg :=
  { id := 6, ops := [{ op := .bin .add (.slot 5) (.con (.sc (.int .i64 1))) },
      { op := .mv (.loc 0) }], sets := [(5, 1)], clr := [3] }
def sslices_IndexFunc___int_int__r7 : Reg :=
  { id := 7, ops := [{ op := .mv (.con (.sc (.int .i64 (-1)))) }], sets := [(2, 0)], clr := [0, 1, 4, 5] }
def sslices_IndexFunc___int_int__b : SC := .seq (.reg sslices_IndexFunc___int_int__r0) (.seq (.seq (.reg sslices_IndexFunc___int_int__r1) (.block 0 (.loop (.seq (.reg sslices_IndexFunc___int_int__r2) (.seq (.cond 6 (.skip) (.exit 0)) (.seq (.block 1 (.seq (.reg sslices_IndexFunc___int_int__r3) (.seq (.reg sslices_IndexFunc___int_int__r4) (.cond 7 (.seq (.reg sslices_IndexFunc___int_int__r5) (.ret)) (.skip))))) (.reg sslices_IndexFunc___int_int__r6))))))) (.seq (.reg sslices_IndexFunc___int_int__r7) (.ret)))
def sslices_IndexFunc___int_int_ : SFn := { nslots := 8, nobjs := 0, params := [0, 1], ngiven := 0, bor := false, takes := [], body := sslices_IndexFunc___int_int__b, results := [.slot 2] }
def sslices_IndexFunc___int_int__t : List Tmp := [0, 1, 4, 5, 7, 8, 9, 16]
attribute [simp] sslices_IndexFunc___int_int__r0 sslices_IndexFunc___int_int__r1 sslices_IndexFunc___int_int__r2 sslices_IndexFunc___int_int__r3 sslices_IndexFunc___int_int__r4 sslices_IndexFunc___int_int__r5 sslices_IndexFunc___int_int__r6 sslices_IndexFunc___int_int__r7 sslices_IndexFunc___int_int__b sslices_IndexFunc___int_int_
def simpl_areNumbers_1_r0 : Reg :=
  { id := 0, ops := [{ op := .mv (.con (.sc (.bool false))) }], clr := [3] }
def simpl_areNumbers_1_r1 : Reg :=
  { id := 1, ops := [{ op := .mv (.slot 0) },
      { op := .load none (.slot 1) },
      { op := .load none (.slot 2) },
      { op := .call 114 [(false, .loc 0), (false, .loc 1), (false, .loc 2)] [] },
      { op := .un .not (.loc 3) },
      { op := .mv (.loc 4) }], sets := [(3, 5)], clr := [0, 1, 2] }
def simpl_areNumbers_1_b : SC := .seq (.reg simpl_areNumbers_1_r0) (.seq (.reg simpl_areNumbers_1_r1) (.ret))
def simpl_areNumbers_1 : SFn := { nslots := 4, nobjs := 0, params := [0, 1, 2], ngiven := 0, bor := false, takes := [], body := simpl_areNumbers_1_b, results := [.slot 3] }
def simpl_areNumbers_1_t : List Tmp := [0, 1, 2, 4]
attribute [simp] simpl_areNumbers_1_r0 simpl_areNumbers_1_r1 simpl_areNumbers_1_b simpl_areNumbers_1
def sspec_IsBox_r0 : Reg :=
  { id := 0, ops := [{ op := .box 0 (.slot 0) },
      { op := .mv (.con (.sc (.bool false))) }], sets := [(1, 0)], clr := [0, 2] }
def sspec_IsBox_r1 : Reg :=
  { id := 1, ops := [{ op := .fieldAddr (.slot 1) 0 },
      { op := .load none (.loc 0) },
      { op := .call 71 [(false, .loc 1), (false, .con (.sc (.int .i64 0))), (false, .con (.sc (.int .i64 9)))] [] },
      { op := .mv (.loc 2) },
      { op := .fieldAddr (.slot 1) 1, guard := some (3, true) },
      { op := .load none (.loc 4), guard := some (3, true) },
      { op := .len false (.loc 5), guard := some (3, true) },
      { op := .bin .leq (.loc 6) (.con (.sc (.int .i64 6))), guard := some (3, true) },
      { op := .pick (.loc 3) (.loc 7) (.con (.sc (.bool false))) },
      { op := .mv (.loc 8) },
      { op := .fieldAddr (.slot 1) 2, guard := some (9, true) },
      { op := .load none (.loc 10), guard := some (9, true) },
      { op := .len false (.loc 11), guard := some (9, true) },
      { op := .bin .leq (.loc 12) (.con (.sc (.int .i64 6))), guard := some (9, true) },
      { op := .pick (.loc 9) (.loc 13) (.con (.sc (.bool false))) },
      { op := .mv (.loc 14) },
      { op := .fieldAddr (.slot 1) 1, guard := some (15, true) },
      { op := .load none (.loc 16), guard := some (15, true) },
      { op := .call 217 [(false, .loc 17)] [], guard := some (15, true) },
      { op := .pick (.loc 15) (.loc 18) (.con (.sc (.bool false))) },
      { op := .mv (.loc 19) },
      { op := .fieldAddr (.slot 1) 2, guard := some (20, true) },
      { op := .load none (.loc 21), guard := some (20, true) },
      { op := .call 217 [(false, .loc 22)] [], guard := some (20, true) },
      { op := .pick (.loc 20) (.loc 23) (.con (.sc (.bool false))) },
      { op := .mv (.loc 24) }], sets := [(2, 25)], clr := [1] }
def sspec_IsBox_b : SC := .seq (.reg sspec_IsBox_r0) (.seq (.reg sspec_IsBox_r1) (.ret))
def sspec_IsBox : SFn := { nslots := 3, nobjs := 1, params := [0], ngiven := 0, bor := false, takes := [], body := sspec_IsBox_b, results := [.slot 2] }
def sspec_IsBox_t : List Tmp := [0, 1, 2]
attribute [simp] sspec_IsBox_r0 sspec_IsBox_r1 sspec_IsBox_b sspec_IsBox
def simpl_IsBox_r0 : Reg :=
  { id := 0, ops := [{ op := .box 0 (.slot 0) },
      { op := .mv (.con (.sc (.bool false))) }], sets := [(1, 0)], clr := [0, 2] }
def simpl_IsBox_r1 : Reg :=
  { id := 1, ops := [{ op := .fieldAddr (.slot 1) 0 },
      { op := .load none (.loc 0) },
      { op := .call 114 [(false, .loc 1), (false, .con (.sc (.int .i64 0))), (false, .con (.sc (.int .i64 9)))] [] },
      { op := .mv (.loc 2) },
      { op := .fieldAddr (.slot 1) 1, guard := some (3, true) },
      { op := .load none (.loc 4), guard := some (3, true) },
      { op := .len false (.loc 5), guard := some (3, true) },
      { op := .bin .leq (.loc 6) (.con (.sc (.int .i64 6))), guard := some (3, true) },
      { op := .pick (.loc 3) (.loc 7) (.con (.sc (.bool false))) },
      { op := .mv (.loc 8) },
      { op := .fieldAddr (.slot 1) 2, guard := some (9, true) },
      { op := .load none (.loc 10), guard := some (9, true) },
      { op := .len false (.loc 11), guard := some (9, true) },
      { op := .bin .leq (.loc 12) (.con (.sc (.int .i64 6))), guard := some (9, true) },
      { op := .pick (.loc 9) (.loc 13) (.con (.sc (.bool false))) },
      { op := .mv (.loc 14) },
      { op := .fieldAddr (.slot 1) 1, guard := some (15, true) },
      { op := .load none (.loc 16), guard := some (15, true) },
      { op := .call 233 [(false, .loc 17), (false, .con (.sc (.int .i64 0))), (false, .con (.sc (.int .i64 255)))] [], guard := some (15, true) },
      { op := .pick (.loc 15) (.loc 18) (.con (.sc (.bool false))) },
      { op := .mv (.loc 19) },
      { op := .fieldAddr (.slot 1) 2, guard := some (20, true) },
      { op := .load none (.loc 21), guard := some (20, true) },
      { op := .call 233 [(false, .loc 22), (false, .con (.sc (.int .i64 0))), (false, .con (.sc (.int .i64 255)))] [], guard := some (20, true) },
      { op := .pick (.loc 20) (.loc 23) (.con (.sc (.bool false))) },
      { op := .mv (.loc 24) }], sets := [(2, 25)], clr := [1] }
def simpl_IsBox_b : SC := .seq (.reg simpl_IsBox_r0) (.seq (.reg simpl_IsBox_r1) (.ret))
def simpl_IsBox : SFn := { nslots := 3, nobjs := 1, params := [0], ngiven := 0, bor := false, takes := [], body := simpl_IsBox_b, results := [.slot 2] }
def simpl_IsBox_t : List Tmp := [0, 1, 2]
attribute [simp] simpl_IsBox_r0 simpl_IsBox_r1 simpl_IsBox_b simpl_IsBox
def sspec_l9Byte_r0 : Reg :=
  { id := 0, ops := [{ op := .mv (.con (.sc (.bool false))) }], clr := [1] }
def sspec_l9Byte_r1 : Reg :=
  { id := 1, ops := [{ op := .mv (.con (.sc (.int .i64 0))) }], sets := [(2, 0)] }
def sspec_l9Byte_r2 : Reg :=
  { id := 2, ops := [{ op := .mv (.slot 2) },
      { op := .mv (.slot 0) },
      { op := .len false (.loc 1) },
      { op := .bin .lss (.loc 0) (.loc 2) }], sets := [(3, 3)] }
def sspec_l9Byte_r3 : Reg :=
  { id := 4, ops := [{ op := .mv (.slot 0) },
      { op := .mv (.slot 2) },
      { op := .indexAddr 1 (.loc 0) (.loc 1) },
      { op := .load none (.loc 2) },
      { op := .call 71 [(false, .loc 3), (false, .con (.sc (.int .i64 0))), (false, .con (.sc (.int .i64 255)))] [] },
      { op := .un .not (.loc 4) }], sets := [(4, 5)] }
def sspec_l9Byte_r4 : Reg :=
  { id := 5, ops := [{ op := .mv (.con (.sc (.bool false))) }], sets := [(1, 0)], clr := [0, 2] }
def sspec_l9Byte_r5 : Reg :=
  { id := 3, ops := [{ op := .mv (.slot 2) },
      { op := .bin .add (.loc 0) (.con (.sc (.int .i64 1))) },
      { op := .mv (.loc 1) }], sets := [(2, 2)] }
def sspec_l9Byte_r6 : Reg :=
  { id := 6, ops := [{ op := .mv (.con (.sc (.bool true))) }], sets := [(1, 0)], clr := [0, 2] }
def sspec_l9Byte_b : SC := .seq (.reg sspec_l9Byte_r0) (.seq (.seq (.reg sspec_l9Byte_r1) (.block 0 (.loop (.seq (.seq (.reg sspec_l9Byte_r2) (.cond 3 (.skip) (.exit 0))) (.seq (.block 1 (.seq (.reg sspec_l9Byte_r3) (.cond 4 (.seq (.reg sspec_l9Byte_r4) (.ret)) (.skip)))) (.reg sspec_l9Byte_r5)))))) (.seq (.reg sspec_l9Byte_r6) (.ret)))
def sspec_l9Byte : SFn := { nslots := 5, nobjs := 0, params := [0], ngiven := 0, bor := false, takes := [], body := sspec_l9Byte_b, results := [.slot 1] }
def sspec_l9Byte_t : List Tmp := [0, 2, 3, 7, 15]
attribute [simp] sspec_l9Byte_r0 sspec_l9Byte_r1 sspec_l9Byte_r2 sspec_l9Byte_r3 sspec_l9Byte_r4 sspec_l9Byte_r5 sspec_l9Byte_r6 sspec_l9Byte_b sspec_l9Byte
def sspec_PlainHello_r0 : Reg :=
  { id := 0, ops := [{ op := .alloc 0 [.nil 1, .nil 2] }], sets := [(1, 0)] }
def sspec_PlainHello_r1 : Reg :=
  { id := 1, ops := [{ op := .buildSlice 1 1 0 [] },
      { op := .mv (.slot 0) },
      { op := .append 2 1 8 false (.loc 0) (.loc 1) },
      { op := .build [.nil 1, .nil 2] [(0, 1, .loc 2)] },
      { op := .store 2 (.slot 1) (.loc 3) }], clr := [0] }
def sspec_PlainHello_b : SC := .seq (.reg sspec_PlainHello_r0) (.seq (.reg sspec_PlainHello_r1) (.ret))
def sspec_PlainHello : SFn := { nslots := 2, nobjs := 3, params := [0], ngiven := 0, bor := false, takes := [], body := sspec_PlainHello_b, results := [.cell 1 (some 2)] }
def sspec_PlainHello_t : List Tmp := [0, 2]
attribute [simp] sspec_PlainHello_r0 sspec_PlainHello_r1 sspec_PlainHello_b sspec_PlainHello
def sspec_PassBox_r0 : Reg :=
  { id := 0, ops := [{ op := .box 0 (.slot 0) },
      { op := .box 1 (.slot 1) },
      { op := .alloc 2 [.nil 1, .nil 2] },
      { op := .mv (.con (.sc (.bool false))) }], sets := [(2, 0), (3, 1), (4, 2)], clr := [0, 1, 5] }
def sspec_PassBox_r1 : Reg :=
  { id := 1, draw := true, ops := [{ op := .load (some 4) (.slot 2), tau := some [0], om := [] },
      { op := .call 152 [(false, .loc 0)] [], tau := some [], om := [] },
      { op := .un .not (.loc 1), tau := some [], om := [] },
      { op := .mv (.loc 2), tau := some [], om := [] },
      { op := .load (some 2) (.slot 3), guard := some (3, false), tau := some [1], om := [] },
      { op := .call 285 [(false, .loc 4)] [], guard := some (3, false), tau := some [], om := [] },
      { op := .un .not (.loc 5), guard := some (3, false), tau := some [], om := [] },
      { op := .pick (.loc 3) (.con (.sc (.bool true))) (.loc 6), tau := some [], om := [] },
      { op := .mv (.loc 7), tau := some [], om := [] },
      { op := .fieldAddr (.slot 2) 0, guard := some (8, false), tau := some [], om := [] },
      { op := .load none (.loc 9), guard := some (8, false), tau := some [0], om := [] },
      { op := .bin .gtr (.loc 10) (.con (.sc (.int .i64 0))), guard := some (8, false), tau := some [], om := [] },
      { op := .mv (.loc 11), guard := some (8, false), tau := some [], om := [] },
      { op := .fieldAddr (.slot 3) 0, guard := some (12, true), tau := some [], om := [] },
      { op := .load none (.loc 13), guard := some (12, true), tau := some [1], om := [] },
      { op := .fieldAddr (.slot 3) 0, guard := some (12, true), tau := some [], om := [] },
      { op := .load none (.loc 15), guard := some (12, true), tau := some [1], om := [] },
      { op := .len false (.loc 16), guard := some (12, true), tau := some [], om := [] },
      { op := .bin .sub (.loc 17) (.con (.sc (.int .i64 1))), guard := some (12, true), tau := some [], om := [] },
      { op := .indexAddr 1 (.loc 14) (.loc 18), guard := some (12, true), tau := some [], om := [] },
      { op := .load none (.loc 19), guard := some (12, true), tau := some [], om := [] },
      { op := .fieldAddr (.slot 2) 0, guard := some (12, true), tau := some [], om := [] },
      { op := .load none (.loc 21), guard := some (12, true), tau := some [0], om := [] },
      { op := .bin .gtr (.loc 20) (.loc 22), guard := some (12, true), tau := some [], om := [] },
      { op := .pick (.loc 12) (.loc 23) (.con (.sc (.bool false))), guard := some (8, false), tau := some [], om := [] },
      { op := .pick (.loc 8) (.con (.sc (.bool true))) (.loc 24), tau := some [], om := [] }], sets := [(10, 25)] }
def sspec_PassBox_r2 : Reg :=
  { id := 2, ops := [{ op := .build [.nil 1, .nil 2] [] },
      { op := .store 2 (.slot 4) (.loc 0) },
      { op := .mv (.con (.sc (.bool false))) }], sets := [(5, 2)], clr := [2, 3] }
def sspec_PassBox_r3 : Reg :=
  { id := 3, ops := [{ op := .buildSlice 3 1 0 [] },
      { op := .fieldAddr (.slot 3) 0 },
      { op := .load none (.loc 1) },
      { op := .append 4 1 8 false (.loc 0) (.loc 2) },
      { op := .build [.nil 1, .nil 2] [(0, 1, .loc 3)] },
      { op := .alloc 5 [.nil 1, .nil 2] },
      { op := .store 2 (.loc 5) (.loc 4) }], sets := [(6, 5)], ghosts := [.ownc 5 1 10] }
def sspec_PassBox_r4 : Reg :=
  { id := 4, ops := [{ op := .mv (.con (.sc (.int .i64 0))) }], sets := [(7, 0)] }
def sspec_PassBox_r5 : Reg :=
  { id := 5, ops := [{ op := .mv (.slot 7) },
      { op := .fieldAddr (.slot 3) 1 },
      { op := .load none (.loc 1) },
      { op := .len false (.loc 2) },
      { op := .bin .lss (.loc 0) (.loc 3) }], sets := [(11, 4)] }
def sspec_PassBox_r6 : Reg :=
  { id := 7, ops := [{ op := .fieldAddr (.slot 3) 1 },
      { op := .load none (.loc 0) },
      { op := .mv (.slot 7) },
      { op := .indexAddr 2 (.loc 1) (.loc 2) },
      { op := .fieldAddr (.loc 3) 0 },
      { op := .load none (.loc 4) },
      { op := .mv (.loc 5) }], sets := [(8, 6)] }
def sspec_PassBox_r7 : Reg :=
  { id := 8, ops := [{ op := .fieldAddr (.slot 2) 2 },
      { op := .load none (.loc 0) },
      { op := .mv (.slot 8) },
      { op := .call 166 [(false, .loc 1), (false, .loc 2)] [] },
      { op := .mv (.loc 3) }], sets := [(9, 4)] }
def sspec_PassBox_r8 : Reg :=
  { id := 9, ops := [{ op := .fieldAddr (.slot 2) 1 },
      { op := .load none (.loc 0) },
      { op := .mv (.slot 8) },
      { op := .call 166 [(false, .loc 1), (false, .loc 2)] [] },
      { op := .mv (.loc 3) },
      { op := .fieldAddr (.slot 2) 3, guard := some (4, false) },
      { op := .load none (.loc 5), guard := some (4, false) },
      { op := .mv (.loc 6), guard := some (4, false) },
      { op := .mv (.slot 9), guard := some (7, true) },
      { op := .un .not (.loc 8), guard := some (7, true) },
      { op := .pick (.loc 7) (.loc 9) (.con (.sc (.bool false))), guard := some (4, false) },
      { op := .mv (.loc 10), guard := some (4, false) },
      { op := .mv (.slot 8), guard := some (11, true) },
      { op := .call 71 [(false, .loc 12), (false, .con (.sc (.int .i64 1))), (false, .con (.sc (.int .i64 3)))] [], guard := some (11, true) },
      { op := .un .not (.loc 13), guard := some (11, true) },
      { op := .pick (.loc 11) (.loc 14) (.con (.sc (.bool false))), guard := some (4, false) },
      { op := .pick (.loc 4) (.con (.sc (.bool true))) (.loc 15) }], sets := [(12, 16)] }
def sspec_PassBox_r9 : Reg :=
  { id := 10, ops := [{ op := .build [.nil 1, .nil 2] [] },
      { op := .store 2 (.slot 4) (.loc 0) },
      { op := .mv (.con (.sc (.bool false))) }], sets := [(5, 2)], clr := [2, 3, 6, 7, 8, 9] }
def sspec_PassBox_r10 : Reg :=
  { id := 11, ops := [{ op := .mv (.slot 9) },
      { op := .un .not (.loc 0) }], sets := [(13, 1)], clr := [9] }
def sspec_PassBox_r11 : Reg :=
  { id := 12, draw := true, fresh := [6, 7, 8, 9], ops := [{ op := .fieldAddr (.slot 6) 1, tau := some [], om := [] },
      { op := .load none (.loc 0), tau := some [5], om := [] },
      { op := .mv (.slot 8), tau := some [], om := [] },
      { op := .buildSlice 6 1 0 [], tau := some [6], om := [6] },
      { op := .fieldAddr (.slot 3) 1, tau := some [], om := [] },
      { op := .load none (.loc 4), tau := some [1], om := [] },
      { op := .mv (.slot 7), tau := some [], om := [] },
      { op := .indexAddr 2 (.loc 5) (.loc 6), tau := some [], om := [] },
      { op := .fieldAddr (.loc 7) 1, tau := some [], om := [] },
      { op := .load none (.loc 8), tau := some [], om := [] },
      { op := .append 7 1 8 false (.loc 3) (.loc 9), tau := some [6, 7], om := [6, 7] },
      { op := .build [.sc (.int .i64 0), .nil 1] [(0, 1, .loc 2), (1, 1, .loc 10)], tau := some [], om := [] },
      { op := .buildSlice 8 2 1 [.loc 11], tau := some [7, 8], om := [7, 8] },
      { op := .append 9 2 32 true (.loc 1) (.loc 12), tau := some [8, 9, 10], om := [8, 9, 10] },
      { op := .fieldAddr (.slot 6) 1, tau := some [], om := [] },
      { op := .store 1 (.loc 14) (.loc 13), tau := some [5], om := [5] }], ghosts := [.ren 9 10], clr := [8] }
def sspec_PassBox_r12 : Reg :=
  { id := 6, ops := [{ op := .mv (.slot 7) },
      { op := .bin .add (.loc 0) (.con (.sc (.int .i64 1))) },
      { op := .mv (.loc 1) }], sets := [(7, 2)] }
def sspec_PassBox_r13 : Reg :=
  { id := 13, ops := [{ op := .load (some 2) (.slot 6) },
      { op := .store 2 (.slot 4) (.loc 0) },
      { op := .mv (.con (.sc (.bool true))) }], sets := [(5, 2)], clr := [2, 3, 6, 7] }
def sspec_PassBox_b : SC := .seq (.reg sspec_PassBox_r0) (.seq (.seq (.reg sspec_PassBox_r1) (.cond 10 (.seq (.reg sspec_PassBox_r2) (.ret)) (.skip))) (.seq (.reg sspec_PassBox_r3) (.seq (.seq (.reg sspec_PassBox_r4) (.block 0 (.loop (.seq (.seq (.reg sspec_PassBox_r5) (.cond 11 (.skip) (.exit 0))) (.seq (.block 1 (.seq (.reg sspec_PassBox_r6) (.seq (.reg sspec_PassBox_r7) (.seq (.seq (.reg sspec_PassBox_r8) (.cond 12 (.seq (.reg sspec_PassBox_r9) (.ret)) (.skip))) (.seq (.reg sspec_PassBox_r10) (.cond 13 (.reg sspec_PassBox_r11) (.skip))))))) (.reg sspec_PassBox_r12)))))) (.seq (.reg sspec_PassBox_r13) (.ret)))))
def sspec_PassBox : SFn := { nslots := 14, nobjs := 11, params := [0, 1], ngiven := 0, bor := false, takes := [], body := sspec_PassBox_b, results := [.cell 4 (some 2), .slot 5] }
def sspec_PassBox_t : List Tmp := [0, 1, 2, 3, 4, 5, 6, 7, 8, 9, 35, 46, 75, 78]
attribute [simp] sspec_PassBox_r0 sspec_PassBox_r1 sspec_PassBox_r2 sspec_PassBox_r3 sspec_PassBox_r4 sspec_PassBox_r5 sspec_PassBox_r6 sspec_PassBox_r7 sspec_PassBox_r8 sspec_PassBox_r9 sspec_PassBox_r10 sspec_PassBox_r11 sspec_PassBox_r12 sspec_PassBox_r13 sspec_PassBox_b sspec_PassBox
def simpl_PassBox_r0 : Reg :=
  { id := 0, ops := [{ op := .box 0 (.slot 0) },
      { op := .box 1 (.slot 1) },
      { op := .alloc 2 [.nil 1, .nil 2] },
      { op := .mv (.con (.sc (.bool false))) }], sets := [(2, 0), (3, 1), (4, 2)], clr := [0, 1, 5] }
def simpl_PassBox_r1 : Reg :=
  { id := 1, ops := [{ op := .load (some 4) (.slot 2) },
      { op := .call 183 [(false, .loc 0)] [] },
      { op := .un .not (.loc 1) },
      { op := .mv (.loc 2) },
      { op := .load (some 2) (.slot 3), guard := some (3, false) },
      { op := .call 292 [(false, .loc 4)] [], guard := some (3, false) },
      { op := .un .not (.loc 5), guard := some (3, false) },
      { op := .pick (.loc 3) (.con (.sc (.bool true))) (.loc 6) },
      { op := .mv (.loc 7) },
      { op := .load (some 4) (.slot 2), guard := some (8, false) },
      { op := .load (some 2) (.slot 3), guard := some (8, false) },
      { op := .call 295 [(false, .loc 9), (false, .loc 10)] [], guard := some (8, false) },
      { op := .pick (.loc 8) (.con (.sc (.bool true))) (.loc 11) }], sets := [(6, 12)] }
def simpl_PassBox_r2 : Reg :=
  { id := 2, ops := [{ op := .build [.nil 1, .nil 2] [] },
      { op := .store 2 (.slot 4) (.loc 0) },
      { op := .mv (.con (.sc (.bool false))) }], sets := [(5, 2)], clr := [2, 3] }
def simpl_PassBox_r3 : Reg :=
  { id := 3, draw := true, ops := [{ op := .fieldAddr (.slot 3) 0, tau := some [], om := [] },
      { op := .load none (.loc 0), tau := some [1], om := [] },
      { op := .call 296 [(false, .loc 1)] [3], tau := some [3], om := [3] },
      { op := .fieldAddr (.slot 3) 1, tau := some [], om := [] },
      { op := .load none (.loc 3), tau := some [1], om := [] },
      { op := .makeFunc 297 [.slot 2], tau := some [], om := [] },
      { op := .call 298 [(false, .loc 4), (false, .loc 5)] [4], tau := some [0, 4], om := [4] },
      { op := .build [.nil 1, .nil 2] [(0, 1, .loc 2), (1, 1, .loc 6)], tau := some [], om := [] },
      { op := .store 2 (.slot 4) (.loc 7), tau := some [2], om := [2] },
      { op := .mv (.con (.sc (.bool true))), tau := some [], om := [] }], sets := [(5, 9)], clr := [2, 3] }
def simpl_PassBox_b : SC := .seq (.reg simpl_PassBox_r0) (.seq (.seq (.reg simpl_PassBox_r1) (.cond 6 (.seq (.reg simpl_PassBox_r2) (.ret)) (.skip))) (.seq (.reg simpl_PassBox_r3) (.ret)))
def simpl_PassBox : SFn := { nslots := 7, nobjs := 5, params := [0, 1], ngiven := 0, bor := false, takes := [], body := simpl_PassBox_b, results := [.cell 4 (some 2), .slot 5] }
def simpl_PassBox_t : List Tmp := [0, 1, 2, 3, 4, 5, 18]
attribute [simp] simpl_PassBox_r0 simpl_PassBox_r1 simpl_PassBox_r2 simpl_PassBox_r3 simpl_PassBox_b simpl_PassBox
def sspec_IsHello_r0 : Reg :=
  { id := 0, ops := [{ op := .box 0 (.slot 0) },
      { op := .mv (.con (.sc (.bool false))) }], sets := [(1, 0)], clr := [0, 2] }
def sspec_IsHello_r1 : Reg :=
  { id := 1, ops := [{ op := .fieldAddr (.slot 1) 0 },
      { op := .load none (.loc 0) },
      { op := .call 208 [(false, .loc 1)] [] },
      { op := .mv (.loc 2) },
      { op := .fieldAddr (.slot 1) 1, guard := some (3, true) },
      { op := .load none (.loc 4), guard := some (3, true) },
      { op := .call 312 [(false, .loc 5)] [], guard := some (3, true) },
      { op := .pick (.loc 3) (.loc 6) (.con (.sc (.bool false))) },
      { op := .mv (.loc 7) }], sets := [(2, 8)], clr := [1] }
def sspec_IsHello_b : SC := .seq (.reg sspec_IsHello_r0) (.seq (.reg sspec_IsHello_r1) (.ret))
def sspec_IsHello : SFn := { nslots := 3, nobjs := 1, params := [0], ngiven := 0, bor := false, takes := [], body := sspec_IsHello_b, results := [.slot 2] }
def sspec_IsHello_t : List Tmp := [0, 1, 2]
attribute [simp] sspec_IsHello_r0 sspec_IsHello_r1 sspec_IsHello_b sspec_IsHello
def simpl_IsHello_r0 : Reg :=
  { id := 0, ops := [{ op := .box 0 (.slot 0) },
      { op := .mv (.con (.sc (.bool false))) }], sets := [(1, 0)], clr := [0, 2] }
def simpl_IsHello_r1 : Reg :=
  { id := 1, ops := [{ op := .fieldAddr (.slot 1) 0 },
      { op := .load none (.loc 0) },
      { op := .call 232 [(false, .loc 1)] [] },
      { op := .mv (.loc 2) },
      { op := .fieldAddr (.slot 1) 1, guard := some (3, true) },
      { op := .load none (.loc 4), guard := some (3, true) },
      { op := .call 320 [(false, .loc 5)] [], guard := some (3, true) },
      { op := .pick (.loc 3) (.loc 6) (.con (.sc (.bool false))) },
      { op := .mv (.loc 7) }], sets := [(2, 8)], clr := [1] }
def simpl_IsHello_b : SC := .seq (.reg simpl_IsHello_r0) (.seq (.reg simpl_IsHello_r1) (.ret))
def simpl_IsHello : SFn := { nslots := 3, nobjs := 1, params := [0], ngiven := 0, bor := false, takes := [], body := simpl_IsHello_b, results := [.slot 2] }
def simpl_IsHello_t : List Tmp := [0, 1, 2]
attribute [simp] simpl_IsHello_r0 simpl_IsHello_r1 simpl_IsHello_b simpl_IsHello
def simpl_loses_r0 : Reg :=
  { id := 0, ops := [{ op := .box 0 (.slot 0) },
      { op := .box 1 (.slot 1) },
      { op := .mv (.con (.sc (.bool false))) }], sets := [(2, 0), (3, 1)], clr := [0, 1, 4] }
def simpl_loses_r1 : Reg :=
  { id := 1, draw := true, ops := [{ op := .fieldAddr (.slot 2) 0, tau := some [], om := [] },
      { op := .load none (.loc 0), tau := some [0], om := [] },
      { op := .bin .neq (.loc 1) (.con (.sc (.int .i64 0))), tau := some [], om := [] },
      { op := .mv (.loc 2), tau := some [], om := [] },
      { op := .fieldAddr (.slot 3) 0, guard := some (3, true), tau := some [], om := [] },
      { op := .load none (.loc 4), guard := some (3, true), tau := some [1], om := [] },
      { op := .call 325 [(false, .loc 5)] [], guard := some (3, true), tau := some [], om := [] },
      { op := .fieldAddr (.slot 2) 0, guard := some (3, true), tau := some [], om := [] },
      { op := .load none (.loc 7), guard := some (3, true), tau := some [0], om := [] },
      { op := .bin .gtr (.loc 6) (.loc 8), guard := some (3, true), tau := some [], om := [] },
      { op := .pick (.loc 3) (.loc 9) (.con (.sc (.bool false))), tau := some [], om := [] }], sets := [(5, 10)] }
def simpl_loses_r2 : Reg :=
  { id := 2, ops := [{ op := .mv (.con (.sc (.bool true))) }], sets := [(4, 0)], clr := [2, 3] }
def simpl_loses_r3 : Reg :=
  { id := 3, ops := [{ op := .fieldAddr (.slot 3) 1 },
      { op := .load none (.loc 0) },
      { op := .makeFunc 326 [.slot 2] },
      { op := .call 327 [(false, .loc 1), (false, .loc 2)] [] },
      { op := .mv (.loc 3) }], sets := [(4, 4)], clr := [2, 3] }
def simpl_loses_b : SC := .seq (.reg simpl_loses_r0) (.seq (.seq (.reg simpl_loses_r1) (.cond 5 (.seq (.reg simpl_loses_r2) (.ret)) (.skip))) (.seq (.reg simpl_loses_r3) (.ret)))
def simpl_loses : SFn := { nslots := 6, nobjs := 2, params := [0, 1], ngiven := 0, bor := false, takes := [], body := simpl_loses_b, results := [.slot 4] }
def simpl_loses_t : List Tmp := [0, 1, 2, 3, 4, 15]
attribute [simp] simpl_loses_r0 simpl_loses_r1 simpl_loses_r2 simpl_loses_r3 simpl_loses_b simpl_loses
def simpl_keptExts_r0 : Reg :=
  { id := 0, ops := [{ op := .mv (.con (.nil 2)) }], clr := [2] }
def simpl_keptExts_r1 : Reg :=
  { id := 1, ops := [{ op := .buildSlice 0 2 0 [] },
      { op := .mv (.loc 0) }], sets := [(3, 1)], ghosts := [.ren 0 6] }
def simpl_keptExts_r2 : Reg :=
  { id := 2, ops := [{ op := .mv (.slot 0) },
      { op := .len false (.loc 0) },
      { op := .mv (.con (.sc (.int .i64 0))) }], sets := [(5, 0), (6, 1), (7, 2)], clr := [0] }
def simpl_keptExts_r3 : Reg :=
  { id := 3, ops := [{ op := .bin .lss (.slot 7) (.slot 6) }], sets := [(8, 0)] }
def simpl_keptExts_r4 : Reg :=
  { id := 4, fresh := [1], ops := [{ op := .indexAddr 2 (.slot 5) (.slot 7) },
      { op := .load (some 2) (.loc 0) },
      { op := .alloc 1 [.sc (.int .i64 0), .nil 1] },
      { op := .store 2 (.loc 2) (.loc 1) }], sets := [(4, 2)] }
def simpl_keptExts_r5 : Reg :=
  { id := 5, ops := [{ op := .mv (.slot 1) },
      { op := .fieldAddr (.slot 4) 0 },
      { op := .load none (.loc 1) },
      { op := .callv (.loc 0) [(false, .loc 2)] [] }], sets := [(9, 3)] }
def simpl_keptExts_r6 : Reg :=
  { id := 6, draw := true, fresh := [2, 3, 4, 5], ops := [{ op := .mv (.slot 3), tau := some [], om := [] },
      { op := .fieldAddr (.slot 4) 0, tau := some [], om := [] },
      { op := .load none (.loc 1), tau := some [1], om := [] },
      { op := .buildSlice 2 1 0 [], tau := some [2], om := [2] },
      { op := .fieldAddr (.slot 4) 1, tau := some [], om := [] },
      { op := .load none (.loc 4), tau := some [1], om := [] },
      { op := .append 3 1 8 false (.loc 3) (.loc 5), tau := some [2, 3], om := [2, 3] },
      { op := .build [.sc (.int .i64 0), .nil 1] [(0, 1, .loc 2), (1, 1, .loc 6)], tau := some [], om := [] },
      { op := .buildSlice 4 2 1 [.loc 7], tau := some [3, 4], om := [3, 4] },
      { op := .append 5 2 32 true (.loc 0) (.loc 8), tau := some [4, 5, 6], om := [4, 5, 6] },
      { op := .mv (.loc 9), tau := some [], om := [] }], sets := [(3, 10)], ghosts := [.ren 5 6], clr := [4] }
def simpl_keptExts_r7 : Reg :=
  { id := 7, ops := [{ op := .bin .add (.slot 7) (.con (.sc (.int .i64 1))) },
      { op := .mv (.loc 0) }], sets := [(7, 1)] }
def simpl_keptExts_r8 : Reg :=
  { id := 8, ops := [{ op := .mv (.slot 3) },
      { op := .mv (.loc 0) }], sets := [(2, 1)], clr := [1, 3, 5, 6, 7] }
def simpl_keptExts_b : SC := .seq (.reg simpl_keptExts_r0) (.seq (.reg simpl_keptExts_r1) (.seq (.seq (.reg simpl_keptExts_r2) (.block 0 (.loop (.seq (.reg simpl_keptExts_r3) (.seq (.cond 8 (.skip) (.exit 0)) (.seq (.block 1 (.seq (.reg simpl_keptExts_r4) (.seq (.reg simpl_keptExts_r5) (.cond 9 (.reg simpl_keptExts_r6) (.skip))))) (.reg simpl_keptExts_r7))))))) (.seq (.reg simpl_keptExts_r8) (.ret))))
def simpl_keptExts : SFn := { nslots := 10, nobjs := 7, params := [0, 1], ngiven := 0, bor := false, takes := [], body := simpl_keptExts_b, results := [.slot 2] }
def simpl_keptExts_t : List Tmp := [0, 1, 4, 5, 7, 9, 10, 11, 12, 18]
attribute [simp] simpl_keptExts_r0 simpl_keptExts_r1 simpl_keptExts_r2 simpl_keptExts_r3 simpl_keptExts_r4 simpl_keptExts_r5 simpl_keptExts_r6 simpl_keptExts_r7 simpl_keptExts_r8 simpl_keptExts_b simpl_keptExts
def simpl_PassBox_1_r0 : Reg :=
  { id := 0, ops := [{ op := .mv (.con (.sc (.bool false))) }], clr := [2] }
def simpl_PassBox_1_r1 : Reg :=
  { id := 1, ops := [{ op := .fieldAddr (.slot 1) 2 },
      { op := .load none (.loc 0) },
      { op := .mv (.slot 0) },
      { op := .call 188 [(false, .loc 1), (false, .loc 2)] [] },
      { op := .un .not (.loc 3) },
      { op := .mv (.loc 4) }], sets := [(2, 5)], clr := [0, 1] }
def simpl_PassBox_1_b : SC := .seq (.reg simpl_PassBox_1_r0) (.seq (.reg simpl_PassBox_1_r1) (.ret))
def simpl_PassBox_1 : SFn := { nslots := 3, nobjs := 0, params := [0, 1], ngiven := 0, bor := false, takes := [], body := simpl_PassBox_1_b, results := [.slot 2] }
def simpl_PassBox_1_t : List Tmp := [0, 1, 3]
attribute [simp] simpl_PassBox_1_r0 simpl_PassBox_1_r1 simpl_PassBox_1_b simpl_PassBox_1
def sspec_AreVersions_r0 : Reg :=
  { id := 0, ops := [{ op := .mv (.con (.sc (.bool false))) }], clr := [1] }
def sspec_AreVersions_r1 : Reg :=
  { id := 1, ops := [{ op := .mv (.con (.sc (.int .i64 0))) }], sets := [(2, 0)] }
def sspec_AreVersions_r2 : Reg :=
  { id := 2, ops := [{ op := .mv (.slot 2) },
      { op := .mv (.slot 0) },
      { op := .len false (.loc 1) },
      { op := .bin .lss (.loc 0) (.loc 2) }], sets := [(3, 3)] }
def sspec_AreVersions_r3 : Reg :=
  { id := 4, draw := true, ops := [{ op := .mv (.slot 0), tau := some [], om := [] },
      { op := .mv (.slot 2), tau := some [], om := [] },
      { op := .indexAddr 1 (.loc 0) (.loc 1), tau := some [], om := [] },
      { op := .load none (.loc 2), tau := some [], om := [] },
      { op := .call 71 [(false, .loc 3), (false, .con (.sc (.int .i64 1))), (false, .con (.sc (.int .i64 9)))] [], tau := some [], om := [] },
      { op := .un .not (.loc 4), tau := some [], om := [] },
      { op := .mv (.loc 5), tau := some [], om := [] },
      { op := .mv (.slot 2), guard := some (6, false), tau := some [], om := [] },
      { op := .bin .gtr (.loc 7) (.con (.sc (.int .i64 0))), guard := some (6, false), tau := some [], om := [] },
      { op := .mv (.loc 8), guard := some (6, false), tau := some [], om := [] },
      { op := .mv (.slot 0), guard := some (9, true), tau := some [], om := [] },
      { op := .mv (.slot 2), guard := some (9, true), tau := some [], om := [] },
      { op := .bin .sub (.loc 11) (.con (.sc (.int .i64 1))), guard := some (9, true), tau := some [], om := [] },
      { op := .indexAddr 1 (.loc 10) (.loc 12), guard := some (9, true), tau := some [], om := [] },
      { op := .load none (.loc 13), guard := some (9, true), tau := some [], om := [] },
      { op := .mv (.slot 0), guard := some (9, true), tau := some [], om := [] },
      { op := .mv (.slot 2), guard := some (9, true), tau := some [], om := [] },
      { op := .indexAddr 1 (.loc 15) (.loc 16), guard := some (9, true), tau := some [], om := [] },
      { op := .load none (.loc 17), guard := some (9, true), tau := some [], om := [] },
      { op := .bin .geq (.loc 14) (.loc 18), guard := some (9, true), tau := some [], om := [] },
      { op := .pick (.loc 9) (.loc 19) (.con (.sc (.bool false))), guard := some (6, false), tau := some [], om := [] },
      { op := .pick (.loc 6) (.con (.sc (.bool true))) (.loc 20), tau := some [], om := [] }], sets := [(4, 21)] }
def sspec_AreVersions_r4 : Reg :=
  { id := 5, ops := [{ op := .mv (.con (.sc (.bool false))) }], sets := [(1, 0)], clr := [0, 2] }
def sspec_AreVersions_r5 : Reg :=
  { id := 3, ops := [{ op := .mv (.slot 2) },
      { op := .bin .add (.loc 0) (.con (.sc (.int .i64 1))) },
      { op := .mv (.loc 1) }], sets := [(2, 2)] }
def sspec_AreVersions_r6 : Reg :=
  { id := 6, ops := [{ op := .mv (.slot 0) },
      { op := .len false (.loc 0) },
      { op := .bin .gtr (.loc 1) (.con (.sc (.int .i64 0))) },
      { op := .mv (.loc 2) }], sets := [(1, 3)], clr := [0, 2] }
def sspec_AreVersions_b : SC := .seq (.reg sspec_AreVersions_r0) (.seq (.seq (.reg sspec_AreVersions_r1) (.block 0 (.loop (.seq (.seq (.reg sspec_AreVersions_r2) (.cond 3 (.skip) (.exit 0))) (.seq (.block 1 (.seq (.reg sspec_AreVersions_r3) (.cond 4 (.seq (.reg sspec_AreVersions_r4) (.ret)) (.skip)))) (.reg sspec_AreVersions_r5)))))) (.seq (.reg sspec_AreVersions_r6) (.ret)))
def sspec_AreVersions : SFn := { nslots := 5, nobjs := 0, params := [0], ngiven := 0, bor := false, takes := [], body := sspec_AreVersions_b, results := [.slot 1] }
def sspec_AreVersions_t : List Tmp := [0, 2, 3, 7, 31]
attribute [simp] sspec_AreVersions_r0 sspec_AreVersions_r1 sspec_AreVersions_r2 sspec_AreVersions_r3 sspec_AreVersions_r4 sspec_AreVersions_r5 sspec_AreVersions_r6 sspec_AreVersions_b sspec_AreVersions
def sspec_AreExts_r0 : Reg :=
  { id := 0, ops := [{ op := .mv (.con (.sc (.bool false))) }], clr := [1] }
def sspec_AreExts_r1 : Reg :=
  { id := 1, ops := [{ op := .mv (.con (.sc (.int .i64 0))) }], sets := [(2, 0)] }
def sspec_AreExts_r2 : Reg :=
  { id := 2, ops := [{ op := .mv (.slot 2) },
      { op := .mv (.slot 0) },
      { op := .len false (.loc 1) },
      { op := .bin .lss (.loc 0) (.loc 2) }], sets := [(3, 3)] }
def sspec_AreExts_r3 : Reg :=
  { id := 4, ops := [{ op := .mv (.slot 0) },
      { op := .mv (.slot 2) },
      { op := .indexAddr 2 (.loc 0) (.loc 1) },
      { op := .fieldAddr (.loc 2) 0 },
      { op := .load none (.loc 3) },
      { op := .call 71 [(false, .loc 4), (false, .con (.sc (.int .i64 0))), (false, .con (.sc (.int .i64 255)))] [] },
      { op := .un .not (.loc 5) },
      { op := .mv (.loc 6) },
      { op := .mv (.slot 0), guard := some (7, false) },
      { op := .mv (.slot 2), guard := some (7, false) },
      { op := .indexAddr 2 (.loc 8) (.loc 9), guard := some (7, false) },
      { op := .fieldAddr (.loc 10) 1, guard := some (7, false) },
      { op := .load none (.loc 11), guard := some (7, false) },
      { op := .len false (.loc 12), guard := some (7, false) },
      { op := .bin .gtr (.loc 13) (.con (.sc (.int .i64 4))), guard := some (7, false) },
      { op := .pick (.loc 7) (.con (.sc (.bool true))) (.loc 14) },
      { op := .mv (.loc 15) },
      { op := .mv (.slot 0), guard := some (16, false) },
      { op := .mv (.slot 2), guard := some (16, false) },
      { op := .indexAddr 2 (.loc 17) (.loc 18), guard := some (16, false) },
      { op := .fieldAddr (.loc 19) 1, guard := some (16, false) },
      { op := .load none (.loc 20), guard := some (16, false) },
      { op := .call 217 [(false, .loc 21)] [], guard := some (16, false) },
      { op := .un .not (.loc 22), guard := some (16, false) },
      { op := .pick (.loc 16) (.con (.sc (.bool true))) (.loc 23) },
      { op := .mv (.loc 24) },
      { op := .mv (.slot 0), guard := some (25, false) },
      { op := .mv (.slot 0), guard := some (25, false) },
      { op := .mv (.slot 2), guard := some (25, false) },
      { op := .indexAddr 2 (.loc 27) (.loc 28), guard := some (25, false) },
      { op := .fieldAddr (.loc 29) 0, guard := some (25, false) },
      { op := .load none (.loc 30), guard := some (25, false) },
      { op := .call 309 [(false, .loc 26), (false, .loc 31)] [], guard := some (25, false) },
      { op := .mv (.slot 2), guard := some (25, false) },
      { op := .bin .lss (.loc 32) (.loc 33), guard := some (25, false) },
      { op := .pick (.loc 25) (.con (.sc (.bool true))) (.loc 34) }], sets := [(4, 35)] }
def sspec_AreExts_r4 : Reg :=
  { id := 5, ops := [{ op := .mv (.con (.sc (.bool false))) }], sets := [(1, 0)], clr := [0, 2] }
def sspec_AreExts_r5 : Reg :=
  { id := 3, ops := [{ op := .mv (.slot 2) },
      { op := .bin .add (.loc 0) (.con (.sc (.int .i64 1))) },
      { op := .mv (.loc 1) }], sets := [(2, 2)] }
def sspec_AreExts_r6 : Reg :=
  { id := 6, ops := [{ op := .mv (.slot 0) },
      { op := .len false (.loc 0) },
      { op := .bin .leq (.loc 1) (.con (.sc (.int .i64 6))) },
      { op := .mv (.loc 2) }], sets := [(1, 3)], clr := [0, 2] }
def sspec_AreExts_b : SC := .seq (.reg sspec_AreExts_r0) (.seq (.seq (.reg sspec_AreExts_r1) (.block 0 (.loop (.seq (.seq (.reg sspec_AreExts_r2) (.cond 3 (.skip) (.exit 0))) (.seq (.block 1 (.seq (.reg sspec_AreExts_r3) (.cond 4 (.seq (.reg sspec_AreExts_r4) (.ret)) (.skip)))) (.reg sspec_AreExts_r5)))))) (.seq (.reg sspec_AreExts_r6) (.ret)))
def sspec_AreExts : SFn := { nslots := 5, nobjs := 0, params := [0], ngiven := 0, bor := false, takes := [], body := sspec_AreExts_b, results := [.slot 1] }
def sspec_AreExts_t : List Tmp := [0, 2, 3, 7, 45]
attribute [simp] sspec_AreExts_r0 sspec_AreExts_r1 sspec_AreExts_r2 sspec_AreExts_r3 sspec_AreExts_r4 sspec_AreExts_r5 sspec_AreExts_r6 sspec_AreExts_b sspec_AreExts
def simpl_AreVersions_r0 : Reg :=
  { id := 0, ops := [{ op := .mv (.con (.sc (.bool false))) }], clr := [1] }
def simpl_AreVersions_r1 : Reg :=
  { id := 1, ops := [{ op := .mv (.slot 0) },
      { op := .len false (.loc 0) },
      { op := .mv (.con (.sc (.int .i64 0))) }], sets := [(4, 0), (5, 1), (6, 2)] }
def simpl_AreVersions_r2 : Reg :=
  { id := 2, ops := [{ op := .bin .lss (.slot 6) (.slot 5) }], sets := [(7, 0)] }
def simpl_AreVersions_r3 : Reg :=
  { id := 3, ops := [{ op := .mv (.slot 6) },
      { op := .indexAddr 1 (.slot 4) (.slot 6) },
      { op := .load none (.loc 1) },
      { op := .mv (.loc 0) },
      { op := .mv (.loc 2) }], sets := [(2, 3), (3, 4)] }
def simpl_AreVersions_r4 : Reg :=
  { id := 4, ops := [{ op := .mv (.slot 3) },
      { op := .call 114 [(false, .loc 0), (false, .con (.sc (.int .i64 1))), (false, .con (.sc (.int .i64 9)))] [] },
      { op := .un .not (.loc 1) },
      { op := .mv (.loc 2) },
      { op := .mv (.slot 2), guard := some (3, false) },
      { op := .bin .gtr (.loc 4) (.con (.sc (.int .i64 0))), guard := some (3, false) },
      { op := .mv (.loc 5), guard := some (3, false) },
      { op := .mv (.slot 0), guard := some (6, true) },
      { op := .mv (.slot 2), guard := some (6, true) },
      { op := .bin .sub (.loc 8) (.con (.sc (.int .i64 1))), guard := some (6, true) },
      { op := .indexAddr 1 (.loc 7) (.loc 9), guard := some (6, true) },
      { op := .load none (.loc 10), guard := some (6, true) },
      { op := .mv (.slot 3), guard := some (6, true) },
      { op := .bin .geq (.loc 11) (.loc 12), guard := some (6, true) },
      { op := .pick (.loc 6) (.loc 13) (.con (.sc (.bool false))), guard := some (3, false) },
      { op := .pick (.loc 3) (.con (.sc (.bool true))) (.loc 14) }], sets := [(8, 15)], clr := [2, 3] }
def simpl_AreVersions_r5 : Reg :=
  { id := 5, ops := [{ op := .mv (.con (.sc (.bool false))) }], sets := [(1, 0)], clr := [0, 4, 5, 6] }
def simpl_AreVersions_r6 : Reg :=
  { id := 6, ops := [{ op := .bin .add (.slot 6) (.con (.sc (.int .i64 1))) },
      { op := .mv (.loc 0) }], sets := [(6, 1)] }
def simpl_AreVersions_r7 : Reg :=
  { id := 7, ops := [{ op := .mv (.slot 0) },
      { op := .len false (.loc 0) },
      { op := .bin .gtr (.loc 1) (.con (.sc (.int .i64 0))) },
      { op := .mv (.loc 2) }], sets := [(1, 3)], clr := [0, 4, 5, 6] }
def simpl_AreVersions_b : SC := .seq (.reg simpl_AreVersions_r0) (.seq (.seq (.reg simpl_AreVersions_r1) (.block 0 (.loop (.seq (.reg simpl_AreVersions_r2) (.seq (.cond 7 (.skip) (.exit 0)) (.seq (.block 1 (.seq (.reg simpl_AreVersions_r3) (.seq (.reg simpl_AreVersions_r4) (.cond 8 (.seq (.reg simpl_AreVersions_r5) (.ret)) (.skip))))) (.reg simpl_AreVersions_r6))))))) (.seq (.reg simpl_AreVersions_r7) (.ret)))
def simpl_AreVersions : SFn := { nslots := 9, nobjs := 0, params := [0], ngiven := 0, bor := false, takes := [], body := simpl_AreVersions_b, results := [.slot 1] }
def simpl_AreVersions_t : List Tmp := [0, 2, 3, 4, 5, 6, 7, 8, 27]
attribute [simp] simpl_AreVersions_r0 simpl_AreVersions_r1 simpl_AreVersions_r2 simpl_AreVersions_r3 simpl_AreVersions_r4 simpl_AreVersions_r5 simpl_AreVersions_r6 simpl_AreVersions_r7 simpl_AreVersions_b simpl_AreVersions
def simpl_AreExts_r0 : Reg :=
  { id := 0, ops := [{ op := .mv (.con (.sc (.bool false))) }], clr := [1] }
def simpl_AreExts_r1 : Reg :=
  { id := 1, ops := [{ op := .mv (.slot 0) },
      { op := .len false (.loc 0) },
      { op := .mv (.con (.sc (.int .i64 0))) }], sets := [(4, 0), (5, 1), (6, 2)] }
def simpl_AreExts_r2 : Reg :=
  { id := 2, ops := [{ op := .bin .lss (.slot 6) (.slot 5) }], sets := [(7, 0)] }
def simpl_AreExts_r3 : Reg :=
  { id := 3, fresh := [0], ops := [{ op := .mv (.slot 6) },
      { op := .indexAddr 2 (.slot 4) (.slot 6) },
      { op := .load (some 2) (.loc 1) },
      { op := .alloc 0 [.sc (.int .i64 0), .nil 1] },
      { op := .mv (.loc 0) },
      { op := .store 2 (.loc 3) (.loc 2) }], sets := [(2, 4), (3, 3)] }
def simpl_AreExts_r4 : Reg :=
  { id := 4, draw := true, ops := [{ op := .fieldAddr (.slot 3) 0, tau := some [], om := [] },
      { op := .load none (.loc 0), tau := some [0], om := [] },
      { op := .call 114 [(false, .loc 1), (false, .con (.sc (.int .i64 0))), (false, .con (.sc (.int .i64 255)))] [], tau := some [], om := [] },
      { op := .un .not (.loc 2), tau := some [], om := [] },
      { op := .mv (.loc 3), tau := some [], om := [] },
      { op := .mv (.slot 0), guard := some (4, false), tau := some [], om := [] },
      { op := .mv (.slot 2), guard := some (4, false), tau := some [], om := [] },
      { op := .slice 2 (.loc 5) none (some (.loc 6)), guard := some (4, false), tau := some [], om := [] },
      { op := .fieldAddr (.slot 3) 0, guard := some (4, false), tau := some [], om := [] },
      { op := .load none (.loc 8), guard := some (4, false), tau := some [0], om := [] },
      { op := .call 321 [(false, .loc 7), (false, .loc 9)] [], guard := some (4, false), tau := some [], om := [] },
      { op := .bin .geq (.loc 10) (.con (.sc (.int .i64 0))), guard := some (4, false), tau := some [], om := [] },
      { op := .pick (.loc 4) (.con (.sc (.bool true))) (.loc 11), tau := some [], om := [] },
      { op := .mv (.loc 12), tau := some [], om := [] },
      { op := .fieldAddr (.slot 3) 1, guard := some (13, false), tau := some [], om := [] },
      { op := .load none (.loc 14), guard := some (13, false), tau := some [0], om := [] },
      { op := .len false (.loc 15), guard := some (13, false), tau := some [], om := [] },
      { op := .bin .gtr (.loc 16) (.con (.sc (.int .i64 4))), guard := some (13, false), tau := some [], om := [] },
      { op := .pick (.loc 13) (.con (.sc (.bool true))) (.loc 17), tau := some [], om := [] },
      { op := .mv (.loc 18), tau := some [], om := [] },
      { op := .fieldAddr (.slot 3) 1, guard := some (19, false), tau := some [], om := [] },
      { op := .load none (.loc 20), guard := some (19, false), tau := some [0], om := [] },
      { op := .call 233 [(false, .loc 21), (false, .con (.sc (.int .i64 0))), (false, .con (.sc (.int .i64 255)))] [], guard := some (19, false), tau := some [], om := [] },
      { op := .un .not (.loc 22), guard := some (19, false), tau := some [], om := [] },
      { op := .pick (.loc 19) (.con (.sc (.bool true))) (.loc 23), tau := some [], om := [] }], sets := [(8, 24)], clr := [2, 3] }
def simpl_AreExts_r5 : Reg :=
  { id := 5, ops := [{ op := .mv (.con (.sc (.bool false))) }], sets := [(1, 0)], clr := [0, 4, 5, 6] }
def simpl_AreExts_r6 : Reg :=
  { id := 6, ops := [{ op := .bin .add (.slot 6) (.con (.sc (.int .i64 1))) },
      { op := .mv (.loc 0) }], sets := [(6, 1)] }
def simpl_AreExts_r7 : Reg :=
  { id := 7, ops := [{ op := .mv (.slot 0) },
      { op := .len false (.loc 0) },
      { op := .bin .leq (.loc 1) (.con (.sc (.int .i64 6))) },
      { op := .mv (.loc 2) }], sets := [(1, 3)], clr := [0, 4, 5, 6] }
def simpl_AreExts_b : SC := .seq (.reg simpl_AreExts_r0) (.seq (.seq (.reg simpl_AreExts_r1) (.block 0 (.loop (.seq (.reg simpl_AreExts_r2) (.seq (.cond 7 (.skip) (.exit 0)) (.seq (.block 1 (.seq (.reg simpl_AreExts_r3) (.seq (.reg simpl_AreExts_r4) (.cond 8 (.seq (.reg simpl_AreExts_r5) (.ret)) (.skip))))) (.reg simpl_AreExts_r6))))))) (.seq (.reg simpl_AreExts_r7) (.ret)))
def simpl_AreExts : SFn := { nslots := 9, nobjs := 1, params := [0], ngiven := 0, bor := false, takes := [], body := simpl_AreExts_b, results := [.slot 1] }
def simpl_AreExts_t : List Tmp := [0, 2, 3, 4, 5, 6, 7, 8, 36]
attribute [simp] simpl_AreExts_r0 simpl_AreExts_r1 simpl_AreExts_r2 simpl_AreExts_r3 simpl_AreExts_r4 simpl_AreExts_r5 simpl_AreExts_r6 simpl_AreExts_r7 simpl_AreExts_b simpl_AreExts
def sslices_ContainsFunc___impl_Ext_impl_Ext__r0 : Reg :=
  { id := 0, ops := [{ op := .mv (.con (.sc (.bool false))) }], clr := [2] }
def sslices_ContainsFunc___impl_Ext_impl_Ext__r1 : Reg :=
  { id := 1, ops := [{ op := .mv (.slot 0) },
      { op := .mv (.slot 1) },
      { op := .call 352 [(false, .loc 0), (false, .loc 1)] [] },
      { op := .bin .geq (.loc 2) (.con (.sc (.int .i64 0))) },
      { op := .mv (.loc 3) }], sets := [(2, 4)], clr := [0, 1] }
def sslices_ContainsFunc___impl_Ext_impl_Ext__b : SC := .seq (.reg sslices_ContainsFunc___impl_Ext_impl_Ext__r0) (.seq (.reg sslices_ContainsFunc___impl_Ext_impl_Ext__r1) (.ret))
def sslices_ContainsFunc___impl_Ext_impl_Ext_ : SFn := { nslots := 3, nobjs := 0, params := [0, 1], ngiven := 0, bor := false, takes := [], body := sslices_ContainsFunc___impl_Ext_impl_Ext__b, results := [.slot 2] }
def sslices_ContainsFunc___impl_Ext_impl_Ext__t : List Tmp := [0, 1, 4]
attribute [simp] sslices_ContainsFunc___impl_Ext_impl_Ext__r0 sslices_ContainsFunc___impl_Ext_impl_Ext__r1 sslices_ContainsFunc___impl_Ext_impl_Ext__b sslices_ContainsFunc___impl_Ext_impl_Ext_
def simpl_loses_1_r0 : Reg :=
  { id := 0, ops := [{ op := .box 0 (.slot 0) },
      { op := .mv (.con (.sc (.bool false))) }], sets := [(2, 0)], clr := [0, 3] }
def simpl_loses_1_r1 : Reg :=
  { id := 1, ops := [{ op := .fieldAddr (.slot 1) 1 },
      { op := .load none (.loc 0) },
      { op := .fieldAddr (.slot 2) 0 },
      { op := .load none (.loc 2) },
      { op := .call 188 [(false, .loc 1), (false, .loc 3)] [] },
      { op := .mv (.loc 4) },
      { op := .fieldAddr (.slot 1) 3, guard := some (5, false) },
      { op := .load none (.loc 6), guard := some (5, false) },
      { op := .mv (.loc 7), guard := some (5, false) },
      { op := .fieldAddr (.slot 1) 2, guard := some (8, true) },
      { op := .load none (.loc 9), guard := some (8, true) },
      { op := .fieldAddr (.slot 2) 0, guard := some (8, true) },
      { op := .load none (.loc 11), guard := some (8, true) },
      { op := .call 188 [(false, .loc 10), (false, .loc 12)] [], guard := some (8, true) },
      { op := .un .not (.loc 13), guard := some (8, true) },
      { op := .pick (.loc 8) (.loc 14) (.con (.sc (.bool false))), guard := some (5, false) },
      { op := .mv (.loc 15), guard := some (5, false) },
      { op := .fieldAddr (.slot 2) 0, guard := some (16, true) },
      { op := .load none (.loc 17), guard := some (16, true) },
      { op := .call 114 [(false, .loc 18), (false, .con (.sc (.int .i64 1))), (false, .con (.sc (.int .i64 3)))] [], guard := some (16, true) },
      { op := .un .not (.loc 19), guard := some (16, true) },
      { op := .pick (.loc 16) (.loc 20) (.con (.sc (.bool false))), guard := some (5, false) },
      { op := .pick (.loc 5) (.con (.sc (.bool true))) (.loc 21) },
      { op := .mv (.loc 22) }], sets := [(3, 23)], clr := [1, 2] }
def simpl_loses_1_b : SC := .seq (.reg simpl_loses_1_r0) (.seq (.reg simpl_loses_1_r1) (.ret))
def simpl_loses_1 : SFn := { nslots := 4, nobjs := 1, params := [0, 1], ngiven := 0, bor := false, takes := [], body := simpl_loses_1_b, results := [.slot 3] }
def simpl_loses_1_t : List Tmp := [0, 1, 2, 3]
attribute [simp] simpl_loses_1_r0 simpl_loses_1_r1 simpl_loses_1_b simpl_loses_1
def sspec_ExtOf_r0 : Reg :=
  { id := 0, ops := [{ op := .mv (.con (.sc (.int .i64 0))) }], clr := [2] }
def sspec_ExtOf_r1 : Reg :=
  { id := 1, ops := [{ op := .mv (.con (.sc (.int .i64 0))) }], sets := [(3, 0)] }
def sspec_ExtOf_r2 : Reg :=
  { id := 2, ops := [{ op := .mv (.slot 3) },
      { op := .mv (.slot 0) },
      { op := .len false (.loc 1) },
      { op := .bin .lss (.loc 0) (.loc 2) }], sets := [(4, 3)] }
def sspec_ExtOf_r3 : Reg :=
  { id := 4, ops := [{ op := .mv (.slot 0) },
      { op := .mv (.slot 3) },
      { op := .indexAddr 2 (.loc 0) (.loc 1) },
      { op := .fieldAddr (.loc 2) 0 },
      { op := .load none (.loc 3) },
      { op := .mv (.slot 1) },
      { op := .bin .eql (.loc 4) (.loc 5) }], sets := [(5, 6)] }
def sspec_ExtOf_r4 : Reg :=
  { id := 5, ops := [{ op := .mv (.slot 3) },
      { op := .mv (.loc 0) }], sets := [(2, 1)], clr := [0, 1, 3] }
def sspec_ExtOf_r5 : Reg :=
  { id := 3, ops := [{ op := .mv (.slot 3) },
      { op := .bin .add (.loc 0) (.con (.sc (.int .i64 1))) },
      { op := .mv (.loc 1) }], sets := [(3, 2)] }
def sspec_ExtOf_r6 : Reg :=
  { id := 6, ops := [{ op := .mv (.con (.sc (.int .i64 (-1)))) }], sets := [(2, 0)], clr := [0, 1, 3] }
def sspec_ExtOf_b : SC := .seq (.reg sspec_ExtOf_r0) (.seq (.seq (.reg sspec_ExtOf_r1) (.block 0 (.loop (.seq (.seq (.reg sspec_ExtOf_r2) (.cond 4 (.skip) (.exit 0))) (.seq (.block 1 (.seq (.reg sspec_ExtOf_r3) (.cond 5 (.seq (.reg sspec_ExtOf_r4) (.ret)) (.skip)))) (.reg sspec_ExtOf_r5)))))) (.seq (.reg sspec_ExtOf_r6) (.ret)))
def sspec_ExtOf : SFn := { nslots := 6, nobjs := 0, params := [0, 1], ngiven := 0, bor := false, takes := [], body := sspec_ExtOf_b, results := [.slot 2] }
def sspec_ExtOf_t : List Tmp := [0, 1, 4, 5, 9, 18]
attribute [simp] sspec_ExtOf_r0 sspec_ExtOf_r1 sspec_ExtOf_r2 sspec_ExtOf_r3 sspec_ExtOf_r4 sspec_ExtOf_r5 sspec_ExtOf_r6 sspec_ExtOf_b sspec_ExtOf
def simpl_ExtOf_r0 : Reg :=
  { id := 0, ops := [{ op := .box 0 (.slot 1) },
      { op := .mv (.con (.sc (.int .i64 0))) }], sets := [(2, 0)], clr := [1, 3] }
def simpl_ExtOf_r1 : Reg :=
  { id := 1, ops := [{ op := .mv (.slot 0) },
      { op := .makeFunc 351 [.slot 2] },
      { op := .call 352 [(false, .loc 0), (false, .loc 1)] [] },
      { op := .mv (.loc 2) }], sets := [(3, 3)], clr := [0, 2] }
def simpl_ExtOf_b : SC := .seq (.reg simpl_ExtOf_r0) (.seq (.reg simpl_ExtOf_r1) (.ret))
def simpl_ExtOf : SFn := { nslots := 4, nobjs := 1, params := [0, 1], ngiven := 0, bor := false, takes := [], body := simpl_ExtOf_b, results := [.slot 3] }
def simpl_ExtOf_t : List Tmp := [0, 1, 3, 4]
attribute [simp] simpl_ExtOf_r0 simpl_ExtOf_r1 simpl_ExtOf_b simpl_ExtOf
def sslices_IndexFunc___impl_Ext_impl_Ext__r0 : Reg :=
  { id := 0, ops := [{ op := .mv (.con (.sc (.int .i64 0))) }], clr := [2] }
def sslices_IndexFunc___impl_Ext_impl_Ext__r1 : Reg :=
  { id := 1, ops := [{ op := .mv (.slot 0) },
      { op := .len false (.loc 0) },
      { op := .mv (.con (.sc (.int .i64 0))) }], sets := [(4, 1), (5, 2)] }
def sslices_IndexFunc___impl_Ext_impl_Ext__r2 : Reg :=
  { id := 2, ops := [{ op := .bin .lss (.slot 5) (.slot 4) }], sets := [(6, 0)] }
def sslices_IndexFunc___impl_Ext_impl_Ext__r3 : Reg :=
  { id := 3, ops := [{ op := .mv (.slot 5) },
      { op := .mv (.loc 0) }], sets := [(3, 1)] }
def sslices_IndexFunc___impl_Ext_impl_Ext__r4 : Reg :=
  { id := 4, ops := [{ op := .mv (.slot 1) },
      { op := .mv (.slot 0) },
      { op := .mv (.slot 3) },
      { op := .indexAddr 2 (.loc 1) (.loc 2) },
      { op := .load (some 2) (.loc 3) },
      { op := .callv (.loc 0) [(false, .loc 4)] [] }], sets := [(7, 5)] }
def sslices_IndexFunc___impl_Ext_impl_Ext__r5 : Reg :=
  { id := 5, ops := [{ op := .mv (.slot 3) },
      { op := .mv (.loc 0) }], sets := [(2, 1)], clr := [0, 1, 3, 4, 5] }
def sslices_IndexFunc___impl_Ext_impl_Ext__r6 : Reg :=
  { id := 6, ops := [{ op := .bin .add (.slot 5) (.con (.sc (.int .i64 1))) },
      { op := .mv (.loc 0) }], sets := [(5, 1)], clr := [3] }
def sslices_IndexFunc___impl_Ext_impl_Ext__r7 : Reg :=
  { id := 7, ops := [{ op := .mv (.con (.sc (.int .i64 (-1)))) }], sets := [(2, 0)], clr := [0, 1, 4, 5] }
def sslices_IndexFunc___impl_Ext_impl_Ext__b : SC := .seq (.reg sslices_IndexFunc___impl_Ext_impl_Ext__r0) (.seq (.seq (.reg sslices_IndexFunc___impl_Ext_impl_Ext__r1) (.block 0 (.loop (.seq (.reg sslices_IndexFunc___impl_Ext_impl_Ext__r2) (.seq (.cond 6 (.skip) (.exit 0)) (.seq (.block 1 (.seq (.reg sslices_IndexFunc___impl_Ext_impl_Ext__r3) (.seq (.reg sslices_IndexFunc___impl_Ext_impl_Ext__r4) (.cond 7 (.seq (.reg sslices_IndexFunc___impl_Ext_impl_Ext__r5) (.ret)) (.skip))))) (.reg sslices_IndexFunc___impl_Ext_impl_Ext__r6))))))) (.seq (.reg sslices_IndexFunc___impl_Ext_impl_Ext__r7) (.ret)))
def sslices_IndexFunc___impl_Ext_impl_Ext_ : SFn := { nslots := 8, nobjs := 0, params := [0, 1], ngiven := 0, bor := false, takes := [], body := sslices_IndexFunc___impl_Ext_impl_Ext__b, results := [.slot 2] }
def sslices_IndexFunc___impl_Ext_impl_Ext__t : List Tmp := [0, 1, 4, 5, 7, 8, 9, 16]
attribute [simp] sslices_IndexFunc___impl_Ext_impl_Ext__r0 sslices_IndexFunc___impl_Ext_impl_Ext__r1 sslices_IndexFunc___impl_Ext_impl_Ext__r2 sslices_IndexFunc___impl_Ext_impl_Ext__r3 sslices_IndexFunc___impl_Ext_impl_Ext__r4 sslices_IndexFunc___impl_Ext_impl_Ext__r5 sslices_IndexFunc___impl_Ext_impl_Ext__r6 sslices_IndexFunc___impl_Ext_impl_Ext__r7 sslices_IndexFunc___impl_Ext_impl_Ext__b sslices_IndexFunc___impl_Ext_impl_Ext_
def simpl_ExtOf_1_r0 : Reg :=
  { id := 0, ops := [{ op := .box 0 (.slot 0) },
      { op := .mv (.con (.sc (.bool false))) }], sets := [(2, 0)], clr := [0, 3] }
def simpl_ExtOf_1_r1 : Reg :=
  { id := 1, ops := [{ op := .fieldAddr (.slot 2) 0 },
      { op := .load none (.loc 0) },
      { op := .load none (.slot 1) },
      { op := .bin .eql (.loc 1) (.loc 2) },
      { op := .mv (.loc 3) }], sets := [(3, 4)], clr := [1, 2] }
def simpl_ExtOf_1_b : SC := .seq (.reg simpl_ExtOf_1_r0) (.seq (.reg simpl_ExtOf_1_r1) (.ret))
def simpl_ExtOf_1 : SFn := { nslots := 4, nobjs := 1, params := [0, 1], ngiven := 0, bor := false, takes := [], body := simpl_ExtOf_1_b, results := [.slot 3] }
def simpl_ExtOf_1_t : List Tmp := [0, 1, 2, 3]
attribute [simp] simpl_ExtOf_1_r0 simpl_ExtOf_1_r1 simpl_ExtOf_1_b simpl_ExtOf_1
def sspec_BestCommon_r0 : Reg :=
  { id := 0, ops := [{ op := .mv (.con (.sc (.int .i64 0))) }], clr := [2] }
def sspec_BestCommon_r1 : Reg :=
  { id := 1, ops := [{ op := .mv (.slot 0) },
      { op := .mv (.slot 1) },
      { op := .call 224 [(false, .loc 0), (false, .loc 1)] [0] },
      { op := .mv (.loc 2) }], sets := [(3, 3)] }
def sspec_BestCommon_r2 : Reg :=
  { id := 2, ops := [{ op := .mv (.slot 0) },
      { op := .call 208 [(false, .loc 0)] [] },
      { op := .un .not (.loc 1) },
      { op := .mv (.loc 2) },
      { op := .mv (.slot 1), guard := some (3, false) },
      { op := .call 208 [(false, .loc 4)] [], guard := some (3, false) },
      { op := .un .not (.loc 5), guard := some (3, false) },
      { op := .pick (.loc 3) (.con (.sc (.bool true))) (.loc 6) },
      { op := .mv (.loc 7) },
      { op := .mv (.slot 3), guard := some (8, false) },
      { op := .len false (.loc 9), guard := some (8, false) },
      { op := .bin .eql (.loc 10) (.con (.sc (.int .i64 0))), guard := some (8, false) },
      { op := .pick (.loc 8) (.con (.sc (.bool true))) (.loc 11) }], sets := [(4, 12)], clr := [0, 1] }
def sspec_BestCommon_r3 : Reg :=
  { id := 3, ops := [{ op := .mv (.con (.sc (.int .i64 0))) }], sets := [(2, 0)], clr := [3] }
def sspec_BestCommon_r4 : Reg :=
  { id := 4, ops := [{ op := .mv (.slot 3) },
      { op := .mv (.slot 3) },
      { op := .len false (.loc 1) },
      { op := .bin .sub (.loc 2) (.con (.sc (.int .i64 1))) },
      { op := .indexAddr 1 (.loc 0) (.loc 3) },
      { op := .load none (.loc 4) },
      { op := .mv (.loc 5) }], sets := [(2, 6)], clr := [3] }
def sspec_BestCommon_b : SC := .seq (.reg sspec_BestCommon_r0) (.seq (.reg sspec_BestCommon_r1) (.seq (.seq (.reg sspec_BestCommon_r2) (.cond 4 (.seq (.reg sspec_BestCommon_r3) (.ret)) (.skip))) (.seq (.reg sspec_BestCommon_r4) (.ret))))
def sspec_BestCommon : SFn := { nslots := 5, nobjs := 1, params := [0, 1], ngiven := 0, bor := false, takes := [], body := sspec_BestCommon_b, results := [.slot 2] }
def sspec_BestCommon_t : List Tmp := [0, 1, 4, 5, 21]
attribute [simp] sspec_BestCommon_r0 sspec_BestCommon_r1 sspec_BestCommon_r2 sspec_BestCommon_r3 sspec_BestCommon_r4 sspec_BestCommon_b sspec_BestCommon
def simpl_without_r0 : Reg :=
  { id := 0, ops := [{ op := .mv (.con (.nil 1)) }], clr := [2] }
def simpl_without_r1 : Reg :=
  { id := 1, ops := [{ op := .buildSlice 0 1 0 [] },
      { op := .mv (.loc 0) }], sets := [(3, 1)], ghosts := [.ren 0 3] }
def simpl_without_r2 : Reg :=
  { id := 2, ops := [{ op := .mv (.slot 0) },
      { op := .len false (.loc 0) },
      { op := .mv (.con (.sc (.int .i64 0))) }], sets := [(5, 0), (6, 1), (7, 2)], clr := [0] }
def simpl_without_r3 : Reg :=
  { id := 3, ops := [{ op := .bin .lss (.slot 7) (.slot 6) }], sets := [(8, 0)] }
def simpl_without_r4 : Reg :=
  { id := 4, ops := [{ op := .indexAddr 1 (.slot 5) (.slot 7) },
      { op := .load none (.loc 0) },
      { op := .mv (.loc 1) }], sets := [(4, 2)] }
def simpl_without_r5 : Reg :=
  { id := 5, ops := [{ op := .mv (.slot 1) },
      { op := .mv (.slot 4) },
      { op := .call 188 [(false, .loc 0), (false, .loc 1)] [] },
      { op := .un .not (.loc 2) }], sets := [(9, 3)] }
def simpl_without_r6 : Reg :=
  { id := 6, fresh := [1, 2], ops := [{ op := .mv (.slot 3) },
      { op := .mv (.slot 4) },
      { op := .buildSlice 1 1 1 [.loc 1] },
      { op := .append 2 1 8 false (.loc 0) (.loc 2) },
      { op := .mv (.loc 3) }], sets := [(3, 4)], ghosts := [.ren 2 3], clr := [4] }
def simpl_without_r7 : Reg :=
  { id := 7, ops := [{ op := .bin .add (.slot 7) (.con (.sc (.int .i64 1))) },
      { op := .mv (.loc 0) }], sets := [(7, 1)] }
def simpl_without_r8 : Reg :=
  { id := 8, ops := [{ op := .mv (.slot 3) },
      { op := .mv (.loc 0) }], sets := [(2, 1)], clr := [1, 3, 5, 6, 7] }
def simpl_without_b : SC := .seq (.reg simpl_without_r0) (.seq (.reg simpl_without_r1) (.seq (.seq (.reg simpl_without_r2) (.block 0 (.loop (.seq (.reg simpl_without_r3) (.seq (.cond 8 (.skip) (.exit 0)) (.seq (.block 1 (.seq (.reg simpl_without_r4) (.seq (.reg simpl_without_r5) (.cond 9 (.reg simpl_without_r6) (.skip))))) (.reg simpl_without_r7))))))) (.seq (.reg simpl_without_r8) (.ret))))
def simpl_without : SFn := { nslots := 10, nobjs := 4, params := [0, 1], ngiven := 0, bor := false, takes := [], body := simpl_without_b, results := [.slot 2] }
def simpl_without_t : List Tmp := [0, 1, 4, 5, 7, 9, 10, 11, 12, 18]
attribute [simp] simpl_without_r0 simpl_without_r1 simpl_without_r2 simpl_without_r3 simpl_without_r4 simpl_without_r5 simpl_without_r6 simpl_without_r7 simpl_without_r8 simpl_without_b simpl_without
def simpl_BestCommon_r0 : Reg :=
  { id := 0, ops := [{ op := .mv (.con (.sc (.int .i64 0))) }], clr := [2] }
def simpl_BestCommon_r1 : Reg :=
  { id := 1, ops := [{ op := .mv (.slot 0) },
      { op := .call 232 [(false, .loc 0)] [] },
      { op := .un .not (.loc 1) },
      { op := .mv (.loc 2) },
      { op := .mv (.slot 1), guard := some (3, false) },
      { op := .call 232 [(false, .loc 4)] [], guard := some (3, false) },
      { op := .un .not (.loc 5), guard := some (3, false) },
      { op := .pick (.loc 3) (.con (.sc (.bool true))) (.loc 6) }], sets := [(5, 7)] }
def simpl_BestCommon_r2 : Reg :=
  { id := 2, ops := [{ op := .mv (.con (.sc (.int .i64 0))) }], sets := [(2, 0)], clr := [0, 1] }
def simpl_BestCommon_r3 : Reg :=
  { id := 3, ops := [{ op := .mv (.con (.sc (.int .i64 0))) }], sets := [(3, 0)] }
def simpl_BestCommon_r4 : Reg :=
  { id := 4, ops := [{ op := .mv (.slot 0) },
      { op := .mv (.slot 1) },
      { op := .call 242 [(false, .loc 0), (false, .loc 1)] [0] },
      { op := .len false (.loc 2) },
      { op := .mv (.con (.sc (.int .i64 0))) }], sets := [(6, 2), (7, 3), (8, 4)], clr := [0, 1] }
def simpl_BestCommon_r5 : Reg :=
  { id := 5, ops := [{ op := .bin .lss (.slot 8) (.slot 7) }], sets := [(9, 0)] }
def simpl_BestCommon_r6 : Reg :=
  { id := 6, ops := [{ op := .indexAddr 1 (.slot 6) (.slot 8) },
      { op := .load none (.loc 0) },
      { op := .mv (.loc 1) }], sets := [(4, 2)] }
def simpl_BestCommon_r7 : Reg :=
  { id := 7, ops := [{ op := .mv (.slot 3) },
      { op := .mv (.slot 4) },
      { op := .minmax true (.loc 0) [.loc 1] },
      { op := .mv (.loc 2) }], sets := [(3, 3)], clr := [4] }
def simpl_BestCommon_r8 : Reg :=
  { id := 8, ops := [{ op := .bin .add (.slot 8) (.con (.sc (.int .i64 1))) },
      { op := .mv (.loc 0) }], sets := [(8, 1)] }
def simpl_BestCommon_r9 : Reg :=
  { id := 9, ops := [{ op := .mv (.slot 3) },
      { op := .mv (.loc 0) }], sets := [(2, 1)], clr := [3, 6, 7, 8] }
def simpl_BestCommon_b : SC := .seq (.reg simpl_BestCommon_r0) (.seq (.seq (.reg simpl_BestCommon_r1) (.cond 5 (.seq (.reg simpl_BestCommon_r2) (.ret)) (.skip))) (.seq (.reg simpl_BestCommon_r3) (.seq (.seq (.reg simpl_BestCommon_r4) (.block 0 (.loop (.seq (.reg simpl_BestCommon_r5) (.seq (.cond 9 (.skip) (.exit 0)) (.seq (.block 1 (.seq (.reg simpl_BestCommon_r6) (.reg simpl_BestCommon_r7))) (.reg simpl_BestCommon_r8))))))) (.seq (.reg simpl_BestCommon_r9) (.ret)))))
def simpl_BestCommon : SFn := { nslots := 10, nobjs := 1, params := [0, 1], ngiven := 0, bor := false, takes := [], body := simpl_BestCommon_b, results := [.slot 2] }
def simpl_BestCommon_t : List Tmp := [0, 1, 4, 5, 7, 15, 18, 19, 20, 21]
attribute [simp] simpl_BestCommon_r0 simpl_BestCommon_r1 simpl_BestCommon_r2 simpl_BestCommon_r3 simpl_BestCommon_r4 simpl_BestCommon_r5 simpl_BestCommon_r6 simpl_BestCommon_r7 simpl_BestCommon_r8 simpl_BestCommon_r9 simpl_BestCommon_b simpl_BestCommon
def sspec_IsEndpoint_r0 : Reg :=
  { id := 0, ops := [{ op := .box 0 (.slot 0) },
      { op := .mv (.con (.sc (.bool false))) }], sets := [(1, 0)], clr := [0, 2] }
def sspec_IsEndpoint_r1 : Reg :=
  { id := 1, ops := [{ op := .mv (.con (.sc (.int .i64 0))) }], sets := [(3, 0)] }
def sspec_IsEndpoint_r2 : Reg :=
  { id := 2, ops := [{ op := .mv (.slot 3) },
      { op := .fieldAddr (.slot 1) 1 },
      { op := .load none (.loc 1) },
      { op := .len false (.loc 2) },
      { op := .bin .lss (.loc 0) (.loc 3) }], sets := [(5, 4)] }
def sspec_IsEndpoint_r3 : Reg :=
  { id := 4, draw := true, ops := [{ op := .fieldAddr (.slot 1) 1, tau := some [], om := [] },
      { op := .load none (.loc 0), tau := some [0], om := [] },
      { op := .mv (.slot 3), tau := some [], om := [] },
      { op := .indexAddr 1 (.loc 1) (.loc 2), tau := some [], om := [] },
      { op := .load none (.loc 3), tau := some [], om := [] },
      { op := .call 71 [(false, .loc 4), (false, .con (.sc (.int .i64 0))), (false, .con (.sc (.int .i64 255)))] [], tau := some [], om := [] },
      { op := .un .not (.loc 5), tau := some [], om := [] },
      { op := .mv (.loc 6), tau := some [], om := [] },
      { op := .fieldAddr (.slot 1) 1, guard := some (7, false), tau := some [], om := [] },
      { op := .load none (.loc 8), guard := some (7, false), tau := some [0], om := [] },
      { op := .mv (.slot 3), guard := some (7, false), tau := some [], om := [] },
      { op := .indexAddr 1 (.loc 9) (.loc 10), guard := some (7, false), tau := some [], om := [] },
      { op := .load none (.loc 11), guard := some (7, false), tau := some [], om := [] },
      { op := .call 250 [(false, .loc 12)] [], guard := some (7, false), tau := some [], om := [] },
      { op := .pick (.loc 7) (.con (.sc (.bool true))) (.loc 13), tau := some [], om := [] },
      { op := .mv (.loc 14), tau := some [], om := [] },
      { op := .mv (.slot 3), guard := some (15, false), tau := some [], om := [] },
      { op := .bin .gtr (.loc 16) (.con (.sc (.int .i64 0))), guard := some (15, false), tau := some [], om := [] },
      { op := .mv (.loc 17), guard := some (15, false), tau := some [], om := [] },
      { op := .fieldAddr (.slot 1) 1, guard := some (18, true), tau := some [], om := [] },
      { op := .load none (.loc 19), guard := some (18, true), tau := some [0], om := [] },
      { op := .mv (.slot 3), guard := some (18, true), tau := some [], om := [] },
      { op := .bin .sub (.loc 21) (.con (.sc (.int .i64 1))), guard := some (18, true), tau := some [], om := [] },
      { op := .indexAddr 1 (.loc 20) (.loc 22), guard := some (18, true), tau := some [], om := [] },
      { op := .load none (.loc 23), guard := some (18, true), tau := some [], om := [] },
      { op := .fieldAddr (.slot 1) 1, guard := some (18, true), tau := some [], om := [] },
      { op := .load none (.loc 25), guard := some (18, true), tau := some [0], om := [] },
      { op := .mv (.slot 3), guard := some (18, true), tau := some [], om := [] },
      { op := .indexAddr 1 (.loc 26) (.loc 27), guard := some (18, true), tau := some [], om := [] },
      { op := .load none (.loc 28), guard := some (18, true), tau := some [], om := [] },
      { op := .bin .geq (.loc 24) (.loc 29), guard := some (18, true), tau := some [], om := [] },
      { op := .pick (.loc 18) (.loc 30) (.con (.sc (.bool false))), guard := some (15, false), tau := some [], om := [] },
      { op := .pick (.loc 15) (.con (.sc (.bool true))) (.loc 31), tau := some [], om := [] }], sets := [(6, 32)] }
def sspec_IsEndpoint_r4 : Reg :=
  { id := 5, ops := [{ op := .mv (.con (.sc (.bool false))) }], sets := [(2, 0)], clr := [1, 3] }
def sspec_IsEndpoint_r5 : Reg :=
  { id := 3, ops := [{ op := .mv (.slot 3) },
      { op := .bin .add (.loc 0) (.con (.sc (.int .i64 1))) },
      { op := .mv (.loc 1) }], sets := [(3, 2)] }
def sspec_IsEndpoint_r6 : Reg :=
  { id := 6, ops := [{ op := .mv (.con (.sc (.int .i64 0))) }], sets := [(4, 0)], clr := [3] }
def sspec_IsEndpoint_r7 : Reg :=
  { id := 7, ops := [{ op := .mv (.slot 4) },
      { op := .fieldAddr (.slot 1) 2 },
      { op := .load none (.loc 1) },
      { op := .len false (.loc 2) },
      { op := .bin .lss (.loc 0) (.loc 3) }], sets := [(7, 4)] }
def sspec_IsEndpoint_r8 : Reg :=
  { id := 9, ops := [{ op := .fieldAddr (.slot 1) 2 },
      { op := .load none (.loc 0) },
      { op := .mv (.slot 4) },
      { op := .indexAddr 4 (.loc 1) (.loc 2) },
      { op := .load (some 4) (.loc 3) },
      { op := .call 152 [(false, .loc 4)] [] },
      { op := .un .not (.loc 5) }], sets := [(8, 6)] }
def sspec_IsEndpoint_r9 : Reg :=
  { id := 10, ops := [{ op := .mv (.con (.sc (.bool false))) }], sets := [(2, 0)], clr := [1, 4] }
def sspec_IsEndpoint_r10 : Reg :=
  { id := 8, ops := [{ op := .mv (.slot 4) },
      { op := .bin .add (.loc 0) (.con (.sc (.int .i64 1))) },
      { op := .mv (.loc 1) }], sets := [(4, 2)] }
def sspec_IsEndpoint_r11 : Reg :=
  { id := 11, ops := [{ op := .fieldAddr (.slot 1) 0 },
      { op := .load none (.loc 0) },
      { op := .call 208 [(false, .loc 1)] [] },
      { op := .mv (.loc 2) },
      { op := .fieldAddr (.slot 1) 1, guard := some (3, true) },
      { op := .load none (.loc 4), guard := some (3, true) },
      { op := .len false (.loc 5), guard := some (3, true) },
      { op := .bin .leq (.loc 6) (.con (.sc (.int .i64 5))), guard := some (3, true) },
      { op := .pick (.loc 3) (.loc 7) (.con (.sc (.bool false))) },
      { op := .mv (.loc 8) },
      { op := .fieldAddr (.slot 1) 2, guard := some (9, true) },
      { op := .load none (.loc 10), guard := some (9, true) },
      { op := .len false (.loc 11), guard := some (9, true) },
      { op := .bin .leq (.loc 12) (.con (.sc (.int .i64 4))), guard := some (9, true) },
      { op := .pick (.loc 9) (.loc 13) (.con (.sc (.bool false))) },
      { op := .mv (.loc 14) },
      { op := .fieldAddr (.slot 1) 3, guard := some (15, true) },
      { op := .load none (.loc 16), guard := some (15, true) },
      { op := .call 71 [(false, .loc 17), (false, .con (.sc (.int .i64 0))), (false, .con (.sc (.int .i64 5)))] [], guard := some (15, true) },
      { op := .pick (.loc 15) (.loc 18) (.con (.sc (.bool false))) },
      { op := .mv (.loc 19) }], sets := [(2, 20)], clr := [1, 4] }
def sspec_IsEndpoint_b : SC := .seq (.reg sspec_IsEndpoint_r0) (.seq (.seq (.reg sspec_IsEndpoint_r1) (.block 0 (.loop (.seq (.seq (.reg sspec_IsEndpoint_r2) (.cond 5 (.skip) (.exit 0))) (.seq (.block 1 (.seq (.reg sspec_IsEndpoint_r3) (.cond 6 (.seq (.reg sspec_IsEndpoint_r4) (.ret)) (.skip)))) (.reg sspec_IsEndpoint_r5)))))) (.seq (.seq (.reg sspec_IsEndpoint_r6) (.block 2 (.loop (.seq (.seq (.reg sspec_IsEndpoint_r7) (.cond 7 (.skip) (.exit 2))) (.seq (.block 3 (.seq (.reg sspec_IsEndpoint_r8) (.cond 8 (.seq (.reg sspec_IsEndpoint_r9) (.ret)) (.skip)))) (.reg sspec_IsEndpoint_r10)))))) (.seq (.reg sspec_IsEndpoint_r11) (.ret))))
def sspec_IsEndpoint : SFn := { nslots := 9, nobjs := 1, params := [0], ngiven := 0, bor := false, takes := [], body := sspec_IsEndpoint_b, results := [.slot 2] }
def sspec_IsEndpoint_t : List Tmp := [0, 1, 2, 3, 4, 9, 44, 49, 58]
attribute [simp] sspec_IsEndpoint_r0 sspec_IsEndpoint_r1 sspec_IsEndpoint_r2 sspec_IsEndpoint_r3 sspec_IsEndpoint_r4 sspec_IsEndpoint_r5 sspec_IsEndpoint_r6 sspec_IsEndpoint_r7 sspec_IsEndpoint_r8 sspec_IsEndpoint_r9 sspec_IsEndpoint_r10 sspec_IsEndpoint_r11 sspec_IsEndpoint_b sspec_IsEndpoint
def simpl_areTags_r0 : Reg :=
  { id := 0, ops := [{ op := .mv (.con (.sc (.bool false))) }], clr := [1] }
def simpl_areTags_r1 : Reg :=
  { id := 1, ops := [{ op := .mv (.slot 0) },
      { op := .len false (.loc 0) },
      { op := .mv (.con (.sc (.int .i64 0))) }], sets := [(4, 0), (5, 1), (6, 2)] }
def simpl_areTags_r2 : Reg :=
  { id := 2, ops := [{ op := .bin .lss (.slot 6) (.slot 5) }], sets := [(7, 0)] }
def simpl_areTags_r3 : Reg :=
  { id := 3, ops := [{ op := .mv (.slot 6) },
      { op := .indexAddr 1 (.slot 4) (.slot 6) },
      { op := .load none (.loc 1) },
      { op := .mv (.loc 0) },
      { op := .mv (.loc 2) }], sets := [(2, 3), (3, 4)] }
def simpl_areTags_r4 : Reg :=
  { id := 4, ops := [{ op := .mv (.slot 2) },
      { op := .bin .gtr (.loc 0) (.con (.sc (.int .i64 0))) },
      { op := .mv (.loc 1) },
      { op := .mv (.slot 0), guard := some (2, true) },
      { op := .mv (.slot 2), guard := some (2, true) },
      { op := .bin .sub (.loc 4) (.con (.sc (.int .i64 1))), guard := some (2, true) },
      { op := .indexAddr 1 (.loc 3) (.loc 5), guard := some (2, true) },
      { op := .load none (.loc 6), guard := some (2, true) },
      { op := .mv (.slot 3), guard := some (2, true) },
      { op := .bin .geq (.loc 7) (.loc 8), guard := some (2, true) },
      { op := .pick (.loc 2) (.loc 9) (.con (.sc (.bool false))) }], sets := [(8, 10)], clr := [2, 3] }
def simpl_areTags_r5 : Reg :=
  { id := 5, ops := [{ op := .mv (.con (.sc (.bool false))) }], sets := [(1, 0)], clr := [0, 4, 5, 6] }
def simpl_areTags_r6 : Reg :=
  { id := 6, ops := [{ op := .bin .add (.slot 6) (.con (.sc (.int .i64 1))) },
      { op := .mv (.loc 0) }], sets := [(6, 1)] }
def simpl_areTags_r7 : Reg :=
  { id := 7, ops := [{ op := .mv (.slot 0) },
      { op := .call 233 [(false, .loc 0), (false, .con (.sc (.int .i64 0))), (false, .con (.sc (.int .i64 255)))] [] },
      { op := .mv (.loc 1) }], sets := [(1, 2)], clr := [0, 4, 5, 6] }
def simpl_areTags_b : SC := .seq (.reg simpl_areTags_r0) (.seq (.seq (.reg simpl_areTags_r1) (.block 0 (.loop (.seq (.reg simpl_areTags_r2) (.seq (.cond 7 (.skip) (.exit 0)) (.seq (.block 1 (.seq (.reg simpl_areTags_r3) (.seq (.reg simpl_areTags_r4) (.cond 8 (.seq (.reg simpl_areTags_r5) (.ret)) (.skip))))) (.reg simpl_areTags_r6))))))) (.seq (.reg simpl_areTags_r7) (.ret)))
def simpl_areTags : SFn := { nslots := 9, nobjs := 0, params := [0], ngiven := 0, bor := false, takes := [], body := simpl_areTags_b, results := [.slot 1] }
def simpl_areTags_t : List Tmp := [0, 2, 3, 4, 5, 6, 7, 8, 22]
attribute [simp] simpl_areTags_r0 simpl_areTags_r1 simpl_areTags_r2 simpl_areTags_r3 simpl_areTags_r4 simpl_areTags_r5 simpl_areTags_r6 simpl_areTags_r7 simpl_areTags_b simpl_areTags
def simpl_IsEndpoint_r0 : Reg :=
  { id := 0, ops := [{ op := .box 0 (.slot 0) },
      { op := .mv (.con (.sc (.bool false))) }], sets := [(1, 0)], clr := [0, 2] }
def simpl_IsEndpoint_r1 : Reg :=
  { id := 1, ops := [{ op := .fieldAddr (.slot 1) 0 },
      { op := .load none (.loc 0) },
      { op := .call 232 [(false, .loc 1)] [] },
      { op := .mv (.loc 2) },
      { op := .fieldAddr (.slot 1) 1, guard := some (3, true) },
      { op := .load none (.loc 4), guard := some (3, true) },
      { op := .len false (.loc 5), guard := some (3, true) },
      { op := .bin .leq (.loc 6) (.con (.sc (.int .i64 5))), guard := some (3, true) },
      { op := .pick (.loc 3) (.loc 7) (.con (.sc (.bool false))) },
      { op := .mv (.loc 8) },
      { op := .fieldAddr (.slot 1) 1, guard := some (9, true) },
      { op := .load none (.loc 10), guard := some (9, true) },
      { op := .call 235 [(false, .loc 11)] [], guard := some (9, true) },
      { op := .pick (.loc 9) (.loc 12) (.con (.sc (.bool false))) },
      { op := .mv (.loc 13) },
      { op := .fieldAddr (.slot 1) 1, guard := some (14, true) },
      { op := .load none (.loc 15), guard := some (14, true) },
      { op := .call 270 [(false, .loc 16)] [], guard := some (14, true) },
      { op := .un .not (.loc 17), guard := some (14, true) },
      { op := .pick (.loc 14) (.loc 18) (.con (.sc (.bool false))) },
      { op := .mv (.loc 19) },
      { op := .fieldAddr (.slot 1) 2, guard := some (20, true) },
      { op := .load none (.loc 21), guard := some (20, true) },
      { op := .len false (.loc 22), guard := some (20, true) },
      { op := .bin .leq (.loc 23) (.con (.sc (.int .i64 4))), guard := some (20, true) },
      { op := .pick (.loc 20) (.loc 24) (.con (.sc (.bool false))) },
      { op := .mv (.loc 25) },
      { op := .fieldAddr (.slot 1) 2, guard := some (26, true) },
      { op := .load none (.loc 27), guard := some (26, true) },
      { op := .call 272 [(false, .loc 28), (false, .con (.fn 271 []))] [], guard := some (26, true) },
      { op := .un .not (.loc 29), guard := some (26, true) },
      { op := .pick (.loc 26) (.loc 30) (.con (.sc (.bool false))) },
      { op := .mv (.loc 31) },
      { op := .fieldAddr (.slot 1) 3, guard := some (32, true) },
      { op := .load none (.loc 33), guard := some (32, true) },
      { op := .call 114 [(false, .loc 34), (false, .con (.sc (.int .i64 0))), (false, .con (.sc (.int .i64 5)))] [], guard := some (32, true) },
      { op := .pick (.loc 32) (.loc 35) (.con (.sc (.bool false))) },
      { op := .mv (.loc 36) }], sets := [(2, 37)], clr := [1] }
def simpl_IsEndpoint_b : SC := .seq (.reg simpl_IsEndpoint_r0) (.seq (.reg simpl_IsEndpoint_r1) (.ret))
def simpl_IsEndpoint : SFn := { nslots := 3, nobjs := 1, params := [0], ngiven := 0, bor := false, takes := [], body := simpl_IsEndpoint_b, results := [.slot 2] }
def simpl_IsEndpoint_t : List Tmp := [0, 1, 2]
attribute [simp] simpl_IsEndpoint_r0 simpl_IsEndpoint_r1 simpl_IsEndpoint_b simpl_IsEndpoint
def sspec_CommonOf_r0 : Reg :=
  { id := 0, ops := [{ op := .mv (.con (.nil 1)) }], clr := [2] }
def sspec_CommonOf_r1 : Reg :=
  { id := 1, ops := [{ op := .buildSlice 0 1 0 [] },
      { op := .mv (.loc 0) }], sets := [(3, 1)], ghosts := [.ren 0 3] }
def sspec_CommonOf_r2 : Reg :=
  { id := 2, ops := [{ op := .mv (.con (.sc (.int .i64 0))) }], sets := [(4, 0)] }
def sspec_CommonOf_r3 : Reg :=
  { id := 3, ops := [{ op := .mv (.slot 4) },
      { op := .mv (.slot 0) },
      { op := .len false (.loc 1) },
      { op := .bin .lss (.loc 0) (.loc 2) }], sets := [(5, 3)] }
def sspec_CommonOf_r4 : Reg :=
  { id := 5, ops := [{ op := .mv (.slot 1) },
      { op := .mv (.slot 0) },
      { op := .mv (.slot 4) },
      { op := .indexAddr 1 (.loc 1) (.loc 2) },
      { op := .load none (.loc 3) },
      { op := .call 166 [(false, .loc 0), (false, .loc 4)] [] }], sets := [(6, 5)] }
def sspec_CommonOf_r5 : Reg :=
  { id := 6, fresh := [1, 2], ops := [{ op := .mv (.slot 3) },
      { op := .mv (.slot 0) },
      { op := .mv (.slot 4) },
      { op := .indexAddr 1 (.loc 1) (.loc 2) },
      { op := .load none (.loc 3) },
      { op := .buildSlice 1 1 1 [.loc 4] },
      { op := .append 2 1 8 false (.loc 0) (.loc 5) },
      { op := .mv (.loc 6) }], sets := [(3, 7)], ghosts := [.ren 2 3] }
def sspec_CommonOf_r6 : Reg :=
  { id := 4, ops := [{ op := .mv (.slot 4) },
      { op := .bin .add (.loc 0) (.con (.sc (.int .i64 1))) },
      { op := .mv (.loc 1) }], sets := [(4, 2)] }
def sspec_CommonOf_r7 : Reg :=
  { id := 7, ops := [{ op := .mv (.slot 3) },
      { op := .mv (.loc 0) }], sets := [(2, 1)], clr := [0, 1, 3, 4] }
def sspec_CommonOf_b : SC := .seq (.reg sspec_CommonOf_r0) (.seq (.reg sspec_CommonOf_r1) (.seq (.seq (.reg sspec_CommonOf_r2) (.block 0 (.loop (.seq (.seq (.reg sspec_CommonOf_r3) (.cond 5 (.skip) (.exit 0))) (.seq (.block 1 (.seq (.reg sspec_CommonOf_r4) (.cond 6 (.reg sspec_CommonOf_r5) (.skip)))) (.reg sspec_CommonOf_r6)))))) (.seq (.reg sspec_CommonOf_r7) (.ret))))
def sspec_CommonOf : SFn := { nslots := 7, nobjs := 4, params := [0, 1], ngiven := 0, bor := false, takes := [], body := sspec_CommonOf_b, results := [.slot 2] }
def sspec_CommonOf_t : List Tmp := [0, 1, 4, 5, 6, 11, 19]
attribute [simp] sspec_CommonOf_r0 sspec_CommonOf_r1 sspec_CommonOf_r2 sspec_CommonOf_r3 sspec_CommonOf_r4 sspec_CommonOf_r5 sspec_CommonOf_r6 sspec_CommonOf_r7 sspec_CommonOf_b sspec_CommonOf
def simpl_CommonOf_r0 : Reg :=
  { id := 0, ops := [{ op := .mv (.con (.nil 1)) }], clr := [2] }
def simpl_CommonOf_r1 : Reg :=
  { id := 1, ops := [{ op := .buildSlice 0 1 0 [] },
      { op := .mv (.loc 0) }], sets := [(3, 1)], ghosts := [.ren 0 3] }
def simpl_CommonOf_r2 : Reg :=
  { id := 2, ops := [{ op := .mv (.slot 0) },
      { op := .len false (.loc 0) },
      { op := .mv (.con (.sc (.int .i64 0))) }], sets := [(5, 0), (6, 1), (7, 2)], clr := [0] }
def simpl_CommonOf_r3 : Reg :=
  { id := 3, ops := [{ op := .bin .lss (.slot 7) (.slot 6) }], sets := [(8, 0)] }
def simpl_CommonOf_r4 : Reg :=
  { id := 4, ops := [{ op := .indexAddr 1 (.slot 5) (.slot 7) },
      { op := .load none (.loc 0) },
      { op := .mv (.loc 1) }], sets := [(4, 2)] }
def simpl_CommonOf_r5 : Reg :=
  { id := 5, ops := [{ op := .mv (.slot 1) },
      { op := .mv (.slot 4) },
      { op := .call 188 [(false, .loc 0), (false, .loc 1)] [] }], sets := [(9, 2)] }
def simpl_CommonOf_r6 : Reg :=
  { id := 6, fresh := [1, 2], ops := [{ op := .mv (.slot 3) },
      { op := .mv (.slot 4) },
      { op := .buildSlice 1 1 1 [.loc 1] },
      { op := .append 2 1 8 false (.loc 0) (.loc 2) },
      { op := .mv (.loc 3) }], sets := [(3, 4)], ghosts := [.ren 2 3], clr := [4] }
def simpl_CommonOf_r7 : Reg :=
  { id := 7, ops := [{ op := .bin .add (.slot 7) (.con (.sc (.int .i64 1))) },
      { op := .mv (.loc 0) }], sets := [(7, 1)] }
def simpl_CommonOf_r8 : Reg :=
  { id := 8, ops := [{ op := .mv (.slot 3) },
      { op := .mv (.loc 0) }], sets := [(2, 1)], clr := [1, 3, 5, 6, 7] }
def simpl_CommonOf_b : SC := .seq (.reg simpl_CommonOf_r0) (.seq (.reg simpl_CommonOf_r1) (.seq (.seq (.reg simpl_CommonOf_r2) (.block 0 (.loop (.seq (.reg simpl_CommonOf_r3) (.seq (.cond 8 (.skip) (.exit 0)) (.seq (.block 1 (.seq (.reg simpl_CommonOf_r4) (.seq (.reg simpl_CommonOf_r5) (.cond 9 (.reg simpl_CommonOf_r6) (.skip))))) (.reg simpl_CommonOf_r7))))))) (.seq (.reg simpl_CommonOf_r8) (.ret))))
def simpl_CommonOf : SFn := { nslots := 10, nobjs := 4, params := [0, 1], ngiven := 0, bor := false, takes := [], body := simpl_CommonOf_b, results := [.slot 2] }
def simpl_CommonOf_t : List Tmp := [0, 1, 4, 5, 7, 9, 10, 11, 12, 17]
attribute [simp] simpl_CommonOf_r0 simpl_CommonOf_r1 simpl_CommonOf_r2 simpl_CommonOf_r3 simpl_CommonOf_r4 simpl_CommonOf_r5 simpl_CommonOf_r6 simpl_CommonOf_r7 simpl_CommonOf_r8 simpl_CommonOf_b simpl_CommonOf
def sslices_ContainsFunc___impl_Box_impl_Box__r0 : Reg :=
  { id := 0, ops := [{ op := .mv (.con (.sc (.bool false))) }], clr := [2] }
def sslices_ContainsFunc___impl_Box_impl_Box__r1 : Reg :=
  { id := 1, ops := [{ op := .mv (.slot 0) },
      { op := .mv (.slot 1) },
      { op := .call 406 [(false, .loc 0), (false, .loc 1)] [] },
      { op := .bin .geq (.loc 2) (.con (.sc (.int .i64 0))) },
      { op := .mv (.loc 3) }], sets := [(2, 4)], clr := [0, 1] }
def sslices_ContainsFunc___impl_Box_impl_Box__b : SC := .seq (.reg sslices_ContainsFunc___impl_Box_impl_Box__r0) (.seq (.reg sslices_ContainsFunc___impl_Box_impl_Box__r1) (.ret))
def sslices_ContainsFunc___impl_Box_impl_Box_ : SFn := { nslots := 3, nobjs := 0, params := [0, 1], ngiven := 0, bor := false, takes := [], body := sslices_ContainsFunc___impl_Box_impl_Box__b, results := [.slot 2] }
def sslices_ContainsFunc___impl_Box_impl_Box__t : List Tmp := [0, 1, 4]
attribute [simp] sslices_ContainsFunc___impl_Box_impl_Box__r0 sslices_ContainsFunc___impl_Box_impl_Box__r1 sslices_ContainsFunc___impl_Box_impl_Box__b sslices_ContainsFunc___impl_Box_impl_Box_
def simpl_IsEndpoint_1_r0 : Reg :=
  { id := 0, ops := [{ op := .box 0 (.slot 0) },
      { op := .mv (.con (.sc (.bool false))) }], sets := [(1, 0)], clr := [0, 2] }
def simpl_IsEndpoint_1_r1 : Reg :=
  { id := 1, ops := [{ op := .load (some 4) (.slot 1) },
      { op := .call 183 [(false, .loc 0)] [] },
      { op := .un .not (.loc 1) },
      { op := .mv (.loc 2) }], sets := [(2, 3)], clr := [1] }
def simpl_IsEndpoint_1_b : SC := .seq (.reg simpl_IsEndpoint_1_r0) (.seq (.reg simpl_IsEndpoint_1_r1) (.ret))
def simpl_IsEndpoint_1 : SFn := { nslots := 3, nobjs := 1, params := [0], ngiven := 0, bor := false, takes := [], body := simpl_IsEndpoint_1_b, results := [.slot 2] }
def simpl_IsEndpoint_1_t : List Tmp := [0, 1, 2]
attribute [simp] simpl_IsEndpoint_1_r0 simpl_IsEndpoint_1_r1 simpl_IsEndpoint_1_b simpl_IsEndpoint_1
def sslices_IndexFunc___impl_Box_impl_Box__r0 : Reg :=
  { id := 0, ops := [{ op := .mv (.con (.sc (.int .i64 0))) }], clr := [2] }
def sslices_IndexFunc___impl_Box_impl_Box__r1 : Reg :=
  { id := 1, ops := [{ op := .mv (.slot 0) },
      { op := .len false (.loc 0) },
      { op := .mv (.con (.sc (.int .i64 0))) }], sets := [(4, 1), (5, 2)] }
def sslices_IndexFunc___impl_Box_impl_Box__r2 : Reg :=
  { id := 2, ops := [{ op := .bin .lss (.slot 5) (.slot 4) }], sets := [(6, 0)] }
def sslices_IndexFunc___impl_Box_impl_Box__r3 : Reg :=
  { id := 3, ops := [{ op := .mv (.slot 5) },
      { op := .mv (.loc 0) }], sets := [(3, 1)] }
def sslices_IndexFunc___impl_Box_impl_Box__r4 : Reg :=
  { id := 4, ops := [{ op := .mv (.slot 1) },
      { op := .mv (.slot 0) },
      { op := .mv (.slot 3) },
      { op := .indexAddr 4 (.loc 1) (.loc 2) },
      { op := .load (some 4) (.loc 3) },
      { op := .callv (.loc 0) [(false, .loc 4)] [] }], sets := [(7, 5)] }
def sslices_IndexFunc___impl_Box_impl_Box__r5 : Reg :=
  { id := 5, ops := [{ op := .mv (.slot 3) },
      { op := .mv (.loc 0) }], sets := [(2, 1)], clr := [0, 1, 3, 4, 5] }
def sslices_IndexFunc___impl_Box_impl_Box__r6 : Reg :=
  { id := 6, ops := [{ op := .bin .add (.slot 5) (.con (.sc (.int .i64 1))) },
      { op := .mv (.loc 0) }], sets := [(5, 1)], clr := [3] }
def sslices_IndexFunc___impl_Box_impl_Box__r7 : Reg :=
  { id := 7, ops := [{ op := .mv (.con (.sc (.int .i64 (-1)))) }], sets := [(2, 0)], clr := [0, 1, 4, 5] }
def sslices_IndexFunc___impl_Box_impl_Box__b : SC := .seq (.reg sslices_IndexFunc___impl_Box_impl_Box__r0) (.seq (.seq (.reg sslices_IndexFunc___impl_Box_impl_Box__r1) (.block 0 (.loop (.seq (.reg sslices_IndexFunc___impl_Box_impl_Box__r2) (.seq (.cond 6 (.skip) (.exit 0)) (.seq (.block 1 (.seq (.reg sslices_IndexFunc___impl_Box_impl_Box__r3) (.seq (.reg sslices_IndexFunc___impl_Box_impl_Box__r4) (.cond 7 (.seq (.reg sslices_IndexFunc___impl_Box_impl_Box__r5) (.ret)) (.skip))))) (.reg sslices_IndexFunc___impl_Box_impl_Box__r6))))))) (.seq (.reg sslices_IndexFunc___impl_Box_impl_Box__r7) (.ret)))
def sslices_IndexFunc___impl_Box_impl_Box_ : SFn := { nslots := 8, nobjs := 0, params := [0, 1], ngiven := 0, bor := false, takes := [], body := sslices_IndexFunc___impl_Box_impl_Box__b, results := [.slot 2] }
def sslices_IndexFunc___impl_Box_impl_Box__t : List Tmp := [0, 1, 4, 5, 7, 8, 9, 16]
attribute [simp] sslices_IndexFunc___impl_Box_impl_Box__r0 sslices_IndexFunc___impl_Box_impl_Box__r1 sslices_IndexFunc___impl_Box_impl_Box__r2 sslices_IndexFunc___impl_Box_impl_Box__r3 sslices_IndexFunc___impl_Box_impl_Box__r4 sslices_IndexFunc___impl_Box_impl_Box__r5 sslices_IndexFunc___impl_Box_impl_Box__r6 sslices_IndexFunc___impl_Box_impl_Box__r7 sslices_IndexFunc___impl_Box_impl_Box__b sslices_IndexFunc___impl_Box_impl_Box_
def sspec_BestNow_r0 : Reg :=
  { id := 0, ops := [{ op := .box 0 (.slot 0) },
      { op := .mv (.con (.sc (.int .i64 0))) }], sets := [(2, 0)], clr := [0, 3] }
def sspec_BestNow_r1 : Reg :=
  { id := 1, ops := [{ op := .mv (.slot 1) },
      { op := .fieldAddr (.slot 2) 3 },
      { op := .load none (.loc 1) },
      { op := .len false (.loc 2) },
      { op := .bin .sub (.loc 3) (.con (.sc (.int .i64 1))) },
      { op := .call 71 [(false, .loc 0), (false, .con (.sc (.int .i64 0))), (false, .loc 4)] [] },
      { op := .un .not (.loc 5) }], sets := [(4, 6)] }
def sspec_BestNow_r2 : Reg :=
  { id := 2, ops := [{ op := .mv (.con (.sc (.int .i64 0))) }], sets := [(3, 0)], clr := [1, 2] }
def sspec_BestNow_r3 : Reg :=
  { id := 3, draw := true, ops := [{ op := .fieldAddr (.slot 2) 3, tau := some [], om := [] },
      { op := .load none (.loc 0), tau := some [0], om := [] },
      { op := .mv (.slot 1), tau := some [], om := [] },
      { op := .indexAddr 4 (.loc 1) (.loc 2), tau := some [], om := [] },
      { op := .load (some 4) (.loc 3), tau := some [], om := [] },
      { op := .fieldAddr (.slot 2) 0, tau := some [], om := [] },
      { op := .load none (.loc 5), tau := some [0], om := [] },
      { op := .call 165 [(false, .loc 4), (false, .loc 6)] [], tau := some [], om := [] },
      { op := .mv (.loc 7), tau := some [], om := [] }], sets := [(3, 8)], clr := [1, 2] }
def sspec_BestNow_b : SC := .seq (.reg sspec_BestNow_r0) (.seq (.seq (.reg sspec_BestNow_r1) (.cond 4 (.seq (.reg sspec_BestNow_r2) (.ret)) (.skip))) (.seq (.reg sspec_BestNow_r3) (.ret)))
def sspec_BestNow : SFn := { nslots := 5, nobjs := 1, params := [0, 1], ngiven := 0, bor := false, takes := [], body := sspec_BestNow_b, results := [.slot 3] }
def sspec_BestNow_t : List Tmp := [0, 1, 2, 4, 11]
attribute [simp] sspec_BestNow_r0 sspec_BestNow_r1 sspec_BestNow_r2 sspec_BestNow_r3 sspec_BestNow_b sspec_BestNow
def simpl_BestNow_r0 : Reg :=
  { id := 0, ops := [{ op := .box 0 (.slot 0) },
      { op := .mv (.con (.sc (.int .i64 0))) }], sets := [(2, 0)], clr := [0, 3] }
def simpl_BestNow_r1 : Reg :=
  { id := 1, ops := [{ op := .load (some 15) (.slot 2) },
      { op := .mv (.slot 1) },
      { op := .call 117 [(false, .loc 0), (false, .loc 1)] [] },
      { op := .un .not (.loc 2) }], sets := [(4, 3)] }
def simpl_BestNow_r2 : Reg :=
  { id := 2, ops := [{ op := .mv (.con (.sc (.int .i64 0))) }], sets := [(3, 0)], clr := [1, 2] }
def simpl_BestNow_r3 : Reg :=
  { id := 3, draw := true, ops := [{ op := .fieldAddr (.slot 2) 3, tau := some [], om := [] },
      { op := .load none (.loc 0), tau := some [0], om := [] },
      { op := .mv (.slot 1), tau := some [], om := [] },
      { op := .indexAddr 4 (.loc 1) (.loc 2), tau := some [], om := [] },
      { op := .load (some 4) (.loc 3), tau := some [], om := [] },
      { op := .fieldAddr (.slot 2) 0, tau := some [], om := [] },
      { op := .load none (.loc 5), tau := some [0], om := [] },
      { op := .call 186 [(false, .loc 4), (false, .loc 6)] [], tau := some [], om := [] },
      { op := .mv (.loc 7), tau := some [], om := [] }], sets := [(3, 8)], clr := [1, 2] }
def simpl_BestNow_b : SC := .seq (.reg simpl_BestNow_r0) (.seq (.seq (.reg simpl_BestNow_r1) (.cond 4 (.seq (.reg simpl_BestNow_r2) (.ret)) (.skip))) (.seq (.reg simpl_BestNow_r3) (.ret)))
def simpl_BestNow : SFn := { nslots := 5, nobjs := 1, params := [0, 1], ngiven := 0, bor := false, takes := [], body := simpl_BestNow_b, results := [.slot 3] }
def simpl_BestNow_t : List Tmp := [0, 1, 2, 4, 8]
attribute [simp] simpl_BestNow_r0 simpl_BestNow_r1 simpl_BestNow_r2 simpl_BestNow_r3 simpl_BestNow_b simpl_BestNow
def sspec_BestFor_r0 : Reg :=
  { id := 0, ops := [{ op := .box 0 (.slot 0) },
      { op := .mv (.con (.sc (.int .i64 0))) }], sets := [(2, 0)], clr := [0, 3] }
def sspec_BestFor_r1 : Reg :=
  { id := 1, ops := [{ op := .load (some 4) (.slot 2) },
      { op := .call 207 [(false, .loc 0)] [] },
      { op := .un .not (.loc 1) }], sets := [(4, 2)] }
def sspec_BestFor_r2 : Reg :=
  { id := 2, ops := [{ op := .mv (.con (.sc (.int .i64 0))) }], sets := [(3, 0)], clr := [1, 2] }
def sspec_BestFor_r3 : Reg :=
  { id := 3, draw := true, ops := [{ op := .mv (.slot 1), tau := some [], om := [] },
      { op := .fieldAddr (.slot 2) 0, tau := some [], om := [] },
      { op := .load none (.loc 1), tau := some [0], om := [] },
      { op := .fieldAddr (.slot 2) 2, tau := some [], om := [] },
      { op := .load none (.loc 3), tau := some [0], om := [] },
      { op := .fieldAddr (.slot 2) 0, tau := some [], om := [] },
      { op := .load none (.loc 5), tau := some [0], om := [] },
      { op := .call 222 [(false, .loc 4), (false, .loc 6)] [1], tau := some [1], om := [1] },
      { op := .call 223 [(false, .loc 2), (false, .loc 7)] [2], tau := some [1, 2], om := [2] },
      { op := .call 168 [(false, .loc 0), (false, .loc 8)] [], tau := some [2], om := [] },
      { op := .mv (.loc 9), tau := some [], om := [] }], sets := [(3, 10)], clr := [1, 2] }
def sspec_BestFor_b : SC := .seq (.reg sspec_BestFor_r0) (.seq (.seq (.reg sspec_BestFor_r1) (.cond 4 (.seq (.reg sspec_BestFor_r2) (.ret)) (.skip))) (.seq (.reg sspec_BestFor_r3) (.ret)))
def sspec_BestFor : SFn := { nslots := 5, nobjs := 3, params := [0, 1], ngiven := 0, bor := false, takes := [], body := sspec_BestFor_b, results := [.slot 3] }
def sspec_BestFor_t : List Tmp := [0, 1, 2, 4, 7]
attribute [simp] sspec_BestFor_r0 sspec_BestFor_r1 sspec_BestFor_r2 sspec_BestFor_r3 sspec_BestFor_b sspec_BestFor
def simpl_BestFor_r0 : Reg :=
  { id := 0, ops := [{ op := .box 0 (.slot 0) },
      { op := .mv (.con (.sc (.int .i64 0))) }], sets := [(2, 0)], clr := [0, 3] }
def simpl_BestFor_r1 : Reg :=
  { id := 1, ops := [{ op := .load (some 4) (.slot 2) },
      { op := .call 239 [(false, .loc 0)] [] },
      { op := .un .not (.loc 1) }], sets := [(4, 2)] }
def simpl_BestFor_r2 : Reg :=
  { id := 2, ops := [{ op := .mv (.con (.sc (.int .i64 0))) }], sets := [(3, 0)], clr := [1, 2] }
def simpl_BestFor_r3 : Reg :=
  { id := 3, draw := true, ops := [{ op := .mv (.slot 1), tau := some [], om := [] },
      { op := .fieldAddr (.slot 2) 0, tau := some [], om := [] },
      { op := .load none (.loc 1), tau := some [0], om := [] },
      { op := .fieldAddr (.slot 2) 2, tau := some [], om := [] },
      { op := .load none (.loc 3), tau := some [0], om := [] },
      { op := .fieldAddr (.slot 2) 0, tau := some [], om := [] },
      { op := .load none (.loc 5), tau := some [0], om := [] },
      { op := .call 240 [(false, .loc 4), (false, .loc 6)] [1], tau := some [1], om := [1] },
      { op := .call 189 [(false, .loc 2), (false, .loc 7)] [2], tau := some [1, 2], om := [2] },
      { op := .call 190 [(false, .loc 0), (false, .loc 8)] [], tau := some [2], om := [] },
      { op := .mv (.loc 9), tau := some [], om := [] }], sets := [(3, 10)], clr := [1, 2] }
def simpl_BestFor_b : SC := .seq (.reg simpl_BestFor_r0) (.seq (.seq (.reg simpl_BestFor_r1) (.cond 4 (.seq (.reg simpl_BestFor_r2) (.ret)) (.skip))) (.seq (.reg simpl_BestFor_r3) (.ret)))
def simpl_BestFor : SFn := { nslots := 5, nobjs := 3, params := [0, 1], ngiven := 0, bor := false, takes := [], body := simpl_BestFor_b, results := [.slot 3] }
def simpl_BestFor_t : List Tmp := [0, 1, 2, 4, 7]
attribute [simp] simpl_BestFor_r0 simpl_BestFor_r1 simpl_BestFor_r2 simpl_BestFor_r3 simpl_BestFor_b simpl_BestFor
def sspec_l21Left_r0 : Reg :=
  { id := 0, ops := [{ op := .mv (.con (.nil 1)) }], clr := [2] }
def sspec_l21Left_r1 : Reg :=
  { id := 1, ops := [{ op := .buildSlice 0 1 0 [] },
      { op := .mv (.loc 0) }], sets := [(3, 1)], ghosts := [.ren 0 3] }
def sspec_l21Left_r2 : Reg :=
  { id := 2, ops := [{ op := .mv (.con (.sc (.int .i64 0))) }], sets := [(4, 0)] }
def sspec_l21Left_r3 : Reg :=
  { id := 3, ops := [{ op := .mv (.slot 4) },
      { op := .mv (.slot 0) },
      { op := .len false (.loc 1) },
      { op := .bin .lss (.loc 0) (.loc 2) }], sets := [(5, 3)] }
def sspec_l21Left_r4 : Reg :=
  { id := 5, ops := [{ op := .mv (.slot 1) },
      { op := .mv (.slot 0) },
      { op := .mv (.slot 4) },
      { op := .indexAddr 1 (.loc 1) (.loc 2) },
      { op := .load none (.loc 3) },
      { op := .call 166 [(false, .loc 0), (false, .loc 4)] [] },
      { op := .un .not (.loc 5) }], sets := [(6, 6)] }
def sspec_l21Left_r5 : Reg :=
  { id := 6, fresh := [1, 2], ops := [{ op := .mv (.slot 3) },
      { op := .mv (.slot 0) },
      { op := .mv (.slot 4) },
      { op := .indexAddr 1 (.loc 1) (.loc 2) },
      { op := .load none (.loc 3) },
      { op := .buildSlice 1 1 1 [.loc 4] },
      { op := .append 2 1 8 false (.loc 0) (.loc 5) },
      { op := .mv (.loc 6) }], sets := [(3, 7)], ghosts := [.ren 2 3] }
def sspec_l21Left_r6 : Reg :=
  { id := 4, ops := [{ op := .mv (.slot 4) },
      { op := .bin .add (.loc 0) (.con (.sc (.int .i64 1))) },
      { op := .mv (.loc 1) }], sets := [(4, 2)] }
def sspec_l21Left_r7 : Reg :=
  { id := 7, ops := [{ op := .mv (.slot 3) },
      { op := .mv (.loc 0) }], sets := [(2, 1)], clr := [0, 1, 3, 4] }
def sspec_l21Left_b : SC := .seq (.reg sspec_l21Left_r0) (.seq (.reg sspec_l21Left_r1) (.seq (.seq (.reg sspec_l21Left_r2) (.block 0 (.loop (.seq (.seq (.reg sspec_l21Left_r3) (.cond 5 (.skip) (.exit 0))) (.seq (.block 1 (.seq (.reg sspec_l21Left_r4) (.cond 6 (.reg sspec_l21Left_r5) (.skip)))) (.reg sspec_l21Left_r6)))))) (.seq (.reg sspec_l21Left_r7) (.ret))))
def sspec_l21Left : SFn := { nslots := 7, nobjs := 4, params := [0, 1], ngiven := 0, bor := false, takes := [], body := sspec_l21Left_b, results := [.slot 2] }
def sspec_l21Left_t : List Tmp := [0, 1, 4, 5, 6, 11, 20]
attribute [simp] sspec_l21Left_r0 sspec_l21Left_r1 sspec_l21Left_r2 sspec_l21Left_r3 sspec_l21Left_r4 sspec_l21Left_r5 sspec_l21Left_r6 sspec_l21Left_r7 sspec_l21Left_b sspec_l21Left
def sspec_LostVersions_r0 : Reg :=
  { id := 0, ops := [{ op := .mv (.con (.nil 1)) }], clr := [2] }
def sspec_LostVersions_r1 : Reg :=
  { id := 1, ops := [{ op := .buildSlice 0 1 0 [] },
      { op := .mv (.loc 0) }], sets := [(3, 1)], ghosts := [.ren 0 3] }
def sspec_LostVersions_r2 : Reg :=
  { id := 2, ops := [{ op := .mv (.con (.sc (.int .i64 0))) }], sets := [(4, 0)] }
def sspec_LostVersions_r3 : Reg :=
  { id := 3, ops := [{ op := .mv (.slot 4) },
      { op := .mv (.slot 1) },
      { op := .len false (.loc 1) },
      { op := .bin .lss (.loc 0) (.loc 2) },
      { op := .mv (.loc 3) },
      { op := .mv (.slot 1), guard := some (4, true) },
      { op := .call 208 [(false, .loc 5)] [], guard := some (4, true) },
      { op := .pick (.loc 4) (.loc 6) (.con (.sc (.bool false))) }], sets := [(5, 7)] }
def sspec_LostVersions_r4 : Reg :=
  { id := 5, ops := [{ op := .mv (.slot 0) },
      { op := .mv (.slot 1) },
      { op := .mv (.slot 4) },
      { op := .mv (.slot 4) },
      { op := .bin .add (.loc 3) (.con (.sc (.int .i64 1))) },
      { op := .slice 1 (.loc 1) (some (.loc 2)) (some (.loc 4)) },
      { op := .call 260 [(false, .loc 0), (false, .loc 5)] [] },
      { op := .un .not (.loc 6) }], sets := [(6, 7)] }
def sspec_LostVersions_r5 : Reg :=
  { id := 6, fresh := [1, 2], ops := [{ op := .mv (.slot 3) },
      { op := .mv (.slot 1) },
      { op := .mv (.slot 4) },
      { op := .indexAddr 1 (.loc 1) (.loc 2) },
      { op := .load none (.loc 3) },
      { op := .buildSlice 1 1 1 [.loc 4] },
      { op := .append 2 1 8 false (.loc 0) (.loc 5) },
      { op := .mv (.loc 6) }], sets := [(3, 7)], ghosts := [.ren 2 3] }
def sspec_LostVersions_r6 : Reg :=
  { id := 4, ops := [{ op := .mv (.slot 4) },
      { op := .bin .add (.loc 0) (.con (.sc (.int .i64 1))) },
      { op := .mv (.loc 1) }], sets := [(4, 2)] }
def sspec_LostVersions_r7 : Reg :=
  { id := 7, ops := [{ op := .mv (.slot 3) },
      { op := .mv (.loc 0) }], sets := [(2, 1)], clr := [0, 1, 3, 4] }
def sspec_LostVersions_b : SC := .seq (.reg sspec_LostVersions_r0) (.seq (.reg sspec_LostVersions_r1) (.seq (.seq (.reg sspec_LostVersions_r2) (.block 0 (.loop (.seq (.seq (.reg sspec_LostVersions_r3) (.cond 5 (.skip) (.exit 0))) (.seq (.block 1 (.seq (.reg sspec_LostVersions_r4) (.cond 6 (.reg sspec_LostVersions_r5) (.skip)))) (.reg sspec_LostVersions_r6)))))) (.seq (.reg sspec_LostVersions_r7) (.ret))))
def sspec_LostVersions : SFn := { nslots := 7, nobjs := 4, params := [0, 1], ngiven := 0, bor := false, takes := [], body := sspec_LostVersions_b, results := [.slot 2] }
def sspec_LostVersions_t : List Tmp := [0, 1, 4, 5, 6, 15, 25]
attribute [simp] sspec_LostVersions_r0 sspec_LostVersions_r1 sspec_LostVersions_r2 sspec_LostVersions_r3 sspec_LostVersions_r4 sspec_LostVersions_r5 sspec_LostVersions_r6 sspec_LostVersions_r7 sspec_LostVersions_b sspec_LostVersions
def simpl_LostVersions_r0 : Reg :=
  { id := 0, ops := [{ op := .mv (.con (.nil 1)) }], clr := [2] }
def simpl_LostVersions_r1 : Reg :=
  { id := 1, ops := [{ op := .buildSlice 0 1 0 [] },
      { op := .mv (.loc 0) }], sets := [(3, 1)], ghosts := [.ren 0 9] }
def simpl_LostVersions_r2 : Reg :=
  { id := 2, ops := [{ op := .mv (.slot 1) },
      { op := .call 232 [(false, .loc 0)] [] },
      { op := .un .not (.loc 1) }], sets := [(6, 2)] }
def simpl_LostVersions_r3 : Reg :=
  { id := 3, ops := [{ op := .mv (.slot 3) },
      { op := .mv (.loc 0) }], sets := [(2, 1)], clr := [0, 1, 3] }
def simpl_LostVersions_r4 : Reg :=
  { id := 4, ops := [{ op := .mv (.slot 1) },
      { op := .len false (.loc 0) },
      { op := .mv (.con (.sc (.int .i64 0))) }], sets := [(7, 0), (8, 1), (9, 2)], clr := [1] }
def simpl_LostVersions_r5 : Reg :=
  { id := 5, ops := [{ op := .bin .lss (.slot 9) (.slot 8) }], sets := [(10, 0)] }
def simpl_LostVersions_r6 : Reg :=
  { id := 6, ops := [{ op := .indexAddr 1 (.slot 7) (.slot 9) },
      { op := .load none (.loc 0) },
      { op := .mv (.loc 1) }], sets := [(4, 2)] }
def simpl_LostVersions_r7 : Reg :=
  { id := 7, fresh := [1, 2, 3, 4, 5, 6], ops := [{ op := .mv (.slot 0) },
      { op := .mv (.slot 4) },
      { op := .buildSlice 1 1 1 [.loc 1] },
      { op := .call 273 [(false, .loc 2)] [2, 3] },
      { op := .call 274 [(false, .loc 0), (false, .loc 3)] [4, 5] },
      { op := .mv (.loc 4) },
      { op := .extract (.loc 5) 0 },
      { op := .extract (.loc 5) 1 },
      { op := .alloc 6 [.nil 1, .nil 2] },
      { op := .store 2 (.loc 8) (.loc 6) },
      { op := .mv (.loc 7) }], sets := [(5, 10)] }
def simpl_LostVersions_r8 : Reg :=
  { id := 8, ops := [{ op := .mv (.slot 5) },
      { op := .un .not (.loc 0) }], sets := [(11, 1)], clr := [5] }
def simpl_LostVersions_r9 : Reg :=
  { id := 9, fresh := [7, 8], ops := [{ op := .mv (.slot 3) },
      { op := .mv (.slot 4) },
      { op := .buildSlice 7 1 1 [.loc 1] },
      { op := .append 8 1 8 false (.loc 0) (.loc 2) },
      { op := .mv (.loc 3) }], sets := [(3, 4)], ghosts := [.ren 8 9], clr := [4] }
def simpl_LostVersions_r10 : Reg :=
  { id := 10, ops := [{ op := .bin .add (.slot 9) (.con (.sc (.int .i64 1))) },
      { op := .mv (.loc 0) }], sets := [(9, 1)] }
def simpl_LostVersions_r11 : Reg :=
  { id := 11, ops := [{ op := .mv (.slot 3) },
      { op := .mv (.loc 0) }], sets := [(2, 1)], clr := [0, 3, 7, 8, 9] }
def simpl_LostVersions_b : SC := .seq (.reg simpl_LostVersions_r0) (.seq (.reg simpl_LostVersions_r1) (.seq (.seq (.reg simpl_LostVersions_r2) (.cond 6 (.seq (.reg simpl_LostVersions_r3) (.ret)) (.skip))) (.seq (.seq (.reg simpl_LostVersions_r4) (.block 0 (.loop (.seq (.reg simpl_LostVersions_r5) (.seq (.cond 10 (.skip) (.exit 0)) (.seq (.block 1 (.seq (.reg simpl_LostVersions_r6) (.seq (.reg simpl_LostVersions_r7) (.seq (.reg simpl_LostVersions_r8) (.cond 11 (.reg simpl_LostVersions_r9) (.skip)))))) (.reg simpl_LostVersions_r10))))))) (.seq (.reg simpl_LostVersions_r11) (.ret)))))
def simpl_LostVersions : SFn := { nslots := 12, nobjs := 10, params := [0, 1], ngiven := 0, bor := false, takes := [], body := simpl_LostVersions_b, results := [.slot 2] }
def simpl_LostVersions_t : List Tmp := [0, 1, 4, 5, 7, 9, 13, 15, 16, 17, 18, 30]
attribute [simp] simpl_LostVersions_r0 simpl_LostVersions_r1 simpl_LostVersions_r2 simpl_LostVersions_r3 simpl_LostVersions_r4 simpl_LostVersions_r5 simpl_LostVersions_r6 simpl_LostVersions_r7 simpl_LostVersions_r8 simpl_LostVersions_r9 simpl_LostVersions_r10 simpl_LostVersions_r11 simpl_LostVersions_b simpl_LostVersions
def sspec_IsOpenPath_r0 : Reg :=
  { id := 0, ops := [{ op := .mv (.con (.sc (.bool false))) }], clr := [2] }
def sspec_IsOpenPath_r1 : Reg :=
  { id := 1, ops := [{ op := .mv (.slot 1) },
      { op := .call 208 [(false, .loc 0)] [] },
      { op := .un .not (.loc 1) }], sets := [(4, 2)] }
def sspec_IsOpenPath_r2 : Reg :=
  { id := 2, ops := [{ op := .mv (.con (.sc (.bool false))) }], sets := [(2, 0)], clr := [0, 1] }
def sspec_IsOpenPath_r3 : Reg :=
  { id := 3, ops := [{ op := .mv (.slot 0) },
      { op := .mv (.slot 1) },
      { op := .slice 1 (.loc 1) none (some (.con (.sc (.int .i64 1)))) },
      { op := .call 256 [(false, .loc 2)] [0, 1] },
      { op := .call 286 [(false, .loc 0), (false, .loc 3)] [2, 3] },
      { op := .mv (.loc 4) },
      { op := .extract (.loc 5) 0 },
      { op := .extract (.loc 5) 1 },
      { op := .alloc 4 [.nil 1, .nil 2] },
      { op := .store 2 (.loc 8) (.loc 6) },
      { op := .mv (.loc 7) }], sets := [(3, 10)], clr := [0, 1] }
def sspec_IsOpenPath_r4 : Reg :=
  { id := 4, ops := [{ op := .mv (.slot 3) },
      { op := .mv (.loc 0) }], sets := [(2, 1)], clr := [3] }
def sspec_IsOpenPath_b : SC := .seq (.reg sspec_IsOpenPath_r0) (.seq (.seq (.reg sspec_IsOpenPath_r1) (.cond 4 (.seq (.reg sspec_IsOpenPath_r2) (.ret)) (.skip))) (.seq (.reg sspec_IsOpenPath_r3) (.seq (.reg sspec_IsOpenPath_r4) (.ret))))
def sspec_IsOpenPath : SFn := { nslots := 5, nobjs := 5, params := [0, 1], ngiven := 0, bor := false, takes := [], body := sspec_IsOpenPath_b, results := [.slot 2] }
def sspec_IsOpenPath_t : List Tmp := [0, 1, 4, 6, 9]
attribute [simp] sspec_IsOpenPath_r0 sspec_IsOpenPath_r1 sspec_IsOpenPath_r2 sspec_IsOpenPath_r3 sspec_IsOpenPath_r4 sspec_IsOpenPath_b sspec_IsOpenPath
def simpl_PassPath_r0 : Reg :=
  { id := 0, ops := [{ op := .box 0 (.slot 1) },
      { op := .alloc 1 [.nil 1, .nil 2] },
      { op := .mv (.con (.sc (.bool false))) }], sets := [(2, 0), (3, 1)], clr := [1, 4] }
def simpl_PassPath_r1 : Reg :=
  { id := 1, ops := [{ op := .load (some 2) (.slot 2) },
      { op := .call 292 [(false, .loc 0)] [] },
      { op := .un .not (.loc 1) },
      { op := .mv (.loc 2) },
      { op := .mv (.slot 0), guard := some (3, false) },
      { op := .len false (.loc 4), guard := some (3, false) },
      { op := .bin .gtr (.loc 5) (.con (.sc (.int .i64 4))), guard := some (3, false) },
      { op := .pick (.loc 3) (.con (.sc (.bool true))) (.loc 6) }], sets := [(8, 7)] }
def simpl_PassPath_r2 : Reg :=
  { id := 2, ops := [{ op := .build [.nil 1, .nil 2] [] },
      { op := .store 2 (.slot 3) (.loc 0) },
      { op := .mv (.con (.sc (.bool false))) }], sets := [(4, 2)], clr := [0, 2] }
def simpl_PassPath_r3 : Reg :=
  { id := 3, ops := [{ op := .load (some 2) (.slot 2) },
      { op := .call 293 [(false, .loc 0)] [2, 3] },
      { op := .alloc 4 [.nil 1, .nil 2] },
      { op := .store 2 (.loc 2) (.loc 1) },
      { op := .mv (.con (.sc (.bool true))) }], sets := [(5, 2), (6, 4)], ghosts := [.ren 2 7, .ren 3 8], clr := [2] }
def simpl_PassPath_r4 : Reg :=
  { id := 4, ops := [{ op := .mv (.con (.sc (.int .i64 0))) }], sets := [(7, 0)] }
def simpl_PassPath_r5 : Reg :=
  { id := 5, ops := [{ op := .mv (.slot 7) },
      { op := .mv (.slot 0) },
      { op := .len false (.loc 1) },
      { op := .bin .lss (.loc 0) (.loc 2) },
      { op := .mv (.loc 3) },
      { op := .mv (.slot 6), guard := some (4, true) },
      { op := .pick (.loc 4) (.loc 5) (.con (.sc (.bool false))) }], sets := [(9, 6)] }
def simpl_PassPath_r6 : Reg :=
  { id := 7, draw := true, fresh := [5, 6], ops := [{ op := .mv (.slot 0), tau := some [], om := [] },
      { op := .mv (.slot 7), tau := some [], om := [] },
      { op := .indexAddr 4 (.loc 0) (.loc 1), tau := some [], om := [] },
      { op := .load (some 4) (.loc 2), tau := some [], om := [] },
      { op := .load (some 2) (.slot 5), tau := some [4], om := [] },
      { op := .call 294 [(false, .loc 3), (false, .loc 4)] [5, 6], tau := some [5, 6, 7, 8], om := [5, 6] },
      { op := .mv (.loc 5), tau := some [], om := [] },
      { op := .extract (.loc 6) 0, tau := some [], om := [] },
      { op := .extract (.loc 6) 1, tau := some [], om := [] },
      { op := .store 2 (.slot 5) (.loc 7), tau := some [4], om := [4] },
      { op := .mv (.loc 8), tau := some [], om := [] }], sets := [(6, 10)], ghosts := [.ren 5 7, .ren 6 8] }
def simpl_PassPath_r7 : Reg :=
  { id := 6, ops := [{ op := .mv (.slot 7) },
      { op := .bin .add (.loc 0) (.con (.sc (.int .i64 1))) },
      { op := .mv (.loc 1) }], sets := [(7, 2)] }
def simpl_PassPath_r8 : Reg :=
  { id := 8, ops := [{ op := .load (some 2) (.slot 5) },
      { op := .mv (.slot 6) },
      { op := .store 2 (.slot 3) (.loc 0) },
      { op := .mv (.loc 1) }], sets := [(4, 3)], clr := [0, 5, 6, 7] }
def simpl_PassPath_b : SC := .seq (.reg simpl_PassPath_r0) (.seq (.seq (.reg simpl_PassPath_r1) (.cond 8 (.seq (.reg simpl_PassPath_r2) (.ret)) (.skip))) (.seq (.reg simpl_PassPath_r3) (.seq (.seq (.reg simpl_PassPath_r4) (.block 0 (.loop (.seq (.seq (.reg simpl_PassPath_r5) (.cond 9 (.skip) (.exit 0))) (.seq (.block 1 (.reg simpl_PassPath_r6)) (.reg simpl_PassPath_r7)))))) (.seq (.reg simpl_PassPath_r8) (.ret)))))
def simpl_PassPath : SFn := { nslots := 10, nobjs := 9, params := [0, 1], ngiven := 0, bor := false, takes := [], body := simpl_PassPath_b, results := [.cell 3 (some 2), .slot 4] }
def simpl_PassPath_t : List Tmp := [0, 1, 3, 4, 5, 6, 7, 8, 16, 26]
attribute [simp] simpl_PassPath_r0 simpl_PassPath_r1 simpl_PassPath_r2 simpl_PassPath_r3 simpl_PassPath_r4 simpl_PassPath_r5 simpl_PassPath_r6 simpl_PassPath_r7 simpl_PassPath_r8 simpl_PassPath_b simpl_PassPath
def simpl_PlainHello_r0 : Reg :=
  { id := 0, ops := [{ op := .alloc 0 [.nil 1, .nil 2] }], sets := [(1, 0)] }
def simpl_PlainHello_r1 : Reg :=
  { id := 1, ops := [{ op := .buildSlice 1 1 0 [] },
      { op := .mv (.slot 0) },
      { op := .append 2 1 8 false (.loc 0) (.loc 1) },
      { op := .build [.nil 1, .nil 2] [(0, 1, .loc 2)] },
      { op := .store 2 (.slot 1) (.loc 3) }], clr := [0] }
def simpl_PlainHello_b : SC := .seq (.reg simpl_PlainHello_r0) (.seq (.reg simpl_PlainHello_r1) (.ret))
def simpl_PlainHello : SFn := { nslots := 2, nobjs := 3, params := [0], ngiven := 0, bor := false, takes := [], body := simpl_PlainHello_b, results := [.cell 1 (some 2)] }
def simpl_PlainHello_t : List Tmp := [0, 2]
attribute [simp] simpl_PlainHello_r0 simpl_PlainHello_r1 simpl_PlainHello_b simpl_PlainHello
def sspec_PassPath_r0 : Reg :=
  { id := 0, ops := [{ op := .box 0 (.slot 1) },
      { op := .alloc 1 [.nil 1, .nil 2] },
      { op := .mv (.con (.sc (.bool false))) }], sets := [(2, 0), (3, 1)], clr := [1, 4] }
def sspec_PassPath_r1 : Reg :=
  { id := 1, ops := [{ op := .mv (.slot 0) },
      { op := .len false (.loc 0) },
      { op := .bin .gtr (.loc 1) (.con (.sc (.int .i64 4))) },
      { op := .mv (.loc 2) },
      { op := .load (some 2) (.slot 2), guard := some (3, false) },
      { op := .call 285 [(false, .loc 4)] [], guard := some (3, false) },
      { op := .un .not (.loc 5), guard := some (3, false) },
      { op := .pick (.loc 3) (.con (.sc (.bool true))) (.loc 6) }], sets := [(9, 7)] }
def sspec_PassPath_r2 : Reg :=
  { id := 2, ops := [{ op := .build [.nil 1, .nil 2] [] },
      { op := .store 2 (.slot 3) (.loc 0) },
      { op := .mv (.con (.sc (.bool false))) }], sets := [(4, 2)], clr := [0, 2] }
def sspec_PassPath_r3 : Reg :=
  { id := 3, ops := [{ op := .load (some 2) (.slot 2) },
      { op := .call 301 [(false, .loc 0)] [2, 3] },
      { op := .alloc 4 [.nil 1, .nil 2] },
      { op := .store 2 (.loc 2) (.loc 1) }], sets := [(5, 2)], ghosts := [.ren 2 8, .ren 3 9], clr := [2] }
def sspec_PassPath_r4 : Reg :=
  { id := 4, ops := [{ op := .mv (.con (.sc (.int .i64 0))) }], sets := [(6, 0)] }
def sspec_PassPath_r5 : Reg :=
  { id := 5, ops := [{ op := .mv (.slot 6) },
      { op := .mv (.slot 0) },
      { op := .len false (.loc 1) },
      { op := .bin .lss (.loc 0) (.loc 2) }], sets := [(10, 3)] }
def sspec_PassPath_r6 : Reg :=
  { id := 7, draw := true, fresh := [5, 6, 7], ops := [{ op := .mv (.slot 0), tau := some [], om := [] },
      { op := .mv (.slot 6), tau := some [], om := [] },
      { op := .indexAddr 4 (.loc 0) (.loc 1), tau := some [], om := [] },
      { op := .load (some 4) (.loc 2), tau := some [], om := [] },
      { op := .load (some 2) (.slot 5), tau := some [4], om := [] },
      { op := .call 258 [(false, .loc 3), (false, .loc 4)] [5, 6], tau := some [5, 6, 8, 9], om := [5, 6] },
      { op := .mv (.loc 5), tau := some [], om := [] },
      { op := .extract (.loc 6) 0, tau := some [], om := [] },
      { op := .extract (.loc 6) 1, tau := some [], om := [] },
      { op := .alloc 7 [.nil 1, .nil 2], tau := some [7], om := [7] },
      { op := .store 2 (.loc 9) (.loc 7), tau := some [7], om := [7] },
      { op := .mv (.loc 8), tau := some [], om := [] }], sets := [(7, 9), (8, 11)] }
def sspec_PassPath_r7 : Reg :=
  { id := 8, ops := [{ op := .mv (.slot 8) },
      { op := .un .not (.loc 0) }], sets := [(11, 1)], clr := [8] }
def sspec_PassPath_r8 : Reg :=
  { id := 9, ops := [{ op := .build [.nil 1, .nil 2] [] },
      { op := .store 2 (.slot 3) (.loc 0) },
      { op := .mv (.con (.sc (.bool false))) }], sets := [(4, 2)], clr := [0, 5, 6, 7] }
def sspec_PassPath_r9 : Reg :=
  { id := 10, ops := [{ op := .load (some 2) (.slot 7) },
      { op := .store 2 (.slot 5) (.loc 0) }], ghosts := [.ren 5 8, .ren 6 9], clr := [7] }
def sspec_PassPath_r10 : Reg :=
  { id := 6, ops := [{ op := .mv (.slot 6) },
      { op := .bin .add (.loc 0) (.con (.sc (.int .i64 1))) },
      { op := .mv (.loc 1) }], sets := [(6, 2)] }
def sspec_PassPath_r11 : Reg :=
  { id := 11, ops := [{ op := .load (some 2) (.slot 5) },
      { op := .store 2 (.slot 3) (.loc 0) },
      { op := .mv (.con (.sc (.bool true))) }], sets := [(4, 2)], clr := [0, 5, 6] }
def sspec_PassPath_b : SC := .seq (.reg sspec_PassPath_r0) (.seq (.seq (.reg sspec_PassPath_r1) (.cond 9 (.seq (.reg sspec_PassPath_r2) (.ret)) (.skip))) (.seq (.reg sspec_PassPath_r3) (.seq (.seq (.reg sspec_PassPath_r4) (.block 0 (.loop (.seq (.seq (.reg sspec_PassPath_r5) (.cond 10 (.skip) (.exit 0))) (.seq (.block 1 (.seq (.reg sspec_PassPath_r6) (.seq (.seq (.reg sspec_PassPath_r7) (.cond 11 (.seq (.reg sspec_PassPath_r8) (.ret)) (.skip))) (.reg sspec_PassPath_r9)))) (.reg sspec_PassPath_r10)))))) (.seq (.reg sspec_PassPath_r11) (.ret)))))
def sspec_PassPath : SFn := { nslots := 12, nobjs := 10, params := [0, 1], ngiven := 0, bor := false, takes := [], body := sspec_PassPath_b, results := [.cell 3 (some 2), .slot 4] }
def sspec_PassPath_t : List Tmp := [0, 1, 3, 4, 5, 6, 7, 8, 9, 17, 24, 37]
attribute [simp] sspec_PassPath_r0 sspec_PassPath_r1 sspec_PassPath_r2 sspec_PassPath_r3 sspec_PassPath_r4 sspec_PassPath_r5 sspec_PassPath_r6 sspec_PassPath_r7 sspec_PassPath_r8 sspec_PassPath_r9 sspec_PassPath_r10 sspec_PassPath_r11 sspec_PassPath_b sspec_PassPath
def simpl_copyHello_r0 : Reg :=
  { id := 0, ops := [{ op := .box 0 (.slot 0) },
      { op := .alloc 1 [.nil 1, .nil 2] }], sets := [(1, 0), (2, 1)], clr := [0] }
def simpl_copyHello_r1 : Reg :=
  { id := 1, draw := true, ops := [{ op := .buildSlice 2 1 0 [], tau := some [2], om := [2] },
      { op := .fieldAddr (.slot 1) 0, tau := some [], om := [] },
      { op := .load none (.loc 1), tau := some [0], om := [] },
      { op := .append 3 1 8 false (.loc 0) (.loc 2), tau := some [2, 3], om := [2, 3] },
      { op := .fieldAddr (.slot 1) 1, tau := some [], om := [] },
      { op := .load none (.loc 4), tau := some [0], om := [] },
      { op := .call 318 [(false, .loc 5)] [4], tau := some [4], om := [4] },
      { op := .build [.nil 1, .nil 2] [(0, 1, .loc 3), (1, 1, .loc 6)], tau := some [], om := [] },
      { op := .store 2 (.slot 2) (.loc 7), tau := some [1], om := [1] }], clr := [1] }
def simpl_copyHello_b : SC := .seq (.reg simpl_copyHello_r0) (.seq (.reg simpl_copyHello_r1) (.ret))
def simpl_copyHello : SFn := { nslots := 3, nobjs := 5, params := [0], ngiven := 0, bor := false, takes := [], body := simpl_copyHello_b, results := [.cell 2 (some 2)] }
def simpl_copyHello_t : List Tmp := [0, 1, 2]
attribute [simp] simpl_copyHello_r0 simpl_copyHello_r1 simpl_copyHello_b simpl_copyHello
def sspec_l18Hello_r0 : Reg :=
  { id := 0, ops := [{ op := .box 0 (.slot 0) },
      { op := .alloc 1 [.nil 1, .nil 2] }], sets := [(1, 0), (2, 1)], clr := [0] }
def sspec_l18Hello_r1 : Reg :=
  { id := 1, draw := true, ops := [{ op := .buildSlice 2 1 0 [], tau := some [2], om := [2] },
      { op := .fieldAddr (.slot 1) 0, tau := some [], om := [] },
      { op := .load none (.loc 1), tau := some [0], om := [] },
      { op := .append 3 1 8 false (.loc 0) (.loc 2), tau := some [2, 3], om := [2, 3] },
      { op := .fieldAddr (.slot 1) 1, tau := some [], om := [] },
      { op := .load none (.loc 4), tau := some [0], om := [] },
      { op := .call 311 [(false, .loc 5)] [4], tau := some [4], om := [4] },
      { op := .build [.nil 1, .nil 2] [(0, 1, .loc 3), (1, 1, .loc 6)], tau := some [], om := [] },
      { op := .store 2 (.slot 2) (.loc 7), tau := some [1], om := [1] }], clr := [1] }
def sspec_l18Hello_b : SC := .seq (.reg sspec_l18Hello_r0) (.seq (.reg sspec_l18Hello_r1) (.ret))
def sspec_l18Hello : SFn := { nslots := 3, nobjs := 5, params := [0], ngiven := 0, bor := false, takes := [], body := sspec_l18Hello_b, results := [.cell 2 (some 2)] }
def sspec_l18Hello_t : List Tmp := [0, 1, 2]
attribute [simp] sspec_l18Hello_r0 sspec_l18Hello_r1 sspec_l18Hello_b sspec_l18Hello
def simpl_copyExts_r0 : Reg :=
  { id := 0, ops := [{ op := .mv (.con (.nil 2)) }], clr := [1] }
def simpl_copyExts_r1 : Reg :=
  { id := 1, ops := [{ op := .mv (.slot 0) },
      { op := .call 298 [(false, .loc 0), (false, .con (.fn 350 []))] [0] },
      { op := .mv (.loc 1) }], sets := [(1, 2)], clr := [0] }
def simpl_copyExts_b : SC := .seq (.reg simpl_copyExts_r0) (.seq (.reg simpl_copyExts_r1) (.ret))
def simpl_copyExts : SFn := { nslots := 2, nobjs := 1, params := [0], ngiven := 0, bor := false, takes := [], body := simpl_copyExts_b, results := [.slot 1] }
def simpl_copyExts_t : List Tmp := [0, 2]
attribute [simp] simpl_copyExts_r0 simpl_copyExts_r1 simpl_copyExts_b simpl_copyExts
def sspec_l11Copy_r0 : Reg :=
  { id := 0, ops := [{ op := .mv (.con (.nil 2)) }], clr := [1] }
def sspec_l11Copy_r1 : Reg :=
  { id := 1, ops := [{ op := .mv (.slot 0) },
      { op := .mv (.slot 0) },
      { op := .call 308 [(false, .loc 1)] [0] },
      { op := .call 331 [(false, .loc 0), (false, .loc 2)] [1] },
      { op := .mv (.loc 3) }], sets := [(1, 4)], clr := [0] }
def sspec_l11Copy_b : SC := .seq (.reg sspec_l11Copy_r0) (.seq (.reg sspec_l11Copy_r1) (.ret))
def sspec_l11Copy : SFn := { nslots := 2, nobjs := 2, params := [0], ngiven := 0, bor := false, takes := [], body := sspec_l11Copy_b, results := [.slot 1] }
def sspec_l11Copy_t : List Tmp := [0, 2]
attribute [simp] sspec_l11Copy_r0 sspec_l11Copy_r1 sspec_l11Copy_b sspec_l11Copy
def simpl_copyExts_1_r0 : Reg :=
  { id := 0, ops := [{ op := .mv (.con (.sc (.bool false))) }], clr := [0, 1] }
def simpl_copyExts_1_r1 : Reg :=
  { id := 1, ops := [{ op := .mv (.con (.sc (.bool true))) }], sets := [(1, 0)] }
def simpl_copyExts_1_b : SC := .seq (.reg simpl_copyExts_1_r0) (.seq (.reg simpl_copyExts_1_r1) (.ret))
def simpl_copyExts_1 : SFn := { nslots := 2, nobjs := 0, params := [0], ngiven := 0, bor := false, takes := [], body := simpl_copyExts_1_b, results := [.slot 1] }
def simpl_copyExts_1_t : List Tmp := [0, 2]
attribute [simp] simpl_copyExts_1_r0 simpl_copyExts_1_r1 simpl_copyExts_1_b simpl_copyExts_1
def sspec_KnownOf_r0 : Reg :=
  { id := 0, ops := [{ op := .mv (.con (.nil 2)) }], clr := [2] }
def sspec_KnownOf_r1 : Reg :=
  { id := 1, ops := [{ op := .buildSlice 0 2 0 [] },
      { op := .mv (.loc 0) }], sets := [(3, 1)], ghosts := [.ren 0 5] }
def sspec_KnownOf_r2 : Reg :=
  { id := 2, ops := [{ op := .mv (.con (.sc (.int .i64 0))) }], sets := [(4, 0)] }
def sspec_KnownOf_r3 : Reg :=
  { id := 3, ops := [{ op := .mv (.slot 4) },
      { op := .mv (.slot 0) },
      { op := .len false (.loc 1) },
      { op := .bin .lss (.loc 0) (.loc 2) }], sets := [(5, 3)] }
def sspec_KnownOf_r4 : Reg :=
  { id := 5, ops := [{ op := .mv (.slot 1) },
      { op := .mv (.slot 0) },
      { op := .mv (.slot 4) },
      { op := .indexAddr 2 (.loc 1) (.loc 2) },
      { op := .fieldAddr (.loc 3) 0 },
      { op := .load none (.loc 4) },
      { op := .call 166 [(false, .loc 0), (false, .loc 5)] [] }], sets := [(6, 6)] }
def sspec_KnownOf_r5 : Reg :=
  { id := 6, draw := true, fresh := [1, 2, 3, 4], ops := [{ op := .mv (.slot 3), tau := some [], om := [] },
      { op := .mv (.slot 0), tau := some [], om := [] },
      { op := .mv (.slot 4), tau := some [], om := [] },
      { op := .indexAddr 2 (.loc 1) (.loc 2), tau := some [], om := [] },
      { op := .fieldAddr (.loc 3) 0, tau := some [], om := [] },
      { op := .load none (.loc 4), tau := some [], om := [] },
      { op := .buildSlice 1 1 0 [], tau := some [1], om := [1] },
      { op := .mv (.slot 0), tau := some [], om := [] },
      { op := .mv (.slot 4), tau := some [], om := [] },
      { op := .indexAddr 2 (.loc 7) (.loc 8), tau := some [], om := [] },
      { op := .fieldAddr (.loc 9) 1, tau := some [], om := [] },
      { op := .load none (.loc 10), tau := some [], om := [] },
      { op := .append 2 1 8 false (.loc 6) (.loc 11), tau := some [1, 2], om := [1, 2] },
      { op := .build [.sc (.int .i64 0), .nil 1] [(0, 1, .loc 5), (1, 1, .loc 12)], tau := some [], om := [] },
      { op := .buildSlice 3 2 1 [.loc 13], tau := some [2, 3], om := [2, 3] },
      { op := .append 4 2 32 true (.loc 0) (.loc 14), tau := some [3, 4, 5], om := [3, 4, 5] },
      { op := .mv (.loc 15), tau := some [], om := [] }], sets := [(3, 16)], ghosts := [.ren 4 5] }
def sspec_KnownOf_r6 : Reg :=
  { id := 4, ops := [{ op := .mv (.slot 4) },
      { op := .bin .add (.loc 0) (.con (.sc (.int .i64 1))) },
      { op := .mv (.loc 1) }], sets := [(4, 2)] }
def sspec_KnownOf_r7 : Reg :=
  { id := 7, ops := [{ op := .mv (.slot 3) },
      { op := .mv (.loc 0) }], sets := [(2, 1)], clr := [0, 1, 3, 4] }
def sspec_KnownOf_b : SC := .seq (.reg sspec_KnownOf_r0) (.seq (.reg sspec_KnownOf_r1) (.seq (.seq (.reg sspec_KnownOf_r2) (.block 0 (.loop (.seq (.seq (.reg sspec_KnownOf_r3) (.cond 5 (.skip) (.exit 0))) (.seq (.block 1 (.seq (.reg sspec_KnownOf_r4) (.cond 6 (.reg sspec_KnownOf_r5) (.skip)))) (.reg sspec_KnownOf_r6)))))) (.seq (.reg sspec_KnownOf_r7) (.ret))))
def sspec_KnownOf : SFn := { nslots := 7, nobjs := 6, params := [0, 1], ngiven := 0, bor := false, takes := [], body := sspec_KnownOf_b, results := [.slot 2] }
def sspec_KnownOf_t : List Tmp := [0, 1, 4, 5, 6, 11, 20]
attribute [simp] sspec_KnownOf_r0 sspec_KnownOf_r1 sspec_KnownOf_r2 sspec_KnownOf_r3 sspec_KnownOf_r4 sspec_KnownOf_r5 sspec_KnownOf_r6 sspec_KnownOf_r7 sspec_KnownOf_b sspec_KnownOf
def sspec_TagsOf_r0 : Reg :=
  { id := 0, ops := [{ op := .mv (.con (.nil 1)) }], clr := [1] }
def sspec_TagsOf_r1 : Reg :=
  { id := 1, ops := [{ op := .buildSlice 0 1 0 [] },
      { op := .mv (.loc 0) }], sets := [(2, 1)], ghosts := [.ren 0 3] }
def sspec_TagsOf_r2 : Reg :=
  { id := 2, ops := [{ op := .mv (.con (.sc (.int .i64 0))) }], sets := [(3, 0)] }
def sspec_TagsOf_r3 : Reg :=
  { id := 3, ops := [{ op := .mv (.slot 3) },
      { op := .mv (.slot 0) },
      { op := .len false (.loc 1) },
      { op := .bin .lss (.loc 0) (.loc 2) }], sets := [(4, 3)] }
def sspec_TagsOf_r4 : Reg :=
  { id := 5, fresh := [1, 2], ops := [{ op := .mv (.slot 2) },
      { op := .mv (.slot 0) },
      { op := .mv (.slot 3) },
      { op := .indexAddr 2 (.loc 1) (.loc 2) },
      { op := .fieldAddr (.loc 3) 0 },
      { op := .load none (.loc 4) },
      { op := .buildSlice 1 1 1 [.loc 5] },
      { op := .append 2 1 8 false (.loc 0) (.loc 6) },
      { op := .mv (.loc 7) }], sets := [(2, 8)], ghosts := [.ren 2 3] }
def sspec_TagsOf_r5 : Reg :=
  { id := 4, ops := [{ op := .mv (.slot 3) },
      { op := .bin .add (.loc 0) (.con (.sc (.int .i64 1))) },
      { op := .mv (.loc 1) }], sets := [(3, 2)] }
def sspec_TagsOf_r6 : Reg :=
  { id := 6, ops := [{ op := .mv (.slot 2) },
      { op := .mv (.loc 0) }], sets := [(1, 1)], clr := [0, 2, 3] }
def sspec_TagsOf_b : SC := .seq (.reg sspec_TagsOf_r0) (.seq (.reg sspec_TagsOf_r1) (.seq (.seq (.reg sspec_TagsOf_r2) (.block 0 (.loop (.seq (.seq (.reg sspec_TagsOf_r3) (.cond 4 (.skip) (.exit 0))) (.seq (.block 1 (.reg sspec_TagsOf_r4)) (.reg sspec_TagsOf_r5)))))) (.seq (.reg sspec_TagsOf_r6) (.ret))))
def sspec_TagsOf : SFn := { nslots := 5, nobjs := 4, params := [0], ngiven := 0, bor := false, takes := [], body := sspec_TagsOf_b, results := [.slot 1] }
def sspec_TagsOf_t : List Tmp := [0, 2, 3, 4, 9]
attribute [simp] sspec_TagsOf_r0 sspec_TagsOf_r1 sspec_TagsOf_r2 sspec_TagsOf_r3 sspec_TagsOf_r4 sspec_TagsOf_r5 sspec_TagsOf_r6 sspec_TagsOf_b sspec_TagsOf
def slaws_FnExactReportNow_r0 : Reg :=
  { id := 0, ops := [{ op := .box 0 (.slot 0) },
      { op := .mv (.con (.sc (.bool false))) }], sets := [(2, 0)], clr := [0, 3] }
def slaws_FnExactReportNow_r1 : Reg :=
  { id := 1, ops := [{ op := .mv (.con (.sc (.int .i64 1048576))) }], sets := [(4, 0)] }
def slaws_FnExactReportNow_r2 : Reg :=
  { id := 2, ops := [{ op := .load (some 15) (.slot 2) },
      { op := .mv (.slot 4) },
      { op := .call 7 [(false, .loc 0), (false, .loc 1)] [] },
      { op := .mv (.loc 2) }], sets := [(4, 3)] }
def slaws_FnExactReportNow_r3 : Reg :=
  { id := 3, ops := [{ op := .mv (.slot 4) },
      { op := .bin .lss (.loc 0) (.con (.sc (.int .i64 0))) }], sets := [(12, 1)], clr := [4] }
def slaws_FnExactReportNow_r4 : Reg :=
  { id := 4, ops := [{ op := .mv (.con (.sc (.bool true))) }], sets := [(3, 0)], clr := [1, 2] }
def slaws_FnExactReportNow_r5 : Reg :=
  { id := 5, ops := [{ op := .load (some 15) (.slot 2) },
      { op := .call 8 [(false, .loc 0)] [1, 2, 3, 4, 5, 6] },
      { op := .mv (.slot 1) },
      { op := .call 97 [(false, .loc 1), (false, .loc 2)] [7] },
      { op := .mv (.loc 3) }], sets := [(5, 4)] }
def slaws_FnExactReportNow_r6 : Reg :=
  { id := 6, ops := [{ op := .load (some 15) (.slot 2) },
      { op := .call 8 [(false, .loc 0)] [8, 9, 10, 11, 12, 13] },
      { op := .alloc 14 [.nil 1, .nil 1, .sc (.int .i64 0), .nil 4, .sc (.int .i64 0), .nil 1, .sc (.int .i64 0), .sc (.bool false), .sc (.int .i64 0), .sc (.int .i64 0), .nil 5, .nil 8, .sc (.int .i64 0), .sc (.int .i64 0), .sc (.int .i64 0)] },
      { op := .store 15 (.loc 2) (.loc 1) }], sets := [(6, 2)] }
def slaws_FnExactReportNow_r7 : Reg :=
  { id := 7, ops := [{ op := .load (some 15) (.slot 6) },
      { op := .mv (.slot 1) },
      { op := .call 125 [(false, .loc 0), (false, .loc 1)] [15] },
      { op := .mv (.loc 2) }], sets := [(7, 3)] }
def slaws_FnExactReportNow_r8 : Reg :=
  { id := 8, ops := [{ op := .mv (.slot 7) },
      { op := .mv (.slot 5) },
      { op := .call 47 [(false, .loc 0), (false, .loc 1)] [] },
      { op := .un .not (.loc 2) }], sets := [(13, 3)] }
def slaws_FnExactReportNow_r9 : Reg :=
  { id := 9, ops := [{ op := .mv (.con (.sc (.bool false))) }], sets := [(3, 0)], clr := [1, 2, 5, 6, 7] }
def slaws_FnExactReportNow_r10 : Reg :=
  { id := 10, draw := true, ops := [{ op := .load (some 15) (.slot 6), tau := some [14], om := [] },
      { op := .load (some 15) (.slot 2), tau := some [0], om := [] },
      { op := .call 8 [(false, .loc 1)] [16, 17, 18, 19, 20, 21], tau := some [16, 17, 18, 19, 20, 21], om := [16, 17, 18, 19, 20, 21] },
      { op := .call 11 [(false, .loc 0), (false, .loc 2)] [], tau := some [8, 9, 10, 11, 12, 13, 16, 17, 18, 19, 20, 21], om := [] },
      { op := .un .not (.loc 3), tau := some [], om := [] }], sets := [(14, 4)] }
def slaws_FnExactReportNow_r11 : Reg :=
  { id := 11, ops := [{ op := .mv (.con (.sc (.bool false))) }], sets := [(3, 0)], clr := [1, 2, 5, 6, 7] }
def slaws_FnExactReportNow_r12 : Reg :=
  { id := 12, ops := [{ op := .mv (.con (.sc (.int .i64 1))) }], sets := [(8, 0)] }
def slaws_FnExactReportNow_r13 : Reg :=
  { id := 13, ops := [{ op := .load (some 15) (.slot 6) },
      { op := .mv (.slot 8) },
      { op := .call 12 [(true, .loc 0), (false, .loc 1)] [] },
      { op := .mv (.loc 2) }], sets := [(8, 3)], clr := [6] }
def slaws_FnExactReportNow_r14 : Reg :=
  { id := 14, ops := [{ op := .mv (.slot 8) },
      { op := .bin .lss (.loc 0) (.con (.sc (.int .i64 0))) },
      { op := .mv (.loc 1) },
      { op := .mv (.slot 7), guard := some (2, false) },
      { op := .mv (.slot 5), guard := some (2, false) },
      { op := .call 47 [(false, .loc 3), (false, .loc 4)] [], guard := some (2, false) },
      { op := .un .not (.loc 5), guard := some (2, false) },
      { op := .pick (.loc 2) (.con (.sc (.bool true))) (.loc 6) }], sets := [(15, 7)], clr := [8] }
def slaws_FnExactReportNow_r15 : Reg :=
  { id := 15, ops := [{ op := .mv (.con (.sc (.bool false))) }], sets := [(3, 0)], clr := [1, 2, 5, 7] }
def slaws_FnExactReportNow_r16 : Reg :=
  { id := 16, ops := [{ op := .mv (.con (.sc (.int .i64 1))) }], sets := [(9, 0)] }
def slaws_FnExactReportNow_r17 : Reg :=
  { id := 17, ops := [{ op := .mv (.slot 7) },
      { op := .mv (.slot 9) },
      { op := .call 52 [(true, .loc 0), (false, .loc 1)] [] },
      { op := .mv (.loc 2) }], sets := [(9, 3)] }
def slaws_FnExactReportNow_r18 : Reg :=
  { id := 18, ops := [{ op := .mv (.con (.sc (.int .i64 1))) }], sets := [(10, 0)] }
def slaws_FnExactReportNow_r19 : Reg :=
  { id := 19, ops := [{ op := .mv (.slot 7) },
      { op := .mv (.slot 10) },
      { op := .call 57 [(false, .loc 0), (false, .loc 1)] [] },
      { op := .mv (.loc 2) }], sets := [(10, 3)] }
def slaws_FnExactReportNow_r20 : Reg :=
  { id := 20, ops := [{ op := .mv (.slot 10) },
      { op := .bin .lss (.loc 0) (.con (.sc (.int .i64 0))) }], sets := [(16, 1)] }
def slaws_FnExactReportNow_r21 : Reg :=
  { id := 21, ops := [{ op := .mv (.con (.sc (.bool false))) }], sets := [(3, 0)], clr := [1, 2, 5, 7, 9, 10] }
def slaws_FnExactReportNow_r22 : Reg :=
  { id := 22, ops := [{ op := .mv (.slot 10) },
      { op := .mv (.slot 9) },
      { op := .bin .neq (.loc 0) (.loc 1) }], sets := [(17, 2)], clr := [10] }
def slaws_FnExactReportNow_r23 : Reg :=
  { id := 23, ops := [{ op := .mv (.con (.sc (.bool false))) }], sets := [(3, 0)], clr := [1, 2, 5, 7, 9] }
def slaws_FnExactReportNow_r24 : Reg :=
  { id := 24, ops := [{ op := .load (some 15) (.slot 2) },
      { op := .call 8 [(false, .loc 0)] [22, 23, 24, 25, 26, 27] },
      { op := .mv (.slot 1) },
      { op := .call 125 [(false, .loc 1), (false, .loc 2)] [28] },
      { op := .mv (.loc 3) }], sets := [(11, 4)], clr := [1, 2] }
def slaws_FnExactReportNow_r25 : Reg :=
  { id := 25, ops := [{ op := .mv (.slot 11) },
      { op := .mv (.slot 5) },
      { op := .call 47 [(false, .loc 0), (false, .loc 1)] [] },
      { op := .un .not (.loc 2) }], sets := [(18, 3)], clr := [5, 11] }
def slaws_FnExactReportNow_r26 : Reg :=
  { id := 26, ops := [{ op := .mv (.con (.sc (.bool false))) }], sets := [(3, 0)], clr := [7, 9] }
def slaws_FnExactReportNow_r27 : Reg :=
  { id := 27, ops := [{ op := .mv (.con (.sc (.int .i64 1))) }], sets := [(10, 0)] }
def slaws_FnExactReportNow_r28 : Reg :=
  { id := 28, ops := [{ op := .mv (.slot 7) },
      { op := .mv (.slot 10) },
      { op := .call 57 [(false, .loc 0), (false, .loc 1)] [] },
      { op := .mv (.loc 2) }], sets := [(10, 3)], clr := [7] }
def slaws_FnExactReportNow_r29 : Reg :=
  { id := 29, ops := [{ op := .mv (.slot 10) },
      { op := .bin .lss (.loc 0) (.con (.sc (.int .i64 0))) }], sets := [(19, 1)] }
def slaws_FnExactReportNow_r30 : Reg :=
  { id := 30, ops := [{ op := .mv (.con (.sc (.bool false))) }], sets := [(3, 0)], clr := [9, 10] }
def slaws_FnExactReportNow_r31 : Reg :=
  { id := 31, ops := [{ op := .mv (.slot 10) },
      { op := .mv (.slot 9) },
      { op := .bin .neq (.loc 0) (.loc 1) }], sets := [(20, 2)], clr := [9, 10] }
def slaws_FnExactReportNow_r32 : Reg :=
  { id := 32, ops := [{ op := .mv (.con (.sc (.bool false))) }], sets := [(3, 0)] }
def slaws_FnExactReportNow_r33 : Reg :=
  { id := 33, ops := [{ op := .mv (.con (.sc (.bool true))) }], sets := [(3, 0)] }
def slaws_FnExactReportNow_b : SC := .seq (.reg slaws_FnExactReportNow_r0) (.seq (.reg slaws_FnExactReportNow_r1) (.seq (.reg slaws_FnExactReportNow_r2) (.seq (.seq (.reg slaws_FnExactReportNow_r3) (.cond 12 (.seq (.reg slaws_FnExactReportNow_r4) (.ret)) (.skip))) (.seq (.reg slaws_FnExactReportNow_r5) (.seq (.reg slaws_FnExactReportNow_r6) (.seq (.reg slaws_FnExactReportNow_r7) (.seq (.seq (.reg slaws_FnExactReportNow_r8) (.cond 13 (.seq (.reg slaws_FnExactReportNow_r9) (.ret)) (.skip))) (.seq (.seq (.reg slaws_FnExactReportNow_r10) (.cond 14 (.seq (.reg slaws_FnExactReportNow_r11) (.ret)) (.skip))) (.seq (.reg slaws_FnExactReportNow_r12) (.seq (.reg slaws_FnExactReportNow_r13) (.seq (.seq (.reg slaws_FnExactReportNow_r14) (.cond 15 (.seq (.reg slaws_FnExactReportNow_r15) (.ret)) (.skip))) (.seq (.reg slaws_FnExactReportNow_r16) (.seq (.reg slaws_FnExactReportNow_r17) (.seq (.reg slaws_FnExactReportNow_r18) (.seq (.reg slaws_FnExactReportNow_r19) (.seq (.seq (.reg slaws_FnExactReportNow_r20) (.cond 16 (.seq (.reg slaws_FnExactReportNow_r21) (.ret)) (.skip))) (.seq (.seq (.reg slaws_FnExactReportNow_r22) (.cond 17 (.seq (.reg slaws_FnExactReportNow_r23) (.ret)) (.skip))) (.seq (.reg slaws_FnExactReportNow_r24) (.seq (.seq (.reg slaws_FnExactReportNow_r25) (.cond 18 (.seq (.reg slaws_FnExactReportNow_r26) (.ret)) (.skip))) (.seq (.reg slaws_FnExactReportNow_r27) (.seq (.reg slaws_FnExactReportNow_r28) (.seq (.seq (.reg slaws_FnExactReportNow_r29) (.cond 19 (.seq (.reg slaws_FnExactReportNow_r30) (.ret)) (.skip))) (.seq (.seq (.reg slaws_FnExactReportNow_r31) (.cond 20 (.seq (.reg slaws_FnExactReportNow_r32) (.ret)) (.skip))) (.seq (.reg slaws_FnExactReportNow_r33) (.ret)))))))))))))))))))))))))
def slaws_FnExactReportNow : SFn := { nslots := 21, nobjs := 29, params := [0, 1], ngiven := 0, bor := false, takes := [], body := slaws_FnExactReportNow_b, results := [.slot 3] }
def slaws_FnExactReportNow_t : List Tmp := [0, 1, 2, 4, 5, 6, 7, 8, 9, 10, 11, 12, 17, 30, 35, 46, 54, 57, 65, 70, 73]
attribute [simp] slaws_FnExactReportNow_r0 slaws_FnExactReportNow_r1 slaws_FnExactReportNow_r2 slaws_FnExactReportNow_r3 slaws_FnExactReportNow_r4 slaws_FnExactReportNow_r5 slaws_FnExactReportNow_r6 slaws_FnExactReportNow_r7 slaws_FnExactReportNow_r8 slaws_FnExactReportNow_r9 slaws_FnExactReportNow_r10 slaws_FnExactReportNow_r11 slaws_FnExactReportNow_r12 slaws_FnExactReportNow_r13 slaws_FnExactReportNow_r14 slaws_FnExactReportNow_r15 slaws_FnExactReportNow_r16 slaws_FnExactReportNow_r17 slaws_FnExactReportNow_r18 slaws_FnExactReportNow_r19 slaws_FnExactReportNow_r20 slaws_FnExactReportNow_r21 slaws_FnExactReportNow_r22 slaws_FnExactReportNow_r23 slaws_FnExactReportNow_r24 slaws_FnExactReportNow_r25 slaws_FnExactReportNow_r26 slaws_FnExactReportNow_r27 slaws_FnExactReportNow_r28 slaws_FnExactReportNow_r29 slaws_FnExactReportNow_r30 slaws_FnExactReportNow_r31 slaws_FnExactReportNow_r32 slaws_FnExactReportNow_r33 slaws_FnExactReportNow_b slaws_FnExactReportNow
def sspec_VersionCounts_r0 : Reg :=
  { id := 0, ops := [{ op := .box 0 (.slot 0) },
      { op := .mv (.con (.nil 1)) }], sets := [(1, 0)], clr := [0, 2] }
def sspec_VersionCounts_r1 : Reg :=
  { id := 1, ops := [{ op := .buildSlice 1 1 0 [] },
      { op := .mv (.loc 0) }], sets := [(3, 1)], ghosts := [.ren 1 4] }
def sspec_VersionCounts_r2 : Reg :=
  { id := 2, ops := [{ op := .mv (.con (.sc (.int .i64 0))) }], sets := [(4, 0)] }
def sspec_VersionCounts_r3 : Reg :=
  { id := 3, ops := [{ op := .mv (.slot 4) },
      { op := .bin .leq (.loc 0) (.con (.sc (.int .i64 9))) }], sets := [(7, 1)] }
def sspec_VersionCounts_r4 : Reg :=
  { id := 5, ops := [{ op := .mv (.con (.sc (.int .i64 0))) }], sets := [(5, 0)] }
def sspec_VersionCounts_r5 : Reg :=
  { id := 6, ops := [{ op := .mv (.con (.sc (.int .i64 0))) }], sets := [(6, 0)] }
def sspec_VersionCounts_r6 : Reg :=
  { id := 7, ops := [{ op := .mv (.slot 6) },
      { op := .fieldAddr (.slot 1) 3 },
      { op := .load none (.loc 1) },
      { op := .len false (.loc 2) },
      { op := .bin .lss (.loc 0) (.loc 3) }], sets := [(8, 4)] }
def sspec_VersionCounts_r7 : Reg :=
  { id := 9, ops := [{ op := .load (some 15) (.slot 1) },
      { op := .mv (.slot 6) },
      { op := .call 92 [(false, .loc 0), (false, .loc 1)] [] },
      { op := .mv (.slot 4) },
      { op := .bin .eql (.loc 2) (.loc 3) }], sets := [(9, 4)] }
def sspec_VersionCounts_r8 : Reg :=
  { id := 10, ops := [{ op := .mv (.slot 5) },
      { op := .bin .add (.loc 0) (.con (.sc (.int .i64 1))) },
      { op := .mv (.loc 1) }], sets := [(5, 2)] }
def sspec_VersionCounts_r9 : Reg :=
  { id := 8, ops := [{ op := .mv (.slot 6) },
      { op := .bin .add (.loc 0) (.con (.sc (.int .i64 1))) },
      { op := .mv (.loc 1) }], sets := [(6, 2)] }
def sspec_VersionCounts_r10 : Reg :=
  { id := 11, fresh := [2, 3], ops := [{ op := .mv (.slot 3) },
      { op := .mv (.slot 5) },
      { op := .buildSlice 2 1 1 [.loc 1] },
      { op := .append 3 1 8 false (.loc 0) (.loc 2) },
      { op := .mv (.loc 3) }], sets := [(3, 4)], ghosts := [.ren 3 4], clr := [5, 6] }
def sspec_VersionCounts_r11 : Reg :=
  { id := 4, ops := [{ op := .mv (.slot 4) },
      { op := .bin .add (.loc 0) (.con (.sc (.int .i64 1))) },
      { op := .mv (.loc 1) }], sets := [(4, 2)] }
def sspec_VersionCounts_r12 : Reg :=
  { id := 12, ops := [{ op := .mv (.slot 3) },
      { op := .mv (.loc 0) }], sets := [(2, 1)], clr := [1, 3, 4] }
def sspec_VersionCounts_b : SC := .seq (.reg sspec_VersionCounts_r0) (.seq (.reg sspec_VersionCounts_r1) (.seq (.seq (.reg sspec_VersionCounts_r2) (.block 0 (.loop (.seq (.seq (.reg sspec_VersionCounts_r3) (.cond 7 (.skip) (.exit 0))) (.seq (.block 1 (.seq (.reg sspec_VersionCounts_r4) (.seq (.seq (.reg sspec_VersionCounts_r5) (.block 2 (.loop (.seq (.seq (.reg sspec_VersionCounts_r6) (.cond 8 (.skip) (.exit 2))) (.seq (.block 3 (.seq (.reg sspec_VersionCounts_r7) (.cond 9 (.reg sspec_VersionCounts_r8) (.skip)))) (.reg sspec_VersionCounts_r9)))))) (.reg sspec_VersionCounts_r10)))) (.reg sspec_VersionCounts_r11)))))) (.seq (.reg sspec_VersionCounts_r12) (.ret))))
def sspec_VersionCounts : SFn := { nslots := 10, nobjs := 5, params := [0], ngiven := 0, bor := false, takes := [], body := sspec_VersionCounts_b, results := [.slot 2] }
def sspec_VersionCounts_t : List Tmp := [0, 1, 2, 3, 4, 5, 6, 9, 16, 23]
attribute [simp] sspec_VersionCounts_r0 sspec_VersionCounts_r1 sspec_VersionCounts_r2 sspec_VersionCounts_r3 sspec_VersionCounts_r4 sspec_VersionCounts_r5 sspec_VersionCounts_r6 sspec_VersionCounts_r7 sspec_VersionCounts_r8 sspec_VersionCounts_r9 sspec_VersionCounts_r10 sspec_VersionCounts_r11 sspec_VersionCounts_r12 sspec_VersionCounts_b sspec_VersionCounts
def simpl_VersionCounts_r0 : Reg :=
  { id := 0, ops := [{ op := .box 0 (.slot 0) },
      { op := .mv (.con (.nil 1)) }], sets := [(1, 0)], clr := [0, 2] }
def simpl_VersionCounts_r1 : Reg :=
  { id := 1, ops := [{ op := .makeSlice 1 1 8 [.sc (.int .i64 0)] (.con (.sc (.int .i64 10))) },
      { op := .mv (.loc 0) }], sets := [(3, 1)] }
def simpl_VersionCounts_r2 : Reg :=
  { id := 2, ops := [{ op := .fieldAddr (.slot 1) 3 },
      { op := .load none (.loc 0) },
      { op := .len false (.loc 1) },
      { op := .mv (.con (.sc (.int .i64 0))) }], sets := [(5, 2), (6, 3)] }
def simpl_VersionCounts_r3 : Reg :=
  { id := 3, ops := [{ op := .bin .lss (.slot 6) (.slot 5) }], sets := [(7, 0)] }
def simpl_VersionCounts_r4 : Reg :=
  { id := 4, ops := [{ op := .mv (.slot 6) },
      { op := .mv (.loc 0) }], sets := [(4, 1)] }
def simpl_VersionCounts_r5 : Reg :=
  { id := 5, ops := [{ op := .mv (.slot 3) },
      { op := .load (some 15) (.slot 1) },
      { op := .mv (.slot 4) },
      { op := .call 119 [(false, .loc 1), (false, .loc 2)] [] },
      { op := .indexAddr 1 (.loc 0) (.loc 3) },
      { op := .load none (.loc 4) },
      { op := .bin .add (.loc 5) (.con (.sc (.int .i64 1))) },
      { op := .indexAddr 1 (.loc 0) (.loc 3) },
      { op := .store 1 (.loc 7) (.loc 6) }], clr := [4] }
def simpl_VersionCounts_r6 : Reg :=
  { id := 6, ops := [{ op := .bin .add (.slot 6) (.con (.sc (.int .i64 1))) },
      { op := .mv (.loc 0) }], sets := [(6, 1)] }
def simpl_VersionCounts_r7 : Reg :=
  { id := 7, ops := [{ op := .mv (.slot 3) },
      { op := .mv (.loc 0) }], sets := [(2, 1)], clr := [1, 3, 5, 6] }
def simpl_VersionCounts_b : SC := .seq (.reg simpl_VersionCounts_r0) (.seq (.reg simpl_VersionCounts_r1) (.seq (.seq (.reg simpl_VersionCounts_r2) (.block 0 (.loop (.seq (.reg simpl_VersionCounts_r3) (.seq (.cond 7 (.skip) (.exit 0)) (.seq (.block 1 (.seq (.reg simpl_VersionCounts_r4) (.reg simpl_VersionCounts_r5))) (.reg simpl_VersionCounts_r6))))))) (.seq (.reg simpl_VersionCounts_r7) (.ret))))
def simpl_VersionCounts : SFn := { nslots := 8, nobjs := 2, params := [0], ngiven := 0, bor := false, takes := [], body := simpl_VersionCounts_b, results := [.slot 2] }
def simpl_VersionCounts_t : List Tmp := [0, 1, 2, 3, 4, 8, 9, 10]
attribute [simp] simpl_VersionCounts_r0 simpl_VersionCounts_r1 simpl_VersionCounts_r2 simpl_VersionCounts_r3 simpl_VersionCounts_r4 simpl_VersionCounts_r5 simpl_VersionCounts_r6 simpl_VersionCounts_r7 simpl_VersionCounts_b simpl_VersionCounts
def sspec_ReportNow_r0 : Reg :=
  { id := 0, ops := [{ op := .box 0 (.slot 0) },
      { op := .mv (.con (.nil 1)) }], sets := [(2, 0)], clr := [0, 3] }
def sspec_ReportNow_r1 : Reg :=
  { id := 1, ops := [{ op := .load (some 15) (.slot 2) },
      { op := .call 86 [(false, .loc 0)] [1] },
      { op := .mv (.slot 1) },
      { op := .call 169 [(false, .loc 1), (false, .loc 2)] [2] },
      { op := .mv (.loc 3) }], sets := [(3, 4)], clr := [1, 2] }
def sspec_ReportNow_b : SC := .seq (.reg sspec_ReportNow_r0) (.seq (.reg sspec_ReportNow_r1) (.ret))
def sspec_ReportNow : SFn := { nslots := 4, nobjs := 3, params := [0, 1], ngiven := 0, bor := false, takes := [], body := sspec_ReportNow_b, results := [.slot 3] }
def sspec_ReportNow_t : List Tmp := [0, 1, 2, 4]
attribute [simp] sspec_ReportNow_r0 sspec_ReportNow_r1 sspec_ReportNow_b sspec_ReportNow
def simpl_ReportNow_r0 : Reg :=
  { id := 0, ops := [{ op := .box 0 (.slot 0) },
      { op := .mv (.con (.nil 1)) }], sets := [(2, 0)], clr := [0, 3] }
def simpl_ReportNow_r1 : Reg :=
  { id := 1, ops := [{ op := .load (some 15) (.slot 2) },
      { op := .call 130 [(false, .loc 0)] [1] },
      { op := .mv (.slot 1) },
      { op := .call 191 [(false, .loc 1), (false, .loc 2)] [2] },
      { op := .mv (.loc 3) }], sets := [(3, 4)], clr := [1, 2] }
def simpl_ReportNow_b : SC := .seq (.reg simpl_ReportNow_r0) (.seq (.reg simpl_ReportNow_r1) (.ret))
def simpl_ReportNow : SFn := { nslots := 4, nobjs := 3, params := [0, 1], ngiven := 0, bor := false, takes := [], body := simpl_ReportNow_b, results := [.slot 3] }
def simpl_ReportNow_t : List Tmp := [0, 1, 2, 4]
attribute [simp] simpl_ReportNow_r0 simpl_ReportNow_r1 simpl_ReportNow_b simpl_ReportNow
def sspec_HideSmall_r0 : Reg :=
  { id := 0, ops := [{ op := .mv (.con (.nil 1)) }], clr := [2] }
def sspec_HideSmall_r1 : Reg :=
  { id := 1, ops := [{ op := .buildSlice 0 1 0 [] },
      { op := .mv (.loc 0) }], sets := [(3, 1)], ghosts := [.ren 0 3] }
def sspec_HideSmall_r2 : Reg :=
  { id := 2, ops := [{ op := .mv (.con (.sc (.int .i64 0))) }], sets := [(4, 0)] }
def sspec_HideSmall_r3 : Reg :=
  { id := 3, ops := [{ op := .mv (.slot 4) },
      { op := .mv (.slot 0) },
      { op := .len false (.loc 1) },
      { op := .bin .lss (.loc 0) (.loc 2) },
      { op := .mv (.loc 3) },
      { op := .mv (.slot 0), guard := some (4, true) },
      { op := .call 225 [(false, .loc 5)] [], guard := some (4, true) },
      { op := .pick (.loc 4) (.loc 6) (.con (.sc (.bool false))) },
      { op := .mv (.loc 7) },
      { op := .mv (.slot 1), guard := some (8, true) },
      { op := .call 71 [(false, .loc 9), (false, .con (.sc (.int .i64 0))), (false, .con (.sc (.int .i64 10000)))] [], guard := some (8, true) },
      { op := .pick (.loc 8) (.loc 10) (.con (.sc (.bool false))) }], sets := [(6, 11)] }
def sspec_HideSmall_r4 : Reg :=
  { id := 5, ops := [{ op := .mv (.slot 0) },
      { op := .mv (.slot 4) },
      { op := .indexAddr 1 (.loc 0) (.loc 1) },
      { op := .load none (.loc 2) },
      { op := .mv (.loc 3) }], sets := [(5, 4)] }
def sspec_HideSmall_r5 : Reg :=
  { id := 6, ops := [{ op := .mv (.slot 5) },
      { op := .mv (.slot 1) },
      { op := .bin .lss (.loc 0) (.loc 1) }], sets := [(7, 2)] }
def sspec_HideSmall_r6 : Reg :=
  { id := 7, ops := [{ op := .mv (.con (.sc (.int .i64 0))) }], sets := [(5, 0)] }
def sspec_HideSmall_r7 : Reg :=
  { id := 8, fresh := [1, 2], ops := [{ op := .mv (.slot 3) },
      { op := .mv (.slot 5) },
      { op := .buildSlice 1 1 1 [.loc 1] },
      { op := .append 2 1 8 false (.loc 0) (.loc 2) },
      { op := .mv (.loc 3) }], sets := [(3, 4)], ghosts := [.ren 2 3], clr := [5] }
def sspec_HideSmall_r8 : Reg :=
  { id := 4, ops := [{ op := .mv (.slot 4) },
      { op := .bin .add (.loc 0) (.con (.sc (.int .i64 1))) },
      { op := .mv (.loc 1) }], sets := [(4, 2)] }
def sspec_HideSmall_r9 : Reg :=
  { id := 9, ops := [{ op := .mv (.slot 3) },
      { op := .mv (.loc 0) }], sets := [(2, 1)], clr := [0, 1, 3, 4] }
def sspec_HideSmall_b : SC := .seq (.reg sspec_HideSmall_r0) (.seq (.reg sspec_HideSmall_r1) (.seq (.seq (.reg sspec_HideSmall_r2) (.block 0 (.loop (.seq (.seq (.reg sspec_HideSmall_r3) (.cond 6 (.skip) (.exit 0))) (.seq (.block 1 (.seq (.reg sspec_HideSmall_r4) (.seq (.seq (.reg sspec_HideSmall_r5) (.cond 7 (.reg sspec_HideSmall_r6) (.skip))) (.reg sspec_HideSmall_r7)))) (.reg sspec_HideSmall_r8)))))) (.seq (.reg sspec_HideSmall_r9) (.ret))))
def sspec_HideSmall : SFn := { nslots := 8, nobjs := 4, params := [0, 1], ngiven := 0, bor := false, takes := [], body := sspec_HideSmall_b, results := [.slot 2] }
def sspec_HideSmall_t : List Tmp := [0, 1, 4, 5, 6, 7, 20, 29]
attribute [simp] sspec_HideSmall_r0 sspec_HideSmall_r1 sspec_HideSmall_r2 sspec_HideSmall_r3 sspec_HideSmall_r4 sspec_HideSmall_r5 sspec_HideSmall_r6 sspec_HideSmall_r7 sspec_HideSmall_r8 sspec_HideSmall_r9 sspec_HideSmall_b sspec_HideSmall
def simpl_HideSmall_r0 : Reg :=
  { id := 0, ops := [{ op := .mv (.con (.nil 1)) }], clr := [2] }
def simpl_HideSmall_r1 : Reg :=
  { id := 1, ops := [{ op := .buildSlice 0 1 0 [] },
      { op := .mv (.loc 0) }], sets := [(3, 1)], ghosts := [.ren 0 3] }
def simpl_HideSmall_r2 : Reg :=
  { id := 2, ops := [{ op := .mv (.slot 0) },
      { op := .mv (.slot 1) },
      { op := .call 243 [(false, .loc 0), (false, .loc 1)] [] },
      { op := .un .not (.loc 2) }], sets := [(5, 3)] }
def simpl_HideSmall_r3 : Reg :=
  { id := 3, ops := [{ op := .mv (.slot 3) },
      { op := .mv (.loc 0) }], sets := [(2, 1)], clr := [0, 1, 3] }
def simpl_HideSmall_r4 : Reg :=
  { id := 4, ops := [{ op := .mv (.slot 0) },
      { op := .len false (.loc 0) },
      { op := .mv (.con (.sc (.int .i64 0))) }], sets := [(6, 0), (7, 1), (8, 2)], clr := [0] }
def simpl_HideSmall_r5 : Reg :=
  { id := 5, ops := [{ op := .bin .lss (.slot 8) (.slot 7) }], sets := [(9, 0)] }
def simpl_HideSmall_r6 : Reg :=
  { id := 6, ops := [{ op := .indexAddr 1 (.slot 6) (.slot 8) },
      { op := .load none (.loc 0) },
      { op := .mv (.loc 1) }], sets := [(4, 2)] }
def simpl_HideSmall_r7 : Reg :=
  { id := 7, ops := [{ op := .mv (.slot 4) },
      { op := .mv (.slot 1) },
      { op := .bin .lss (.loc 0) (.loc 1) }], sets := [(10, 2)] }
def simpl_HideSmall_r8 : Reg :=
  { id := 8, ops := [{ op := .mv (.con (.sc (.int .i64 0))) }], sets := [(4, 0)] }
def simpl_HideSmall_r9 : Reg :=
  { id := 9, fresh := [1, 2], ops := [{ op := .mv (.slot 3) },
      { op := .mv (.slot 4) },
      { op := .buildSlice 1 1 1 [.loc 1] },
      { op := .append 2 1 8 false (.loc 0) (.loc 2) },
      { op := .mv (.loc 3) }], sets := [(3, 4)], ghosts := [.ren 2 3], clr := [4] }
def simpl_HideSmall_r10 : Reg :=
  { id := 10, ops := [{ op := .bin .add (.slot 8) (.con (.sc (.int .i64 1))) },
      { op := .mv (.loc 0) }], sets := [(8, 1)] }
def simpl_HideSmall_r11 : Reg :=
  { id := 11, ops := [{ op := .mv (.slot 3) },
      { op := .mv (.loc 0) }], sets := [(2, 1)], clr := [1, 3, 6, 7, 8] }
def simpl_HideSmall_b : SC := .seq (.reg simpl_HideSmall_r0) (.seq (.reg simpl_HideSmall_r1) (.seq (.seq (.reg simpl_HideSmall_r2) (.cond 5 (.seq (.reg simpl_HideSmall_r3) (.ret)) (.skip))) (.seq (.seq (.reg simpl_HideSmall_r4) (.block 0 (.loop (.seq (.reg simpl_HideSmall_r5) (.seq (.cond 9 (.skip) (.exit 0)) (.seq (.block 1 (.seq (.reg simpl_HideSmall_r6) (.seq (.seq (.reg simpl_HideSmall_r7) (.cond 10 (.reg simpl_HideSmall_r8) (.skip))) (.reg simpl_HideSmall_r9)))) (.reg simpl_HideSmall_r10))))))) (.seq (.reg simpl_HideSmall_r11) (.ret)))))
def simpl_HideSmall : SFn := { nslots := 11, nobjs := 4, params := [0, 1], ngiven := 0, bor := false, takes := [], body := simpl_HideSmall_b, results := [.slot 2] }
def simpl_HideSmall_t : List Tmp := [0, 1, 4, 5, 7, 12, 14, 15, 16, 17, 22]
attribute [simp] simpl_HideSmall_r0 simpl_HideSmall_r1 simpl_HideSmall_r2 simpl_HideSmall_r3 simpl_HideSmall_r4 simpl_HideSmall_r5 simpl_HideSmall_r6 simpl_HideSmall_r7 simpl_HideSmall_r8 simpl_HideSmall_r9 simpl_HideSmall_r10 simpl_HideSmall_r11 simpl_HideSmall_b simpl_HideSmall
def sspec_AreCounts_r0 : Reg :=
  { id := 0, ops := [{ op := .mv (.con (.sc (.bool false))) }], clr := [1] }
def sspec_AreCounts_r1 : Reg :=
  { id := 1, ops := [{ op := .mv (.con (.sc (.int .i64 0))) }], sets := [(2, 0)] }
def sspec_AreCounts_r2 : Reg :=
  { id := 2, ops := [{ op := .mv (.slot 2) },
      { op := .mv (.slot 0) },
      { op := .len false (.loc 1) },
      { op := .bin .lss (.loc 0) (.loc 2) }], sets := [(3, 3)] }
def sspec_AreCounts_r3 : Reg :=
  { id := 4, ops := [{ op := .mv (.slot 0) },
      { op := .mv (.slot 2) },
      { op := .indexAddr 1 (.loc 0) (.loc 1) },
      { op := .load none (.loc 2) },
      { op := .call 71 [(false, .loc 3), (false, .con (.sc (.int .i64 0))), (false, .con (.sc (.int .i64 10000)))] [] },
      { op := .un .not (.loc 4) }], sets := [(4, 5)] }
def sspec_AreCounts_r4 : Reg :=
  { id := 5, ops := [{ op := .mv (.con (.sc (.bool false))) }], sets := [(1, 0)], clr := [0, 2] }
def sspec_AreCounts_r5 : Reg :=
  { id := 3, ops := [{ op := .mv (.slot 2) },
      { op := .bin .add (.loc 0) (.con (.sc (.int .i64 1))) },
      { op := .mv (.loc 1) }], sets := [(2, 2)] }
def sspec_AreCounts_r6 : Reg :=
  { id := 6, ops := [{ op := .mv (.slot 0) },
      { op := .len false (.loc 0) },
      { op := .bin .leq (.loc 1) (.con (.sc (.int .i64 10))) },
      { op := .mv (.loc 2) }], sets := [(1, 3)], clr := [0, 2] }
def sspec_AreCounts_b : SC := .seq (.reg sspec_AreCounts_r0) (.seq (.seq (.reg sspec_AreCounts_r1) (.block 0 (.loop (.seq (.seq (.reg sspec_AreCounts_r2) (.cond 3 (.skip) (.exit 0))) (.seq (.block 1 (.seq (.reg sspec_AreCounts_r3) (.cond 4 (.seq (.reg sspec_AreCounts_r4) (.ret)) (.skip)))) (.reg sspec_AreCounts_r5)))))) (.seq (.reg sspec_AreCounts_r6) (.ret)))
def sspec_AreCounts : SFn := { nslots := 5, nobjs := 0, params := [0], ngiven := 0, bor := false, takes := [], body := sspec_AreCounts_b, results := [.slot 1] }
def sspec_AreCounts_t : List Tmp := [0, 2, 3, 7, 15]
attribute [simp] sspec_AreCounts_r0 sspec_AreCounts_r1 sspec_AreCounts_r2 sspec_AreCounts_r3 sspec_AreCounts_r4 sspec_AreCounts_r5 sspec_AreCounts_r6 sspec_AreCounts_b sspec_AreCounts
def simpl_canHide_r0 : Reg :=
  { id := 0, ops := [{ op := .mv (.con (.sc (.bool false))) }], clr := [2] }
def simpl_canHide_r1 : Reg :=
  { id := 1, ops := [{ op := .mv (.slot 0) },
      { op := .call 275 [(false, .loc 0)] [] },
      { op := .mv (.loc 1) },
      { op := .mv (.slot 1), guard := some (2, true) },
      { op := .call 114 [(false, .loc 3), (false, .con (.sc (.int .i64 0))), (false, .con (.sc (.int .i64 10000)))] [], guard := some (2, true) },
      { op := .pick (.loc 2) (.loc 4) (.con (.sc (.bool false))) },
      { op := .mv (.loc 5) }], sets := [(2, 6)], clr := [0, 1] }
def simpl_canHide_b : SC := .seq (.reg simpl_canHide_r0) (.seq (.reg simpl_canHide_r1) (.ret))
def simpl_canHide : SFn := { nslots := 3, nobjs := 0, params := [0, 1], ngiven := 0, bor := false, takes := [], body := simpl_canHide_b, results := [.slot 2] }
def simpl_canHide_t : List Tmp := [0, 1, 4]
attribute [simp] simpl_canHide_r0 simpl_canHide_r1 simpl_canHide_b simpl_canHide
def simpl_AreCounts_r0 : Reg :=
  { id := 0, ops := [{ op := .mv (.con (.sc (.bool false))) }], clr := [1] }
def simpl_AreCounts_r1 : Reg :=
  { id := 1, ops := [{ op := .mv (.slot 0) },
      { op := .len false (.loc 0) },
      { op := .bin .leq (.loc 1) (.con (.sc (.int .i64 10))) },
      { op := .mv (.loc 2) },
      { op := .mv (.slot 0), guard := some (3, true) },
      { op := .call 233 [(false, .loc 4), (false, .con (.sc (.int .i64 0))), (false, .con (.sc (.int .i64 10000)))] [], guard := some (3, true) },
      { op := .pick (.loc 3) (.loc 5) (.con (.sc (.bool false))) },
      { op := .mv (.loc 6) }], sets := [(1, 7)], clr := [0] }
def simpl_AreCounts_b : SC := .seq (.reg simpl_AreCounts_r0) (.seq (.reg simpl_AreCounts_r1) (.ret))
def simpl_AreCounts : SFn := { nslots := 2, nobjs := 0, params := [0], ngiven := 0, bor := false, takes := [], body := simpl_AreCounts_b, results := [.slot 1] }
def simpl_AreCounts_t : List Tmp := [0, 2]
attribute [simp] simpl_AreCounts_r0 simpl_AreCounts_r1 simpl_AreCounts_b simpl_AreCounts
end Go.Eng.T

