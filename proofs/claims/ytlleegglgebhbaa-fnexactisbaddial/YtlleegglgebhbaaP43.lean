/- Own work: part 43 of the proof of FnExactIsBadDial. -/
import Derived.Test.YtlleegglgebhbaaEngAP
namespace Go.Eng.T
def slaws_FnExactIsBadDial_r0 : Reg :=
  { id := 0, ops := [{ op := .box 0 (.slot 0) },
      { op := .mv (.con (.sc (.bool false))) }], sets := [(2, 0)], clr := [0, 3] }
def slaws_FnExactIsBadDial_r1 : Reg :=
  { id := 1, ops := [{ op := .mv (.con (.sc (.int .i64 1048576))) }], sets := [(4, 0)] }
def slaws_FnExactIsBadDial_r2 : Reg :=
  { id := 2, ops := [{ op := .load (some 5) (.slot 2) },
      { op := .mv (.slot 4) },
      { op := .call 63 [(false, .loc 0), (false, .loc 1)] [] },
      { op := .mv (.loc 2) }], sets := [(4, 3)] }
def slaws_FnExactIsBadDial_r3 : Reg :=
  { id := 3, ops := [{ op := .mv (.slot 4) },
      { op := .bin .lss (.loc 0) (.con (.sc (.int .i64 0))) }], sets := [(8, 1)], clr := [4] }
def slaws_FnExactIsBadDial_r4 : Reg :=
  { id := 4, ops := [{ op := .mv (.con (.sc (.bool true))) }], sets := [(3, 0)], clr := [1, 2] }
def slaws_FnExactIsBadDial_r5 : Reg :=
  { id := 5, ops := [{ op := .load (some 5) (.slot 2) },
      { op := .call 99 [(false, .loc 0)] [1, 2] },
      { op := .mv (.slot 1) },
      { op := .call 144 [(false, .loc 1), (false, .loc 2)] [] },
      { op := .mv (.loc 3) }], sets := [(5, 4)] }
def slaws_FnExactIsBadDial_r6 : Reg :=
  { id := 6, ops := [{ op := .load (some 5) (.slot 2) },
      { op := .call 99 [(false, .loc 0)] [3, 4] },
      { op := .alloc 5 [.sc (.bool false), .sc (.int .i64 0), .nil 1, .sc (.int .i64 0), .nil 1] },
      { op := .store 5 (.loc 2) (.loc 1) }], sets := [(6, 2)] }
def slaws_FnExactIsBadDial_r7 : Reg :=
  { id := 7, ops := [{ op := .load (some 5) (.slot 6) },
      { op := .mv (.slot 1) },
      { op := .call 175 [(false, .loc 0), (false, .loc 1)] [] },
      { op := .mv (.loc 2) }], sets := [(7, 3)], clr := [1] }
def slaws_FnExactIsBadDial_r8 : Reg :=
  { id := 8, ops := [{ op := .mv (.slot 7) },
      { op := .mv (.slot 5) },
      { op := .beq true (.loc 0) (.loc 1) }], sets := [(9, 2)], clr := [5, 7] }
def slaws_FnExactIsBadDial_r9 : Reg :=
  { id := 9, ops := [{ op := .mv (.con (.sc (.bool false))) }], sets := [(3, 0)], clr := [2, 6] }
def slaws_FnExactIsBadDial_r10 : Reg :=
  { id := 10, draw := true, ops := [{ op := .load (some 5) (.slot 6), tau := some [5], om := [] },
      { op := .load (some 5) (.slot 2), tau := some [0], om := [] },
      { op := .call 99 [(false, .loc 1)] [6, 7], tau := some [6, 7], om := [6, 7] },
      { op := .call 135 [(false, .loc 0), (false, .loc 2)] [], tau := some [3, 4, 6, 7], om := [] },
      { op := .un .not (.loc 3), tau := some [], om := [] }], sets := [(10, 4)], clr := [2, 6] }
def slaws_FnExactIsBadDial_r11 : Reg :=
  { id := 11, ops := [{ op := .mv (.con (.sc (.bool false))) }], sets := [(3, 0)] }
def slaws_FnExactIsBadDial_r12 : Reg :=
  { id := 12, ops := [{ op := .mv (.con (.sc (.bool true))) }], sets := [(3, 0)] }
def slaws_FnExactIsBadDial_b : SC := .seq (.reg slaws_FnExactIsBadDial_r0) (.seq (.reg slaws_FnExactIsBadDial_r1) (.seq (.reg slaws_FnExactIsBadDial_r2) (.seq (.seq (.reg slaws_FnExactIsBadDial_r3) (.cond 8 (.seq (.reg slaws_FnExactIsBadDial_r4) (.ret)) (.skip))) (.seq (.reg slaws_FnExactIsBadDial_r5) (.seq (.reg slaws_FnExactIsBadDial_r6) (.seq (.reg slaws_FnExactIsBadDial_r7) (.seq (.seq (.reg slaws_FnExactIsBadDial_r8) (.cond 9 (.seq (.reg slaws_FnExactIsBadDial_r9) (.ret)) (.skip))) (.seq (.seq (.reg slaws_FnExactIsBadDial_r10) (.cond 10 (.seq (.reg slaws_FnExactIsBadDial_r11) (.ret)) (.skip))) (.seq (.reg slaws_FnExactIsBadDial_r12) (.ret))))))))))
def slaws_FnExactIsBadDial : SFn := { nslots := 11, nobjs := 8, params := [0, 1], ngiven := 0, bor := false, takes := [], body := slaws_FnExactIsBadDial_b, results := [.slot 3] }
def slaws_FnExactIsBadDial_t : List Tmp := [0, 1, 2, 4, 5, 6, 7, 8, 13, 25, 30]
attribute [simp] slaws_FnExactIsBadDial_r0 slaws_FnExactIsBadDial_r1 slaws_FnExactIsBadDial_r2 slaws_FnExactIsBadDial_r3 slaws_FnExactIsBadDial_r4 slaws_FnExactIsBadDial_r5 slaws_FnExactIsBadDial_r6 slaws_FnExactIsBadDial_r7 slaws_FnExactIsBadDial_r8 slaws_FnExactIsBadDial_r9 slaws_FnExactIsBadDial_r10 slaws_FnExactIsBadDial_r11 slaws_FnExactIsBadDial_r12 slaws_FnExactIsBadDial_b slaws_FnExactIsBadDial
def slaws_szDialed_r0 : Reg :=
  { id := 0, ops := [{ op := .box 0 (.slot 0) },
      { op := .mv (.con (.sc (.int .i64 0))) }], sets := [(2, 0)], clr := [0, 3] }
def slaws_szDialed_r1 : Reg :=
  { id := 1, ops := [{ op := .fieldAddr (.slot 2) 0 },
      { op := .load (some 3) (.loc 0) },
      { op := .mv (.slot 1) },
      { op := .call 140 [(false, .loc 1), (false, .loc 2)] [] },
      { op := .mv (.loc 3) }], sets := [(1, 4)] }
def slaws_szDialed_r2 : Reg :=
  { id := 2, ops := [{ op := .mv (.slot 1) },
      { op := .bin .lss (.loc 0) (.con (.sc (.int .i64 0))) }], sets := [(4, 1)] }
def slaws_szDialed_r3 : Reg :=
  { id := 3, ops := [{ op := .mv (.con (.sc (.int .i64 (-1)))) }], sets := [(3, 0)], clr := [1, 2] }
def slaws_szDialed_r4 : Reg :=
  { id := 4, ops := [{ op := .fieldAddr (.slot 2) 4 },
      { op := .load none (.loc 0) },
      { op := .mv (.slot 1) },
      { op := .call 16 [(false, .loc 1), (false, .loc 2)] [] },
      { op := .mv (.loc 3) }], sets := [(1, 4)], clr := [2] }
def slaws_szDialed_r5 : Reg :=
  { id := 5, ops := [{ op := .mv (.slot 1) },
      { op := .bin .lss (.loc 0) (.con (.sc (.int .i64 0))) }], sets := [(5, 1)] }
def slaws_szDialed_r6 : Reg :=
  { id := 6, ops := [{ op := .mv (.con (.sc (.int .i64 (-1)))) }], sets := [(3, 0)], clr := [1] }
def slaws_szDialed_r7 : Reg :=
  { id := 7, ops := [{ op := .mv (.slot 1) },
      { op := .mv (.loc 0) }], sets := [(3, 1)], clr := [1] }
def slaws_szDialed_b : SC := .seq (.reg slaws_szDialed_r0) (.seq (.reg slaws_szDialed_r1) (.seq (.seq (.reg slaws_szDialed_r2) (.cond 4 (.seq (.reg slaws_szDialed_r3) (.ret)) (.skip))) (.seq (.reg slaws_szDialed_r4) (.seq (.seq (.reg slaws_szDialed_r5) (.cond 5 (.seq (.reg slaws_szDialed_r6) (.ret)) (.skip))) (.seq (.reg slaws_szDialed_r7) (.ret))))))
def slaws_szDialed : SFn := { nslots := 6, nobjs := 1, params := [0, 1], ngiven := 0, bor := false, takes := [], body := slaws_szDialed_b, results := [.slot 3] }
def slaws_szDialed_t : List Tmp := [0, 1, 2, 4, 10, 16]
attribute [simp] slaws_szDialed_r0 slaws_szDialed_r1 slaws_szDialed_r2 slaws_szDialed_r3 slaws_szDialed_r4 slaws_szDialed_r5 slaws_szDialed_r6 slaws_szDialed_r7 slaws_szDialed_b slaws_szDialed
def sspec_IsBadDial_r0 : Reg :=
  { id := 0, ops := [{ op := .box 0 (.slot 0) },
      { op := .mv (.con (.sc (.bool false))) }], sets := [(2, 0)], clr := [0, 3] }
def sspec_IsBadDial_r1 : Reg :=
  { id := 1, ops := [{ op := .load (some 5) (.slot 2) },
      { op := .buildSlice 1 5 1 [.loc 0] },
      { op := .mv (.slot 1) },
      { op := .call 155 [(false, .loc 1), (false, .loc 2)] [] },
      { op := .mv (.loc 3) },
      { op := .extract (.loc 4) 0 },
      { op := .extract (.loc 4) 1 },
      { op := .mv (.loc 5) },
      { op := .mv (.loc 6) }], sets := [(4, 8)], clr := [1, 2] }
def sspec_IsBadDial_r2 : Reg :=
  { id := 2, ops := [{ op := .mv (.slot 4) },
      { op := .bin .gtr (.loc 0) (.con (.sc (.int .i64 0))) },
      { op := .mv (.loc 1) }], sets := [(3, 2)], clr := [4] }
def sspec_IsBadDial_b : SC := .seq (.reg sspec_IsBadDial_r0) (.seq (.reg sspec_IsBadDial_r1) (.seq (.reg sspec_IsBadDial_r2) (.ret)))
def sspec_IsBadDial : SFn := { nslots := 5, nobjs := 2, params := [0, 1], ngiven := 0, bor := false, takes := [], body := sspec_IsBadDial_b, results := [.slot 3] }
def sspec_IsBadDial_t : List Tmp := [0, 1, 2, 4, 6]
attribute [simp] sspec_IsBadDial_r0 sspec_IsBadDial_r1 sspec_IsBadDial_r2 sspec_IsBadDial_b sspec_IsBadDial
def slaws_toDialed_r0 : Reg :=
  { id := 0, ops := [{ op := .box 0 (.slot 0) },
      { op := .alloc 1 [.sc (.bool false), .sc (.int .i64 0), .nil 1, .sc (.int .i64 0), .nil 1] }], sets := [(1, 0), (2, 1)], clr := [0] }
def slaws_toDialed_r1 : Reg :=
  { id := 1, ops := [{ op := .alloc 2 [.sc (.bool false), .sc (.int .i64 0), .nil 1, .sc (.int .i64 0), .nil 1] }], sets := [(3, 0)] }
def slaws_toDialed_r2 : Reg :=
  { id := 2, ops := [{ op := .fieldAddr (.slot 1) 0 },
      { op := .load (some 3) (.loc 0) },
      { op := .call 171 [(false, .loc 1)] [3] },
      { op := .fieldAddr (.slot 3) 0 },
      { op := .store 3 (.loc 3) (.loc 2) }] }
def slaws_toDialed_r3 : Reg :=
  { id := 3, ops := [{ op := .fieldAddr (.slot 1) 3 },
      { op := .load none (.loc 0) },
      { op := .fieldAddr (.slot 3) 3 },
      { op := .store 1 (.loc 2) (.loc 1) }] }
def slaws_toDialed_r4 : Reg :=
  { id := 4, ops := [{ op := .fieldAddr (.slot 1) 4 },
      { op := .load none (.loc 0) },
      { op := .call 31 [(false, .loc 1)] [4] },
      { op := .fieldAddr (.slot 3) 4 },
      { op := .store 1 (.loc 3) (.loc 2) }], clr := [1] }
def slaws_toDialed_r5 : Reg :=
  { id := 5, ops := [{ op := .load (some 5) (.slot 3) },
      { op := .store 5 (.slot 2) (.loc 0) }], clr := [3] }
def slaws_toDialed_b : SC := .seq (.reg slaws_toDialed_r0) (.seq (.reg slaws_toDialed_r1) (.seq (.reg slaws_toDialed_r2) (.seq (.reg slaws_toDialed_r3) (.seq (.reg slaws_toDialed_r4) (.seq (.reg slaws_toDialed_r5) (.ret))))))
def slaws_toDialed : SFn := { nslots := 4, nobjs := 5, params := [0], ngiven := 0, bor := false, takes := [], body := slaws_toDialed_b, results := [.cell 2 (some 5)] }
def slaws_toDialed_t : List Tmp := [0, 1, 2, 3]
attribute [simp] slaws_toDialed_r0 slaws_toDialed_r1 slaws_toDialed_r2 slaws_toDialed_r3 slaws_toDialed_r4 slaws_toDialed_r5 slaws_toDialed_b slaws_toDialed
def simpl_IsBadDial_r0 : Reg :=
  { id := 0, ops := [{ op := .box 0 (.slot 0) },
      { op := .mv (.con (.sc (.bool false))) }], sets := [(2, 0)], clr := [0, 3] }
def simpl_IsBadDial_r1 : Reg :=
  { id := 1, ops := [{ op := .load (some 5) (.slot 2) },
      { op := .mv (.slot 1) },
      { op := .call 229 [(false, .loc 0), (false, .loc 1)] [] },
      { op := .mv (.loc 2) }], sets := [(3, 3)], clr := [1, 2] }
def simpl_IsBadDial_b : SC := .seq (.reg simpl_IsBadDial_r0) (.seq (.reg simpl_IsBadDial_r1) (.ret))
def simpl_IsBadDial : SFn := { nslots := 4, nobjs := 1, params := [0, 1], ngiven := 0, bor := false, takes := [], body := simpl_IsBadDial_b, results := [.slot 3] }
def simpl_IsBadDial_t : List Tmp := [0, 1, 2, 4]
attribute [simp] simpl_IsBadDial_r0 simpl_IsBadDial_r1 simpl_IsBadDial_b simpl_IsBadDial
def slaws_eqDialed_r0 : Reg :=
  { id := 0, ops := [{ op := .box 0 (.slot 0) },
      { op := .box 1 (.slot 1) },
      { op := .mv (.con (.sc (.bool false))) }], sets := [(2, 0), (3, 1)], clr := [0, 1, 4] }
def slaws_eqDialed_r1 : Reg :=
  { id := 1, ops := [{ op := .fieldAddr (.slot 2) 0 },
      { op := .load (some 3) (.loc 0) },
      { op := .fieldAddr (.slot 3) 0 },
      { op := .load (some 3) (.loc 2) },
      { op := .call 205 [(false, .loc 1), (false, .loc 3)] [] },
      { op := .un .not (.loc 4) }], sets := [(5, 5)] }
def slaws_eqDialed_r2 : Reg :=
  { id := 2, ops := [{ op := .mv (.con (.sc (.bool false))) }], sets := [(4, 0)], clr := [2, 3] }
def slaws_eqDialed_r3 : Reg :=
  { id := 3, ops := [{ op := .fieldAddr (.slot 2) 3 },
      { op := .load none (.loc 0) },
      { op := .fieldAddr (.slot 3) 3 },
      { op := .load none (.loc 2) },
      { op := .bin .neq (.loc 1) (.loc 3) }], sets := [(6, 4)] }
def slaws_eqDialed_r4 : Reg :=
  { id := 4, ops := [{ op := .mv (.con (.sc (.bool false))) }], sets := [(4, 0)], clr := [2, 3] }
def slaws_eqDialed_r5 : Reg :=
  { id := 5, ops := [{ op := .fieldAddr (.slot 2) 4 },
      { op := .load none (.loc 0) },
      { op := .fieldAddr (.slot 3) 4 },
      { op := .load none (.loc 2) },
      { op := .call 47 [(false, .loc 1), (false, .loc 3)] [] },
      { op := .un .not (.loc 4) }], sets := [(7, 5)], clr := [2, 3] }
def slaws_eqDialed_r6 : Reg :=
  { id := 6, ops := [{ op := .mv (.con (.sc (.bool false))) }], sets := [(4, 0)] }
def slaws_eqDialed_r7 : Reg :=
  { id := 7, ops := [{ op := .mv (.con (.sc (.bool true))) }], sets := [(4, 0)] }
def slaws_eqDialed_b : SC := .seq (.reg slaws_eqDialed_r0) (.seq (.seq (.reg slaws_eqDialed_r1) (.cond 5 (.seq (.reg slaws_eqDialed_r2) (.ret)) (.skip))) (.seq (.seq (.reg slaws_eqDialed_r3) (.cond 6 (.seq (.reg slaws_eqDialed_r4) (.ret)) (.skip))) (.seq (.seq (.reg slaws_eqDialed_r5) (.cond 7 (.seq (.reg slaws_eqDialed_r6) (.ret)) (.skip))) (.seq (.reg slaws_eqDialed_r7) (.ret)))))
def slaws_eqDialed : SFn := { nslots := 8, nobjs := 2, params := [0, 1], ngiven := 0, bor := false, takes := [], body := slaws_eqDialed_b, results := [.slot 4] }
def slaws_eqDialed_t : List Tmp := [0, 1, 2, 3, 4, 10, 15, 21]
attribute [simp] slaws_eqDialed_r0 slaws_eqDialed_r1 slaws_eqDialed_r2 slaws_eqDialed_r3 slaws_eqDialed_r4 slaws_eqDialed_r5 slaws_eqDialed_r6 slaws_eqDialed_r7 slaws_eqDialed_b slaws_eqDialed
def slaws_szDeal_r0 : Reg :=
  { id := 0, ops := [{ op := .box 0 (.slot 0) },
      { op := .mv (.con (.sc (.int .i64 0))) }], sets := [(2, 0)], clr := [0, 3] }
def slaws_szDeal_r1 : Reg :=
  { id := 1, ops := [{ op := .fieldAddr (.slot 2) 2 },
      { op := .load none (.loc 0) },
      { op := .mv (.slot 1) },
      { op := .call 16 [(false, .loc 1), (false, .loc 2)] [] },
      { op := .mv (.loc 3) }], sets := [(1, 4)], clr := [2] }
def slaws_szDeal_r2 : Reg :=
  { id := 2, ops := [{ op := .mv (.slot 1) },
      { op := .bin .lss (.loc 0) (.con (.sc (.int .i64 0))) }], sets := [(4, 1)] }
def slaws_szDeal_r3 : Reg :=
  { id := 3, ops := [{ op := .mv (.con (.sc (.int .i64 (-1)))) }], sets := [(3, 0)], clr := [1] }
def slaws_szDeal_r4 : Reg :=
  { id := 4, ops := [{ op := .mv (.slot 1) },
      { op := .mv (.loc 0) }], sets := [(3, 1)], clr := [1] }
def slaws_szDeal_b : SC := .seq (.reg slaws_szDeal_r0) (.seq (.reg slaws_szDeal_r1) (.seq (.seq (.reg slaws_szDeal_r2) (.cond 4 (.seq (.reg slaws_szDeal_r3) (.ret)) (.skip))) (.seq (.reg slaws_szDeal_r4) (.ret))))
def slaws_szDeal : SFn := { nslots := 5, nobjs := 1, params := [0, 1], ngiven := 0, bor := false, takes := [], body := slaws_szDeal_b, results := [.slot 3] }
def slaws_szDeal_t : List Tmp := [0, 1, 2, 4, 10]
attribute [simp] slaws_szDeal_r0 slaws_szDeal_r1 slaws_szDeal_r2 slaws_szDeal_r3 slaws_szDeal_r4 slaws_szDeal_b slaws_szDeal
def slaws_szIntS_r0 : Reg :=
  { id := 0, ops := [{ op := .mv (.con (.sc (.int .i64 0))) }], clr := [2] }
def slaws_szIntS_r1 : Reg :=
  { id := 1, ops := [{ op := .mv (.slot 1) },
      { op := .mv (.slot 0) },
      { op := .len false (.loc 1) },
      { op := .bin .sub (.loc 0) (.loc 2) },
      { op := .mv (.loc 3) }], sets := [(1, 4)], clr := [0] }
def slaws_szIntS_r2 : Reg :=
  { id := 2, ops := [{ op := .mv (.slot 1) },
      { op := .bin .lss (.loc 0) (.con (.sc (.int .i64 0))) }], sets := [(3, 1)] }
def slaws_szIntS_r3 : Reg :=
  { id := 3, ops := [{ op := .mv (.con (.sc (.int .i64 (-1)))) }], sets := [(2, 0)], clr := [1] }
def slaws_szIntS_r4 : Reg :=
  { id := 4, ops := [{ op := .mv (.slot 1) },
      { op := .mv (.loc 0) }], sets := [(2, 1)], clr := [1] }
def slaws_szIntS_b : SC := .seq (.reg slaws_szIntS_r0) (.seq (.reg slaws_szIntS_r1) (.seq (.seq (.reg slaws_szIntS_r2) (.cond 3 (.seq (.reg slaws_szIntS_r3) (.ret)) (.skip))) (.seq (.reg slaws_szIntS_r4) (.ret))))
def slaws_szIntS : SFn := { nslots := 4, nobjs := 0, params := [0, 1], ngiven := 0, bor := false, takes := [], body := slaws_szIntS_b, results := [.slot 2] }
def slaws_szIntS_t : List Tmp := [0, 1, 4, 10]
attribute [simp] slaws_szIntS_r0 slaws_szIntS_r1 slaws_szIntS_r2 slaws_szIntS_r3 slaws_szIntS_r4 slaws_szIntS_b slaws_szIntS
def sspec_MaskedBy_r0 : Reg :=
  { id := 0, ops := [{ op := .mv (.con (.sc (.int .i64 0))) },
      { op := .mv (.con (.sc (.int .i64 0))) }], clr := [2, 3] }
def sspec_MaskedBy_r1 : Reg :=
  { id := 1, ops := [{ op := .mv (.con (.sc (.int .i64 0))) }], sets := [(4, 0)] }
def sspec_MaskedBy_r2 : Reg :=
  { id := 2, ops := [{ op := .mv (.con (.sc (.int .i64 0))) }], sets := [(5, 0)] }
def sspec_MaskedBy_r3 : Reg :=
  { id := 3, ops := [{ op := .mv (.con (.sc (.int .i64 0))) }], sets := [(6, 0)] }
def sspec_MaskedBy_r4 : Reg :=
  { id := 4, ops := [{ op := .mv (.slot 6) },
      { op := .mv (.slot 0) },
      { op := .len false (.loc 1) },
      { op := .bin .lss (.loc 0) (.loc 2) }], sets := [(8, 3)] }
def sspec_MaskedBy_r5 : Reg :=
  { id := 6, fresh := [0], ops := [{ op := .mv (.slot 0) },
      { op := .mv (.slot 6) },
      { op := .indexAddr 5 (.loc 0) (.loc 1) },
      { op := .load (some 5) (.loc 2) },
      { op := .alloc 0 [.sc (.bool false), .sc (.int .i64 0), .nil 1, .sc (.int .i64 0), .nil 1] },
      { op := .store 5 (.loc 4) (.loc 3) }], sets := [(7, 4)] }
def sspec_MaskedBy_r6 : Reg :=
  { id := 7, ops := [{ op := .fieldAddr (.slot 7) 0 },
      { op := .fieldAddr (.loc 0) 0 },
      { op := .load none (.loc 1) },
      { op := .un .not (.loc 2) },
      { op := .mv (.loc 3) },
      { op := .fieldAddr (.slot 7) 0, guard := some (4, false) },
      { op := .fieldAddr (.loc 5) 1, guard := some (4, false) },
      { op := .load none (.loc 6), guard := some (4, false) },
      { op := .mv (.slot 1), guard := some (4, false) },
      { op := .bin .lss (.loc 7) (.loc 8), guard := some (4, false) },
      { op := .mv (.loc 9), guard := some (4, false) },
      { op := .fieldAddr (.slot 7) 4, guard := some (10, true) },
      { op := .load none (.loc 11), guard := some (10, true) },
      { op := .mv (.slot 1), guard := some (10, true) },
      { op := .call 166 [(false, .loc 12), (false, .loc 13)] [], guard := some (10, true) },
      { op := .pick (.loc 10) (.loc 14) (.con (.sc (.bool false))), guard := some (4, false) },
      { op := .pick (.loc 4) (.con (.sc (.bool true))) (.loc 15) },
      { op := .mv (.loc 16) }], sets := [(9, 17)] }
def sspec_MaskedBy_r7 : Reg :=
  { id := 8, ops := [{ op := .mv (.slot 5) },
      { op := .bin .add (.loc 0) (.con (.sc (.int .i64 1))) },
      { op := .mv (.loc 1) }], sets := [(5, 2)], clr := [7] }
def sspec_MaskedBy_r8 : Reg :=
  { id := 9, ops := [{ op := .fieldAddr (.slot 7) 0 },
      { op := .fieldAddr (.loc 0) 1 },
      { op := .load none (.loc 1) },
      { op := .mv (.slot 1) },
      { op := .bin .geq (.loc 2) (.loc 3) },
      { op := .mv (.loc 4) }], sets := [(10, 5)], clr := [7] }
def sspec_MaskedBy_r9 : Reg :=
  { id := 10, ops := [{ op := .mv (.slot 4) },
      { op := .bin .add (.loc 0) (.con (.sc (.int .i64 1))) },
      { op := .mv (.loc 1) }], sets := [(4, 2)] }
def sspec_MaskedBy_r10 : Reg :=
  { id := 5, ops := [{ op := .mv (.slot 6) },
      { op := .bin .add (.loc 0) (.con (.sc (.int .i64 1))) },
      { op := .mv (.loc 1) }], sets := [(6, 2)] }
def sspec_MaskedBy_r11 : Reg :=
  { id := 11, ops := [{ op := .mv (.slot 4) },
      { op := .mv (.slot 5) },
      { op := .mv (.loc 0) },
      { op := .mv (.loc 1) }], sets := [(2, 2), (3, 3)], clr := [0, 1, 4, 5, 6] }
def sspec_MaskedBy_b : SC := .seq (.reg sspec_MaskedBy_r0) (.seq (.reg sspec_MaskedBy_r1) (.seq (.reg sspec_MaskedBy_r2) (.seq (.seq (.reg sspec_MaskedBy_r3) (.block 0 (.loop (.seq (.seq (.reg sspec_MaskedBy_r4) (.cond 8 (.skip) (.exit 0))) (.seq (.block 1 (.seq (.reg sspec_MaskedBy_r5) (.block 2 (.seq (.reg sspec_MaskedBy_r6) (.cond 9 (.reg sspec_MaskedBy_r7) (.seq (.reg sspec_MaskedBy_r8) (.cond 10 (.reg sspec_MaskedBy_r9) (.skip)))))))) (.reg sspec_MaskedBy_r10)))))) (.seq (.reg sspec_MaskedBy_r11) (.ret)))))
def sspec_MaskedBy : SFn := { nslots := 11, nobjs := 1, params := [0, 1], ngiven := 0, bor := false, takes := [], body := sspec_MaskedBy_b, results := [.slot 2, .slot 3] }
def sspec_MaskedBy_t : List Tmp := [0, 1, 4, 5, 6, 7, 8, 9, 13, 20, 40]
attribute [simp] sspec_MaskedBy_r0 sspec_MaskedBy_r1 sspec_MaskedBy_r2 sspec_MaskedBy_r3 sspec_MaskedBy_r4 sspec_MaskedBy_r5 sspec_MaskedBy_r6 sspec_MaskedBy_r7 sspec_MaskedBy_r8 sspec_MaskedBy_r9 sspec_MaskedBy_r10 sspec_MaskedBy_r11 sspec_MaskedBy_b sspec_MaskedBy
def slaws_toDeal_r0 : Reg :=
  { id := 0, ops := [{ op := .box 0 (.slot 0) },
      { op := .alloc 1 [.sc (.bool false), .sc (.int .i64 0), .nil 1] }], sets := [(1, 0), (2, 1)], clr := [0] }
def slaws_toDeal_r1 : Reg :=
  { id := 1, ops := [{ op := .alloc 2 [.sc (.bool false), .sc (.int .i64 0), .nil 1] }], sets := [(3, 0)] }
def slaws_toDeal_r2 : Reg :=
  { id := 2, ops := [{ op := .fieldAddr (.slot 1) 0 },
      { op := .load none (.loc 0) },
      { op := .fieldAddr (.slot 3) 0 },
      { op := .store 1 (.loc 2) (.loc 1) }] }
def slaws_toDeal_r3 : Reg :=
  { id := 3, ops := [{ op := .fieldAddr (.slot 1) 1 },
      { op := .load none (.loc 0) },
      { op := .fieldAddr (.slot 3) 1 },
      { op := .store 1 (.loc 2) (.loc 1) }] }
def slaws_toDeal_r4 : Reg :=
  { id := 4, ops := [{ op := .fieldAddr (.slot 1) 2 },
      { op := .load none (.loc 0) },
      { op := .call 31 [(false, .loc 1)] [3] },
      { op := .fieldAddr (.slot 3) 2 },
      { op := .store 1 (.loc 3) (.loc 2) }], clr := [1] }
def slaws_toDeal_r5 : Reg :=
  { id := 5, ops := [{ op := .load (some 3) (.slot 3) },
      { op := .store 3 (.slot 2) (.loc 0) }], clr := [3] }
def slaws_toDeal_b : SC := .seq (.reg slaws_toDeal_r0) (.seq (.reg slaws_toDeal_r1) (.seq (.reg slaws_toDeal_r2) (.seq (.reg slaws_toDeal_r3) (.seq (.reg slaws_toDeal_r4) (.seq (.reg slaws_toDeal_r5) (.ret))))))
def slaws_toDeal : SFn := { nslots := 4, nobjs := 4, params := [0], ngiven := 0, bor := false, takes := [], body := slaws_toDeal_b, results := [.cell 2 (some 3)] }
def slaws_toDeal_t : List Tmp := [0, 1, 2, 3]
attribute [simp] slaws_toDeal_r0 slaws_toDeal_r1 slaws_toDeal_r2 slaws_toDeal_r3 slaws_toDeal_r4 slaws_toDeal_r5 slaws_toDeal_b slaws_toDeal
def slaws_toIntS_r0 : Reg :=
  { id := 0, ops := [{ op := .mv (.con (.nil 1)) }], clr := [1] }
def slaws_toIntS_r1 : Reg :=
  { id := 1, ops := [{ op := .mv (.slot 0) },
      { op := .len false (.loc 0) },
      { op := .makeSlice 0 1 8 [.sc (.int .i64 0)] (.loc 1) },
      { op := .mv (.loc 2) }], sets := [(2, 3)] }
def slaws_toIntS_r2 : Reg :=
  { id := 2, ops := [{ op := .mv (.con (.sc (.int .i64 0))) }], sets := [(3, 0)] }
def slaws_toIntS_r3 : Reg :=
  { id := 3, ops := [{ op := .mv (.slot 3) },
      { op := .mv (.slot 0) },
      { op := .len false (.loc 1) },
      { op := .bin .lss (.loc 0) (.loc 2) }], sets := [(4, 3)] }
def slaws_toIntS_r4 : Reg :=
  { id := 5, ops := [{ op := .mv (.slot 2) },
      { op := .mv (.slot 3) },
      { op := .mv (.slot 0) },
      { op := .mv (.slot 3) },
      { op := .indexAddr 1 (.loc 2) (.loc 3) },
      { op := .load none (.loc 4) },
      { op := .indexAddr 1 (.loc 0) (.loc 1) },
      { op := .store 1 (.loc 6) (.loc 5) }] }
def slaws_toIntS_r5 : Reg :=
  { id := 4, ops := [{ op := .mv (.slot 3) },
      { op := .bin .add (.loc 0) (.con (.sc (.int .i64 1))) },
      { op := .mv (.loc 1) }], sets := [(3, 2)] }
def slaws_toIntS_r6 : Reg :=
  { id := 6, ops := [{ op := .mv (.slot 2) },
      { op := .mv (.loc 0) }], sets := [(1, 1)], clr := [0, 2, 3] }
def slaws_toIntS_b : SC := .seq (.reg slaws_toIntS_r0) (.seq (.reg slaws_toIntS_r1) (.seq (.seq (.reg slaws_toIntS_r2) (.block 0 (.loop (.seq (.seq (.reg slaws_toIntS_r3) (.cond 4 (.skip) (.exit 0))) (.seq (.block 1 (.reg slaws_toIntS_r4)) (.reg slaws_toIntS_r5)))))) (.seq (.reg slaws_toIntS_r6) (.ret))))
def slaws_toIntS : SFn := { nslots := 5, nobjs := 1, params := [0], ngiven := 0, bor := false, takes := [], body := slaws_toIntS_b, results := [.slot 1] }
def slaws_toIntS_t : List Tmp := [0, 2, 3, 4, 11]
attribute [simp] slaws_toIntS_r0 slaws_toIntS_r1 slaws_toIntS_r2 slaws_toIntS_r3 slaws_toIntS_r4 slaws_toIntS_r5 slaws_toIntS_r6 slaws_toIntS_b slaws_toIntS
def simpl_isBad_r0 : Reg :=
  { id := 0, ops := [{ op := .box 0 (.slot 0) },
      { op := .mv (.con (.sc (.bool false))) }], sets := [(2, 0)], clr := [0, 3] }
def simpl_isBad_r1 : Reg :=
  { id := 1, ops := [{ op := .fieldAddr (.slot 2) 0 },
      { op := .fieldAddr (.loc 0) 0 },
      { op := .load none (.loc 1) },
      { op := .un .not (.loc 2) },
      { op := .mv (.loc 3) },
      { op := .fieldAddr (.slot 2) 0, guard := some (4, false) },
      { op := .fieldAddr (.loc 5) 1, guard := some (4, false) },
      { op := .load none (.loc 6), guard := some (4, false) },
      { op := .mv (.slot 1), guard := some (4, false) },
      { op := .bin .lss (.loc 7) (.loc 8), guard := some (4, false) },
      { op := .mv (.loc 9), guard := some (4, false) },
      { op := .fieldAddr (.slot 2) 4, guard := some (10, true) },
      { op := .load none (.loc 11), guard := some (10, true) },
      { op := .mv (.slot 1), guard := some (10, true) },
      { op := .call 188 [(false, .loc 12), (false, .loc 13)] [], guard := some (10, true) },
      { op := .pick (.loc 10) (.loc 14) (.con (.sc (.bool false))), guard := some (4, false) },
      { op := .pick (.loc 4) (.con (.sc (.bool true))) (.loc 15) },
      { op := .mv (.loc 16) }], sets := [(3, 17)], clr := [1, 2] }
def simpl_isBad_b : SC := .seq (.reg simpl_isBad_r0) (.seq (.reg simpl_isBad_r1) (.ret))
def simpl_isBad : SFn := { nslots := 4, nobjs := 1, params := [0, 1], ngiven := 0, bor := false, takes := [], body := simpl_isBad_b, results := [.slot 3] }
def simpl_isBad_t : List Tmp := [0, 1, 2, 4]
attribute [simp] simpl_isBad_r0 simpl_isBad_r1 simpl_isBad_b simpl_isBad
def slaws_eqDeal_r0 : Reg :=
  { id := 0, ops := [{ op := .box 0 (.slot 0) },
      { op := .box 1 (.slot 1) },
      { op := .mv (.con (.sc (.bool false))) }], sets := [(2, 0), (3, 1)], clr := [0, 1, 4] }
def slaws_eqDeal_r1 : Reg :=
  { id := 1, ops := [{ op := .fieldAddr (.slot 2) 0 },
      { op := .load none (.loc 0) },
      { op := .fieldAddr (.slot 3) 0 },
      { op := .load none (.loc 2) },
      { op := .beq true (.loc 1) (.loc 3) }], sets := [(5, 4)] }
def slaws_eqDeal_r2 : Reg :=
  { id := 2, ops := [{ op := .mv (.con (.sc (.bool false))) }], sets := [(4, 0)], clr := [2, 3] }
def slaws_eqDeal_r3 : Reg :=
  { id := 3, ops := [{ op := .fieldAddr (.slot 2) 1 },
      { op := .load none (.loc 0) },
      { op := .fieldAddr (.slot 3) 1 },
      { op := .load none (.loc 2) },
      { op := .bin .neq (.loc 1) (.loc 3) }], sets := [(6, 4)] }
def slaws_eqDeal_r4 : Reg :=
  { id := 4, ops := [{ op := .mv (.con (.sc (.bool false))) }], sets := [(4, 0)], clr := [2, 3] }
def slaws_eqDeal_r5 : Reg :=
  { id := 5, ops := [{ op := .fieldAddr (.slot 2) 2 },
      { op := .load none (.loc 0) },
      { op := .fieldAddr (.slot 3) 2 },
      { op := .load none (.loc 2) },
      { op := .call 47 [(false, .loc 1), (false, .loc 3)] [] },
      { op := .un .not (.loc 4) }], sets := [(7, 5)], clr := [2, 3] }
def slaws_eqDeal_r6 : Reg :=
  { id := 6, ops := [{ op := .mv (.con (.sc (.bool false))) }], sets := [(4, 0)] }
def slaws_eqDeal_r7 : Reg :=
  { id := 7, ops := [{ op := .mv (.con (.sc (.bool true))) }], sets := [(4, 0)] }
def slaws_eqDeal_b : SC := .seq (.reg slaws_eqDeal_r0) (.seq (.seq (.reg slaws_eqDeal_r1) (.cond 5 (.seq (.reg slaws_eqDeal_r2) (.ret)) (.skip))) (.seq (.seq (.reg slaws_eqDeal_r3) (.cond 6 (.seq (.reg slaws_eqDeal_r4) (.ret)) (.skip))) (.seq (.seq (.reg slaws_eqDeal_r5) (.cond 7 (.seq (.reg slaws_eqDeal_r6) (.ret)) (.skip))) (.seq (.reg slaws_eqDeal_r7) (.ret)))))
def slaws_eqDeal : SFn := { nslots := 8, nobjs := 2, params := [0, 1], ngiven := 0, bor := false, takes := [], body := slaws_eqDeal_b, results := [.slot 4] }
def slaws_eqDeal_t : List Tmp := [0, 1, 2, 3, 4, 9, 14, 20]
attribute [simp] slaws_eqDeal_r0 slaws_eqDeal_r1 slaws_eqDeal_r2 slaws_eqDeal_r3 slaws_eqDeal_r4 slaws_eqDeal_r5 slaws_eqDeal_r6 slaws_eqDeal_r7 slaws_eqDeal_b slaws_eqDeal
def slaws_eqIntS_r0 : Reg :=
  { id := 0, ops := [{ op := .mv (.con (.sc (.bool false))) }], clr := [2] }
def slaws_eqIntS_r1 : Reg :=
  { id := 1, ops := [{ op := .mv (.slot 0) },
      { op := .len false (.loc 0) },
      { op := .mv (.slot 1) },
      { op := .len false (.loc 2) },
      { op := .bin .neq (.loc 1) (.loc 3) }], sets := [(4, 4)] }
def slaws_eqIntS_r2 : Reg :=
  { id := 2, ops := [{ op := .mv (.con (.sc (.bool false))) }], sets := [(2, 0)], clr := [0, 1] }
def slaws_eqIntS_r3 : Reg :=
  { id := 3, ops := [{ op := .mv (.con (.sc (.int .i64 0))) }], sets := [(3, 0)] }
def slaws_eqIntS_r4 : Reg :=
  { id := 4, ops := [{ op := .mv (.slot 3) },
      { op := .mv (.slot 0) },
      { op := .len false (.loc 1) },
      { op := .bin .lss (.loc 0) (.loc 2) }], sets := [(5, 3)] }
def slaws_eqIntS_r5 : Reg :=
  { id := 6, draw := true, ops := [{ op := .mv (.slot 0), tau := some [], om := [] },
      { op := .mv (.slot 3), tau := some [], om := [] },
      { op := .indexAddr 1 (.loc 0) (.loc 1), tau := some [], om := [] },
      { op := .load none (.loc 2), tau := some [], om := [] },
      { op := .mv (.slot 1), tau := some [], om := [] },
      { op := .mv (.slot 3), tau := some [], om := [] },
      { op := .indexAddr 1 (.loc 4) (.loc 5), tau := some [], om := [] },
      { op := .load none (.loc 6), tau := some [], om := [] },
      { op := .bin .neq (.loc 3) (.loc 7), tau := some [], om := [] }], sets := [(6, 8)] }
def slaws_eqIntS_r6 : Reg :=
  { id := 7, ops := [{ op := .mv (.con (.sc (.bool false))) }], sets := [(2, 0)], clr := [0, 1, 3] }
def slaws_eqIntS_r7 : Reg :=
  { id := 5, ops := [{ op := .mv (.slot 3) },
      { op := .bin .add (.loc 0) (.con (.sc (.int .i64 1))) },
      { op := .mv (.loc 1) }], sets := [(3, 2)] }
def slaws_eqIntS_r8 : Reg :=
  { id := 8, ops := [{ op := .mv (.con (.sc (.bool true))) }], sets := [(2, 0)], clr := [0, 1, 3] }
def slaws_eqIntS_b : SC := .seq (.reg slaws_eqIntS_r0) (.seq (.seq (.reg slaws_eqIntS_r1) (.cond 4 (.seq (.reg slaws_eqIntS_r2) (.ret)) (.skip))) (.seq (.seq (.reg slaws_eqIntS_r3) (.block 0 (.loop (.seq (.seq (.reg slaws_eqIntS_r4) (.cond 5 (.skip) (.exit 0))) (.seq (.block 1 (.seq (.reg slaws_eqIntS_r5) (.cond 6 (.seq (.reg slaws_eqIntS_r6) (.ret)) (.skip)))) (.reg slaws_eqIntS_r7)))))) (.seq (.reg slaws_eqIntS_r8) (.ret))))
def slaws_eqIntS : SFn := { nslots := 7, nobjs := 0, params := [0, 1], ngiven := 0, bor := false, takes := [], body := slaws_eqIntS_b, results := [.slot 2] }
def slaws_eqIntS_t : List Tmp := [0, 1, 4, 5, 10, 14, 25]
attribute [simp] slaws_eqIntS_r0 slaws_eqIntS_r1 slaws_eqIntS_r2 slaws_eqIntS_r3 slaws_eqIntS_r4 slaws_eqIntS_r5 slaws_eqIntS_r6 slaws_eqIntS_r7 slaws_eqIntS_r8 slaws_eqIntS_b slaws_eqIntS
def sspec_l9Has_r0 : Reg :=
  { id := 0, ops := [{ op := .mv (.con (.sc (.bool false))) }], clr := [2] }
def sspec_l9Has_r1 : Reg :=
  { id := 1, ops := [{ op := .mv (.con (.sc (.int .i64 0))) }], sets := [(3, 0)] }
def sspec_l9Has_r2 : Reg :=
  { id := 2, ops := [{ op := .mv (.slot 3) },
      { op := .mv (.slot 0) },
      { op := .len false (.loc 1) },
      { op := .bin .lss (.loc 0) (.loc 2) }], sets := [(4, 3)] }
def sspec_l9Has_r3 : Reg :=
  { id := 4, ops := [{ op := .mv (.slot 0) },
      { op := .mv (.slot 3) },
      { op := .indexAddr 1 (.loc 0) (.loc 1) },
      { op := .load none (.loc 2) },
      { op := .mv (.slot 1) },
      { op := .bin .eql (.loc 3) (.loc 4) }], sets := [(5, 5)] }
def sspec_l9Has_r4 : Reg :=
  { id := 5, ops := [{ op := .mv (.con (.sc (.bool true))) }], sets := [(2, 0)], clr := [0, 1, 3] }
def sspec_l9Has_r5 : Reg :=
  { id := 3, ops := [{ op := .mv (.slot 3) },
      { op := .bin .add (.loc 0) (.con (.sc (.int .i64 1))) },
      { op := .mv (.loc 1) }], sets := [(3, 2)] }
def sspec_l9Has_r6 : Reg :=
  { id := 6, ops := [{ op := .mv (.con (.sc (.bool false))) }], sets := [(2, 0)], clr := [0, 1, 3] }
def sspec_l9Has_b : SC := .seq (.reg sspec_l9Has_r0) (.seq (.seq (.reg sspec_l9Has_r1) (.block 0 (.loop (.seq (.seq (.reg sspec_l9Has_r2) (.cond 4 (.skip) (.exit 0))) (.seq (.block 1 (.seq (.reg sspec_l9Has_r3) (.cond 5 (.seq (.reg sspec_l9Has_r4) (.ret)) (.skip)))) (.reg sspec_l9Has_r5)))))) (.seq (.reg sspec_l9Has_r6) (.ret)))
def sspec_l9Has : SFn := { nslots := 6, nobjs := 0, params := [0, 1], ngiven := 0, bor := false, takes := [], body := sspec_l9Has_b, results := [.slot 2] }
def sspec_l9Has_t : List Tmp := [0, 1, 4, 5, 9, 17]
attribute [simp] sspec_l9Has_r0 sspec_l9Has_r1 sspec_l9Has_r2 sspec_l9Has_r3 sspec_l9Has_r4 sspec_l9Has_r5 sspec_l9Has_r6 sspec_l9Has_b sspec_l9Has
def sslices_Contains___int_int__r0 : Reg :=
  { id := 0, ops := [{ op := .mv (.con (.sc (.bool false))) }], clr := [2] }
def sslices_Contains___int_int__r1 : Reg :=
  { id := 1, ops := [{ op := .mv (.slot 0) },
      { op := .mv (.slot 1) },
      { op := .call 389 [(false, .loc 0), (false, .loc 1)] [] },
      { op := .bin .geq (.loc 2) (.con (.sc (.int .i64 0))) },
      { op := .mv (.loc 3) }], sets := [(2, 4)], clr := [0, 1] }
def sslices_Contains___int_int__b : SC := .seq (.reg sslices_Contains___int_int__r0) (.seq (.reg sslices_Contains___int_int__r1) (.ret))
def sslices_Contains___int_int_ : SFn := { nslots := 3, nobjs := 0, params := [0, 1], ngiven := 0, bor := false, takes := [], body := sslices_Contains___int_int__b, results := [.slot 2] }
def sslices_Contains___int_int__t : List Tmp := [0, 1, 4]
attribute [simp] sslices_Contains___int_int__r0 sslices_Contains___int_int__r1 sslices_Contains___int_int__b sslices_Contains___int_int_
def sslices_Index___int_int__r0 : Reg :=
  { id := 0, ops := [{ op := .mv (.con (.sc (.int .i64 0))) }], clr := [2] }
def sslices_Index___int_int__r1 : Reg :=
  { id := 1, ops := [{ op := .mv (.slot 0) },
      { op := .len false (.loc 0) },
      { op := .mv (.con (.sc (.int .i64 0))) }], sets := [(4, 1), (5, 2)] }
def sslices_Index___int_int__r2 : Reg :=
  { id := 2, ops := [{ op := .bin .lss (.slot 5) (.slot 4) }], sets := [(6, 0)] }
def sslices_Index___int_int__r3 : Reg :=
  { id := 3, ops := [{ op := .mv (.slot 5) },
      { op := .mv (.loc 0) }], sets := [(3, 1)] }
def sslices_Index___int_int__r4 : Reg :=
  { id := 4, ops := [{ op := .mv (.slot 1) },
      { op := .mv (.slot 0) },
      { op := .mv (.slot 3) },
      { op := .indexAddr 1 (.loc 1) (.loc 2) },
      { op := .load none (.loc 3) },
      { op := .bin .eql (.loc 0) (.loc 4) }], sets := [(7, 5)] }
def sslices_Index___int_int__r5 : Reg :=
  { id := 5, ops := [{ op := .mv (.slot 3) },
      { op := .mv (.loc 0) }], sets := [(2, 1)], clr := [0, 1, 3, 4, 5] }
def sslices_Index___int_int__r6 : Reg :=
  { id := 6, ops := [{ op := .bin .add (.slot 5) (.con (.sc (.int .i64 1))) },
      { op := .mv (.loc 0) }], sets := [(5, 1)], clr := [3] }
def sslices_Index___int_int__r7 : Reg :=
  { id := 7, ops := [{ op := .mv (.con (.sc (.int .i64 (-1)))) }], sets := [(2, 0)], clr := [0, 1, 4, 5] }
def sslices_Index___int_int__b : SC := .seq (.reg sslices_Index___int_int__r0) (.seq (.seq (.reg sslices_Index___int_int__r1) (.block 0 (.loop (.seq (.reg sslices_Index___int_int__r2) (.seq (.cond 6 (.skip) (.exit 0)) (.seq (.block 1 (.seq (.reg sslices_Index___int_int__r3) (.seq (.reg sslices_Index___int_int__r4) (.cond 7 (.seq (.reg sslices_Index___int_int__r5) (.ret)) (.skip))))) (.reg sslices_Index___int_int__r6))))))) (.seq (.reg sslices_Index___int_int__r7) (.ret)))
def sslices_Index___int_int_ : SFn := { nslots := 8, nobjs := 0, params := [0, 1], ngiven := 0, bor := false, takes := [], body := sslices_Index___int_int__b, results := [.slot 2] }
def sslices_Index___int_int__t : List Tmp := [0, 1, 4, 5, 7, 8, 9, 16]
attribute [simp] sslices_Index___int_int__r0 sslices_Index___int_int__r1 sslices_Index___int_int__r2 sslices_Index___int_int__r3 sslices_Index___int_int__r4 sslices_Index___int_int__r5 sslices_Index___int_int__r6 sslices_Index___int_int__r7 sslices_Index___int_int__b sslices_Index___int_int_
end Go.Eng.T

namespace Go.Eng.T
abbrev glaws_FnExactRunConsole : Nat := 0
abbrev gspec_RunConsole : Nat := 1
abbrev gimpl_RunConsole : Nat := 2
abbrev glaws_eqStringS : Nat := 3
abbrev glaws_markStringS : Nat := 4
abbrev glaws_heldStringS : Nat := 5
abbrev glaws_FnExactConsoleLine : Nat := 6
abbrev glaws_szWorld : Nat := 7
abbrev glaws_toWorld : Nat := 8
abbrev gspec_ConsoleLine : Nat := 9
abbrev gimpl_ConsoleLine : Nat := 10
abbrev glaws_eqWorld : Nat := 11
abbrev glaws_markWorld : Nat := 12
abbrev glaws_heldWorld : Nat := 13
abbrev gstrings_Split : Nat := 14
abbrev glaws_markText : Nat := 15
abbrev glaws_szIntS : Nat := 16
abbrev glaws_szEndpointS : Nat := 17
abbrev glaws_szRollout : Nat := 18
abbrev glaws_szDialedS : Nat := 19
abbrev glaws_szLoggedS : Nat := 20
abbrev gspec_l40Words : Nat := 21
abbrev gspec_l32Copy : Nat := 22
abbrev gspec_l40Nums : Nat := 23
abbrev gspec_l40World : Nat := 24
abbrev gspec_TryAll : Nat := 25
abbrev gspec_l40Event : Nat := 26
abbrev gspec_ApplyEvent : Nat := 27
abbrev gspec_l40Said : Nat := 28
abbrev gspec_l40None : Nat := 29
abbrev gspec_l40One : Nat := 30
abbrev glaws_toIntS : Nat := 31
abbrev glaws_toEndpointS : Nat := 32
abbrev glaws_toRollout : Nat := 33
abbrev glaws_toDialedS : Nat := 34
abbrev glaws_toLoggedS : Nat := 35
abbrev gimpl_ConsoleLine_1 : Nat := 36
abbrev gslices_DeleteFunc___string_string_ : Nat := 37
abbrev gimpl_copyWorld : Nat := 38
abbrev gimpl_numbersOf : Nat := 39
abbrev gimpl_eventOf : Nat := 40
abbrev gimpl_ApplyEvent : Nat := 41
abbrev gimpl_told : Nat := 42
abbrev gimpl_newWorldOf : Nat := 43
abbrev gimpl_TryAll : Nat := 44
abbrev gimpl_askNumber : Nat := 45
abbrev gimpl_ask : Nat := 46
abbrev glaws_eqIntS : Nat := 47
abbrev glaws_eqEndpointS : Nat := 48
abbrev glaws_eqRollout : Nat := 49
abbrev glaws_eqDialedS : Nat := 50
abbrev glaws_eqLoggedS : Nat := 51
abbrev glaws_markIntS : Nat := 52
abbrev glaws_markEndpointS : Nat := 53
abbrev glaws_markRollout : Nat := 54
abbrev glaws_markDialedS : Nat := 55
abbrev glaws_markLoggedS : Nat := 56
abbrev glaws_heldIntS : Nat := 57
abbrev glaws_heldEndpointS : Nat := 58
abbrev glaws_heldRollout : Nat := 59
abbrev glaws_heldDialedS : Nat := 60
abbrev glaws_heldLoggedS : Nat := 61
abbrev glaws_szEndpoint : Nat := 62
abbrev glaws_szDialed : Nat := 63
abbrev glaws_szLogged : Nat := 64
abbrev gspec_l32End : Nat := 65
abbrev gspec_l26Copy : Nat := 66
abbrev gspec_l32Dialed : Nat := 67
abbrev gspec_ParseInt : Nat := 68
abbrev gspec_ExampleEnds : Nat := 69
abbrev gspec_NewWorld : Nat := 70
abbrev gspec_l1In : Nat := 71
abbrev gspec_StepDial : Nat := 72
abbrev gspec_EventName : Nat := 73
abbrev gspec_StepStart : Nat := 74
abbrev gspec_StepStage : Nat := 75
abbrev gspec_StepRetire : Nat := 76
abbrev gspec_StepRevive : Nat := 77
abbrev gspec_StepBox : Nat := 78
abbrev gspec_StepClear : Nat := 79
abbrev gspec_StepTick : Nat := 80
abbrev gspec_FormatDialed : Nat := 81
abbrev gspec_SignalNow : Nat := 82
abbrev gspec_SignalName : Nat := 83
abbrev gspec_HardEnds : Nat := 84
abbrev gspec_FormatList : Nat := 85
abbrev gspec_VersionCounts : Nat := 86
abbrev gspec_HurtEnds : Nat := 87
abbrev gspec_FormatWorld : Nat := 88
abbrev gspec_FaultOf : Nat := 89
abbrev gspec_l40Or : Nat := 90
abbrev gspec_FormatEnd : Nat := 91
abbrev gspec_BestNow : Nat := 92
abbrev gspec_FormatInt : Nat := 93
abbrev gspec_HasVersion : Nat := 94
abbrev gspec_ListsOf : Nat := 95
abbrev gspec_Stranded : Nat := 96
abbrev gspec_ReportNow : Nat := 97
abbrev glaws_toEndpoint : Nat := 98
abbrev glaws_toDialed : Nat := 99
abbrev glaws_toLogged : Nat := 100
abbrev gimpl_copyRollout : Nat := 101
abbrev gimpl_copyEndpoint : Nat := 102
abbrev gimpl_copyDialed : Nat := 103
abbrev gimpl_ParseInt : Nat := 104
abbrev gslices_Index___string_string_ : Nat := 105
abbrev gimpl_StepDial : Nat := 106
abbrev gimpl_StepStart : Nat := 107
abbrev gimpl_StepStage : Nat := 108
abbrev gimpl_StepRetire : Nat := 109
abbrev gimpl_StepRevive : Nat := 110
abbrev gimpl_StepBox : Nat := 111
abbrev gimpl_StepClear : Nat := 112
abbrev gimpl_StepTick : Nat := 113
abbrev gimpl_InRange : Nat := 114
abbrev gimpl_ExampleEnds : Nat := 115
abbrev gimpl_NewWorld : Nat := 116
abbrev gimpl_hasEnd : Nat := 117
abbrev gimpl_FormatEnd : Nat := 118
abbrev gimpl_BestNow : Nat := 119
abbrev gimpl_FormatInt : Nat := 120
abbrev gimpl_HasVersion : Nat := 121
abbrev gimpl_FormatList : Nat := 122
abbrev gimpl_ListsOf : Nat := 123
abbrev gimpl_Stranded : Nat := 124
abbrev gimpl_ReportNow : Nat := 125
abbrev gimpl_FormatDialed : Nat := 126
abbrev gimpl_SignalNow : Nat := 127
abbrev gimpl_SignalName : Nat := 128
abbrev gimpl_HardEnds : Nat := 129
abbrev gimpl_VersionCounts : Nat := 130
abbrev gimpl_HurtEnds : Nat := 131
abbrev gimpl_FormatWorld : Nat := 132
abbrev gimpl_FaultOf : Nat := 133
abbrev glaws_eqEndpoint : Nat := 134
abbrev glaws_eqDialed : Nat := 135
abbrev glaws_eqLogged : Nat := 136
abbrev glaws_markBoxS : Nat := 137
abbrev glaws_heldBoxS : Nat := 138
abbrev glaws_szBoxS : Nat := 139
abbrev glaws_szDeal : Nat := 140
abbrev gspec_IsWorld : Nat := 141
abbrev gspec_DialOf : Nat := 142
abbrev gspec_IsOnNew : Nat := 143
abbrev gspec_IsBadDial : Nat := 144
abbrev gspec_IsRollout : Nat := 145
abbrev gspec_EnterStage : Nat := 146
abbrev gspec_NextStage : Nat := 147
abbrev gspec_BackStage : Nat := 148
abbrev gspec_LeaveRollout : Nat := 149
abbrev gspec_RetireVersion : Nat := 150
abbrev gspec_AddVersion : Nat := 151
abbrev gspec_IsBox : Nat := 152
abbrev gspec_FormatDeal : Nat := 153
abbrev gspec_l39Join : Nat := 154
abbrev gspec_MaskedBy : Nat := 155
abbrev gspec_SignalOf : Nat := 156
abbrev gspec_HardenedBoxes : Nat := 157
abbrev gspec_l37Bad : Nat := 158
abbrev gspec_l4Put : Nat := 159
abbrev gspec_FormatRollout : Nat := 160
abbrev gspec_IsBounded : Nat := 161
abbrev gspec_IsTogether : Nat := 162
abbrev gspec_IsCounted : Nat := 163
abbrev gspec_IsSober : Nat := 164
abbrev gspec_BestFor : Nat := 165
abbrev gspec_l9Has : Nat := 166
abbrev gspec_l12Without : Nat := 167
abbrev gspec_BestCommon : Nat := 168
abbrev gspec_HideSmall : Nat := 169
abbrev glaws_toBoxS : Nat := 170
abbrev glaws_toDeal : Nat := 171
abbrev gimpl_copyPath : Nat := 172
abbrev gimpl_DialOf : Nat := 173
abbrev gimpl_IsOnNew : Nat := 174
abbrev gimpl_IsBadDial : Nat := 175
abbrev gimpl_IsRollout : Nat := 176
abbrev gimpl_EnterStage : Nat := 177
abbrev gimpl_NextStage : Nat := 178
abbrev gimpl_BackStage : Nat := 179
abbrev gimpl_LeaveRollout : Nat := 180
abbrev gimpl_RetireVersion : Nat := 181
abbrev gimpl_AddVersion : Nat := 182
abbrev gimpl_IsBox : Nat := 183
abbrev gimpl_IsWorld : Nat := 184
abbrev gstrconv_Itoa : Nat := 185
abbrev gimpl_BestFor : Nat := 186
abbrev gimpl_joined : Nat := 187
abbrev gslices_Contains___int_int_ : Nat := 188
abbrev gimpl_without : Nat := 189
abbrev gimpl_BestCommon : Nat := 190
abbrev gimpl_HideSmall : Nat := 191
abbrev gimpl_FormatDeal : Nat := 192
abbrev gimpl_MaskedBy : Nat := 193
abbrev gimpl_SignalOf : Nat := 194
abbrev gimpl_HardenedBoxes : Nat := 195
abbrev gimpl_isHurt : Nat := 196
abbrev gslices_Sort___int_int_ : Nat := 197
abbrev gslices_Compact___int_int_ : Nat := 198
abbrev gimpl_FormatRollout : Nat := 199
abbrev gimpl_IsBounded : Nat := 200
abbrev gimpl_IsTogether : Nat := 201
abbrev gimpl_IsCounted : Nat := 202
abbrev gimpl_IsSober : Nat := 203
abbrev glaws_eqBoxS : Nat := 204
abbrev glaws_eqDeal : Nat := 205
abbrev glaws_szBox : Nat := 206
abbrev gspec_IsEndpoint : Nat := 207
abbrev gspec_AreVersions : Nat := 208
abbrev gspec_l32Tags : Nat := 209
abbrev gspec_IsValidKey : Nat := 210
abbrev gspec_AllReach : Nat := 211
abbrev gspec_l33Clip : Nat := 212
abbrev gspec_EndDial : Nat := 213
abbrev gspec_IsIn : Nat := 214
abbrev gspec_Max : Nat := 215
abbrev gspec_MayRetire : Nat := 216
abbrev gspec_l9Byte : Nat := 217
abbrev gspec_RefusesGrease : Nat := 218
abbrev gspec_MostHurt : Nat := 219
abbrev gspec_IsClearPath : Nat := 220
abbrev gspec_IsHardened : Nat := 221
abbrev gspec_LostVersions : Nat := 222
abbrev gspec_l21Left : Nat := 223
abbrev gspec_CommonOf : Nat := 224
abbrev gspec_AreCounts : Nat := 225
abbrev glaws_toBox : Nat := 226
abbrev gimpl_EndDial : Nat := 227
abbrev gimpl_IsIn : Nat := 228
abbrev gimpl_isBad : Nat := 229
abbrev gimpl_withVersion : Nat := 230
abbrev gimpl_MayRetire : Nat := 231
abbrev gimpl_AreVersions : Nat := 232
abbrev gimpl_areNumbers : Nat := 233
abbrev gimpl_AllReach : Nat := 234
abbrev gimpl_areTags : Nat := 235
abbrev gimpl_IsValidKey : Nat := 236
abbrev gimpl_IsWorld_1 : Nat := 237
abbrev gslices_ContainsFunc___impl_Endpoint_impl_Endpoint_ : Nat := 238
abbrev gimpl_IsEndpoint : Nat := 239
abbrev gimpl_LostVersions : Nat := 240
abbrev gstrings_Join : Nat := 241
abbrev gimpl_CommonOf : Nat := 242
abbrev gimpl_canHide : Nat := 243
abbrev gimpl_RefusesGrease : Nat := 244
abbrev gimpl_MostHurt : Nat := 245
abbrev gimpl_IsClearPath : Nat := 246
abbrev gimpl_IsSober_1 : Nat := 247
abbrev gslices_ContainsFunc___impl_Logged_impl_Logged_ : Nat := 248
abbrev glaws_eqBox : Nat := 249
abbrev gspec_IsReserved : Nat := 250
abbrev gspec_HelloOf : Nat := 251
abbrev gspec_Dial : Nat := 252
abbrev gspec_Min : Nat := 253
abbrev gspec_CountIn : Nat := 254
abbrev gspec_UseOf : Nat := 255
abbrev gspec_PlainHello : Nat := 256
abbrev gspec_l29One : Nat := 257
abbrev gspec_PassBox : Nat := 258
abbrev gspec_IsClear : Nat := 259
abbrev gspec_IsOpenPath : Nat := 260
abbrev gimpl_HelloOf : Nat := 261
abbrev gimpl_Dial : Nat := 262
abbrev gimpl_CountIn : Nat := 263
abbrev gslices_Insert___int_int_ : Nat := 264
abbrev gimpl_UseOf : Nat := 265
abbrev gimpl_areNumbers_1 : Nat := 266
abbrev gslices_ContainsFunc___int_int_ : Nat := 267
abbrev gimpl_AllReach_1 : Nat := 268
abbrev gslices_ContainsFunc_____int___int_ : Nat := 269
abbrev gimpl_IsHardened : Nat := 270
abbrev gimpl_IsEndpoint_1 : Nat := 271
abbrev gslices_ContainsFunc___impl_Box_impl_Box_ : Nat := 272
abbrev gimpl_PlainHello : Nat := 273
abbrev gimpl_PassPath : Nat := 274
abbrev gimpl_AreCounts : Nat := 275
abbrev gimpl_reservedTags : Nat := 276
abbrev gimpl_RefusesGrease_1 : Nat := 277
abbrev gimpl_IsClearPath_1 : Nat := 278
abbrev gimpl_IsReserved : Nat := 279
abbrev gspec_HelloFor : Nat := 280
abbrev gspec_DialOnce : Nat := 281
abbrev gspec_GivenUp : Nat := 282
abbrev gspec_AddGrease : Nat := 283
abbrev gspec_CeilDiv : Nat := 284
abbrev gspec_IsHello : Nat := 285
abbrev gspec_PassPath : Nat := 286
abbrev gimpl_HelloFor : Nat := 287
abbrev gimpl_DialOnce : Nat := 288
abbrev gimpl_GivenUp : Nat := 289
abbrev gimpl_AddGrease : Nat := 290
abbrev gimpl_CeilDiv : Nat := 291
abbrev gimpl_IsHello : Nat := 292
abbrev gimpl_copyHello : Nat := 293
abbrev gimpl_PassBox : Nat := 294
abbrev gimpl_loses : Nat := 295
abbrev gslices_Clone___int_int_ : Nat := 296
abbrev gimpl_PassBox_1 : Nat := 297
abbrev gimpl_keptExts : Nat := 298
abbrev gimpl_IsClear : Nat := 299
abbrev gspec_PassesWhole : Nat := 300
abbrev gspec_l18Hello : Nat := 301
abbrev gspec_FallbackHello : Nat := 302
abbrev gspec_ChooseAnswer : Nat := 303
abbrev gspec_FitsHello : Nat := 304
abbrev gspec_HelloBytes : Nat := 305
abbrev gspec_AnswerBytes : Nat := 306
abbrev gspec_FinishOf : Nat := 307
abbrev gspec_TagsOf : Nat := 308
abbrev gspec_ExtOf : Nat := 309
abbrev gspec_GreaseTag : Nat := 310
abbrev gspec_l11Copy : Nat := 311
abbrev gspec_AreExts : Nat := 312
abbrev gspec_PickOf : Nat := 313
abbrev gimpl_PassesWhole : Nat := 314
abbrev gimpl_FallbackHello : Nat := 315
abbrev gimpl_dealt : Nat := 316
abbrev gimpl_TagsOf : Nat := 317
abbrev gimpl_copyExts : Nat := 318
abbrev gimpl_GreaseTag : Nat := 319
abbrev gimpl_AreExts : Nat := 320
abbrev gimpl_ExtOf : Nat := 321
abbrev gimpl_PickOf : Nat := 322
abbrev gslices_Repeat___int_int_ : Nat := 323
abbrev gslices_Insert___impl_Ext_impl_Ext_ : Nat := 324
abbrev gslices_Max___int_int_ : Nat := 325
abbrev gimpl_loses_1 : Nat := 326
abbrev gslices_ContainsFunc___impl_Ext_impl_Ext_ : Nat := 327
abbrev gspec_EqualHellos : Nat := 328
abbrev gspec_LostTags : Nat := 329
abbrev gspec_PartHello : Nat := 330
abbrev gspec_KnownOf : Nat := 331
abbrev gspec_StripGrease : Nat := 332
abbrev gspec_IsAnswer : Nat := 333
abbrev gspec_IsTranscript : Nat := 334
abbrev gspec_TranscriptHash : Nat := 335
abbrev gspec_KeyedHash : Nat := 336
abbrev gspec_EncodeExts : Nat := 337
abbrev gspec_Hash : Nat := 338
abbrev gspec_Mod : Nat := 339
abbrev gimpl_EqualHellos : Nat := 340
abbrev gimpl_LostTags : Nat := 341
abbrev gimpl_PartHello : Nat := 342
abbrev gimpl_ChooseAnswer : Nat := 343
abbrev gimpl_EditAnswer : Nat := 344
abbrev gimpl_HelloBytes : Nat := 345
abbrev gimpl_AnswerBytes : Nat := 346
abbrev gimpl_FinishOf : Nat := 347
abbrev gimpl_FitsHello : Nat := 348
abbrev gimpl_ChecksOut : Nat := 349
abbrev gimpl_copyExts_1 : Nat := 350
abbrev gimpl_ExtOf_1 : Nat := 351
abbrev gslices_IndexFunc___impl_Ext_impl_Ext_ : Nat := 352
abbrev gimpl_Hash : Nat := 353
abbrev gimpl_Mod : Nat := 354
abbrev gspec_EqualInts : Nat := 355
abbrev gspec_EqualExts : Nat := 356
abbrev gslices_Equal___int_int_ : Nat := 357
abbrev gimpl_EqualExts : Nat := 358
abbrev gimpl_PartHello_1 : Nat := 359
abbrev gimpl_IsOpenPath : Nat := 360
abbrev gimpl_KnownOf : Nat := 361
abbrev gimpl_StripGrease : Nat := 362
abbrev gimpl_EditAnswer_1 : Nat := 363
abbrev gimpl_IsTranscript : Nat := 364
abbrev gimpl_TranscriptHash : Nat := 365
abbrev gimpl_KeyedHash : Nat := 366
abbrev gimpl_EncodeExts : Nat := 367
abbrev gslices_Concat___int_int_ : Nat := 368
abbrev gimpl_IsAnswer : Nat := 369
abbrev gimpl_HasGrease : Nat := 370
abbrev gimpl_equalExt : Nat := 371
abbrev gslices_EqualFunc___impl_Ext___impl_Ext_impl_Ext_impl_Ext_ : Nat := 372
abbrev gimpl_StripGrease_1 : Nat := 373
abbrev gimpl_KnownOf_1 : Nat := 374
abbrev gimpl_IsTranscript_1 : Nat := 375
abbrev glaws_FnExactEventName : Nat := 376
abbrev gimpl_EventName : Nat := 377
abbrev glaws_FnExactIsBadDial : Nat := 378
abbrev glaws_FnExactCountKind : Nat := 379
abbrev glaws_szEventS : Nat := 380
abbrev glaws_toEventS : Nat := 381
abbrev gspec_CountKind : Nat := 382
abbrev gimpl_CountKind : Nat := 383
abbrev glaws_eqEventS : Nat := 384
abbrev glaws_FnExactExampleEnds : Nat := 385
abbrev glaws_szEvent : Nat := 386
abbrev glaws_toEvent : Nat := 387
abbrev glaws_eqEvent : Nat := 388
abbrev gslices_Index___int_int_ : Nat := 389
end Go.Eng.T

namespace Go.Eng.T

abbrev I (a : Int) : V := .sc (.int .i64 a)
abbrev B (a : Bool) : V := .sc (.bool a)
abbrev S (a : ByteArray) : V := .sc (.string a)
abbrev Rel := List V → List O → V → List O → Prop

def ints (xs : List Int) : List V := xs.map fun x => .sc (.int .i64 x)

@[simp] theorem ints_len (xs : List Int) : (ints xs).length = xs.length := by simp [ints]
@[simp] theorem ints_nil : ints [] = [] := rfl
theorem ints_get (xs : List Int) (j : Nat) : (ints xs)[j]? = (xs[j]?).map fun x => V.sc (.int .i64 x) := by simp [ints]
@[simp] theorem ints_at {xs : List Int} {j : Nat} (h : j < xs.length) : (ints xs)[j]? = some (V.sc (.int .i64 xs[j])) := by simp [ints, h]
@[simp] theorem ints_elem {xs : List Int} {j : Nat} (h : j < (ints xs).length) : (ints xs)[j] = V.sc (.int .i64 (xs[j]'(by simpa using h))) := by simp [ints]
@[simp] theorem ints_ro (xs : List Int) (k : Nat) : (ints xs).map (roCell k) = ints xs := by simp [ints, Function.comp_def, roCell]
theorem ints_app (xs ys : List Int) : ints xs ++ ints ys = ints (xs ++ ys) := by simp [ints]
@[simp] theorem ints_push (xs : List Int) (y : Int) : ints xs ++ [V.sc (.int .i64 y)] = ints (xs ++ [y]) := by simp [ints]
@[simp] theorem ints_set (xs : List Int) (j : Nat) (y : Int) : (ints xs).set j (V.sc (.int .i64 y)) = ints (xs.set j y) := by simp [ints]
@[simp] theorem ints_rep (n : Nat) : (List.replicate n [V.sc (.int .i64 0)]).flatten = ints (List.replicate n 0) := by
  induction n with
  | zero => rfl
  | succ n ih => simp [List.replicate_succ, ints] at *
@[simp] theorem ints_sc (xs : List Int) : (ints xs).all isSc = true := by simp [ints, isSc]
@[simp] theorem ints_part (xs : List Int) (o n : Nat) : part (ints xs) 1 o n = ints ((xs.drop o).take n) := by simp [part, ints]
@[simp] theorem ints_isSc : ∀ xs : List Int, (∀ x, x ∈ ints xs → isSc x = true) = True := by simp [ints, isSc]

@[simp] theorem getAt_lit (a : V) (cs : List V) (off n : Nat) : getAt (a :: cs) off n = if off + n ≤ cs.length + 1 then some (((a :: cs).drop off).take n) else none := by simp [getAt]

structure Deal where
  ok : Bool
  version : Int
  tags : List Int
  deriving DecidableEq
structure Box where
  limit : Int
  drops : List Int
  strips : List Int
  lists : Bool
  deriving DecidableEq
structure Dialed where
  deal : Deal
  tries : Int
  up : List Int
  deriving DecidableEq
structure Rollout where
  version : Int
  stages : List Int
  pos : Int
  off : Bool
  deriving DecidableEq
structure Endpoint where
  versions : List Int
  tags : List Int
  path : List Box
  cls : Int
  deriving DecidableEq
structure Logged where
  fin : Int
  tick : Int
  on : Bool
  dialed : Dialed
  deriving DecidableEq
structure World where
  server : List Int
  tags : List Int
  key : Int
  ends : List Endpoint
  rollout : Rollout
  least : Int
  percent : Int
  stage : List Dialed
  log : List Logged
  now : Int
  hurt : Int
  reached : Int
  deriving DecidableEq
structure Event where
  kind : Int
  n : Int
  box : Box
  deriving DecidableEq

abbrev sl (fl e n : Nat) (cs : List V) : V := .sl fl e n cs
def eDeal (d : Deal) : List V := [.sc (.bool d.ok), .sc (.int .i64 d.version), .sl 0 1 d.tags.length (ints d.tags)]
def eBox (d : Box) : List V := [.sc (.int .i64 d.limit), .sl 0 1 d.drops.length (ints d.drops), .sl 0 1 d.strips.length (ints d.strips), .sc (.bool d.lists)]
def eDialed (d : Dialed) : List V := [.sc (.bool d.deal.ok), .sc (.int .i64 d.deal.version), .sl 0 1 d.deal.tags.length (ints d.deal.tags), .sc (.int .i64 d.tries), .sl 0 1 d.up.length (ints d.up)]
def eRollout (d : Rollout) : List V := [.sc (.int .i64 d.version), .sl 0 1 d.stages.length (ints d.stages), .sc (.int .i64 d.pos), .sc (.bool d.off)]
def eEndpoint (d : Endpoint) : List V := [.sl 0 1 d.versions.length (ints d.versions), .sl 0 1 d.tags.length (ints d.tags), .sl 0 4 d.path.length (d.path.flatMap eBox), .sc (.int .i64 d.cls)]
def eLogged (d : Logged) : List V := [.sc (.int .i64 d.fin), .sc (.int .i64 d.tick), .sc (.bool d.on), .sc (.bool d.dialed.deal.ok), .sc (.int .i64 d.dialed.deal.version), .sl 0 1 d.dialed.deal.tags.length (ints d.dialed.deal.tags), .sc (.int .i64 d.dialed.tries), .sl 0 1 d.dialed.up.length (ints d.dialed.up)]
def eWorld (d : World) : List V := [.sl 0 1 d.server.length (ints d.server), .sl 0 1 d.tags.length (ints d.tags), .sc (.int .i64 d.key), .sl 0 4 d.ends.length (d.ends.flatMap eEndpoint), .sc (.int .i64 d.rollout.version), .sl 0 1 d.rollout.stages.length (ints d.rollout.stages), .sc (.int .i64 d.rollout.pos), .sc (.bool d.rollout.off), .sc (.int .i64 d.least), .sc (.int .i64 d.percent), .sl 0 5 d.stage.length (d.stage.flatMap eDialed), .sl 0 8 d.log.length (d.log.flatMap eLogged), .sc (.int .i64 d.now), .sc (.int .i64 d.hurt), .sc (.int .i64 d.reached)]
def eEvent (d : Event) : List V := [.sc (.int .i64 d.kind), .sc (.int .i64 d.n), .sc (.int .i64 d.box.limit), .sl 0 1 d.box.drops.length (ints d.box.drops), .sl 0 1 d.box.strips.length (ints d.box.strips), .sc (.bool d.box.lists)]

/-- an argument's cells -/
abbrev arg (cs : List V) : V := .agg (cs.map (roCell 1))

section
variable {α : Type} {f : α → List V} {e : Nat}
theorem flat_ro (hf : ∀ x, (f x).map (roCell 0) = f x) (xs : List α) : (xs.flatMap f).map (roCell 0) = xs.flatMap f := by
  induction xs with
  | nil => rfl
  | cons x xs ih => simp [hf, ih]
theorem putAt_app (cs ds : List V) (o : Nat) : ∀ (as : List V), o + as.length ≤ ds.length → putAt (cs ++ ds) (cs.length + o) as = cs ++ putAt ds o as := by
  intro as
  induction as generalizing ds o with
  | nil => intro _; simp [putAt]
  | cons a as ih =>
    intro h
    simp only [putAt, List.length_cons] at *
    rw [List.set_append_right _ _ (by omega), show cs.length + o - cs.length = o by omega, show cs.length + o + 1 = cs.length + (o + 1) by omega]
    exact ih _ _ (by simp; omega)
theorem putAt_zero : ∀ (ds as : List V), as.length ≤ ds.length → putAt ds 0 as = as ++ ds.drop as.length := by
  have key : ∀ (as pre ds : List V), as.length ≤ ds.length → putAt (pre ++ ds) pre.length as = pre ++ as ++ ds.drop as.length := by
    intro as
    induction as with
    | nil => intro pre ds _; simp [putAt]
    | cons a as ih =>
      intro pre ds h
      cases ds with
      | nil => simp at h
      | cons d ds =>
        have := ih (pre ++ [a]) ds (by simpa using h)
        simp only [putAt]
        rw [List.set_append_right _ _ (Nat.le_refl _), Nat.sub_self, List.set_cons_zero]
        simpa using this
  intro ds as h
  simpa using key as [] ds h
theorem putAt_flat (hf : ∀ x, (f x).length = e) {xs : List α} {i : Nat} (hi : i < xs.length) (x : α) : putAt (xs.flatMap f) (i * e) (f x) = (xs.set i x).flatMap f := by
  induction xs generalizing i with
  | nil => simp at hi
  | cons y ys ih =>
    cases i with
    | zero =>
      rw [Nat.zero_mul, putAt_zero _ _ (by simp [hf])]
      simp [hf]
    | succ i =>
      simp only [List.flatMap_cons, List.set_cons_succ]
      rw [show (i + 1) * e = (f y).length + i * e by rw [hf, Nat.add_mul]; omega, putAt_app]
      · rw [ih (by simpa using hi)]
      · rw [flat_len hf, hf]
        have := Nat.mul_le_mul_right e (show i + 1 ≤ ys.length by simp at hi; omega)
        rw [Nat.add_mul] at this; omega
theorem rep_flat (z : α) (n : Nat) : (List.replicate n (f z)).flatten = (List.replicate n z).flatMap f := by
  induction n with
  | zero => rfl
  | succ n ih => simp [List.replicate_succ, ih]
end

/-- a copy under way -/
def mix {α : Type} (z : α) (xs : List α) (j : Nat) : List α := xs.take j ++ List.replicate (xs.length - j) z
section
variable {α : Type} {z : α} {xs : List α} {j : Nat}
@[simp] theorem mix_len (h : j ≤ xs.length) : (mix z xs j).length = xs.length := by simp [mix]; omega
theorem mix_zero : mix z xs 0 = List.replicate xs.length z := by simp [mix]
theorem mix_all (h : xs.length ≤ j) : mix z xs j = xs := by simp [mix, Nat.sub_eq_zero_of_le h, List.take_of_length_le h]
theorem mix_set (h : j < xs.length) : (mix z xs j).set j xs[j] = mix z xs (j + 1) := by
  unfold mix
  have hl : (xs.take j).length = j := by simp; omega
  rw [List.set_append_right _ _ (by omega), hl, Nat.sub_self]
  obtain ⟨k, hk⟩ : ∃ k, xs.length - j = k + 1 := ⟨xs.length - j - 1, by omega⟩
  have hk' : xs.length - (j + 1) = k := by omega
  have ht : xs.take (j + 1) = xs.take j ++ [xs[j]] := by simp
  rw [hk, hk', List.replicate_succ, List.set_cons_zero, ht, List.append_assoc]
  rfl
end

theorem wrap_id {n : Int} (h1 : -9223372036854775808 ≤ n) (h2 : n ≤ 9223372036854775807) : IntKind.i64.wrap n = n := by
  show (if (true && decide (n % (2 ^ 64 : Int) ≥ (2 ^ 63 : Int))) = true then n % (2 ^ 64 : Int) - (2 ^ 64 : Int) else n % (2 ^ 64 : Int)) = n
  by_cases h : n % (2 ^ 64 : Int) ≥ (2 ^ 63 : Int)
  · rw [if_pos (by simp only [h]; rfl)]; omega
  · rw [if_neg (by simp only [h]; simp)]; omega

section
variable {α : Type} {xs ys : List α} {j : Nat}
theorem take_step (hx : j < xs.length) (hy : j < ys.length) (h : xs.take j = ys.take j) (he : xs[j] = ys[j]) : xs.take (j + 1) = ys.take (j + 1) := by
  rw [List.take_add_one, List.take_add_one, h, List.getElem?_eq_getElem hx, List.getElem?_eq_getElem hy, he]
theorem take_all (hx : xs.length ≤ j) (hl : xs.length = ys.length) (h : xs.take j = ys.take j) : xs = ys := by
  rwa [List.take_of_length_le hx, List.take_of_length_le (by omega)] at h
end

/-- how much a value holds -/
def sumF {α : Type} (f : α → Nat) (xs : List α) : Nat := xs.length + (xs.map f).sum
def szDeal (d : Deal) : Nat := d.tags.length
def szBox (d : Box) : Nat := d.drops.length + d.strips.length
def szDialed (d : Dialed) : Nat := szDeal d.deal + d.up.length
def szRollout (d : Rollout) : Nat := d.stages.length
def szEndpoint (d : Endpoint) : Nat := d.versions.length + d.tags.length + sumF szBox d.path
def szLogged (d : Logged) : Nat := szDialed d.dialed
def szWorld (d : World) : Nat := d.server.length + d.tags.length + sumF szEndpoint d.ends + szRollout d.rollout + sumF szDialed d.stage + sumF szLogged d.log
def szEvent (d : Event) : Nat := szBox d.box
/-- what is left of l, or -1 -/
def szl (n : Nat) (l : Int) : Int := if l < n then -1 else l - n

section
variable {α : Type} {f : α → Nat} {xs : List α} {j : Nat}
theorem sum_take (h : j < xs.length) : ((xs.take (j + 1)).map f).sum = ((xs.take j).map f).sum + f xs[j] := by
  rw [List.take_add_one, List.getElem?_eq_getElem h, List.map_append, List.sum_append, Option.toList_some, List.map_cons, List.map_nil, List.sum_cons, List.sum_nil, Nat.add_zero]
theorem sum_take_le : ((xs.take j).map f).sum ≤ (xs.map f).sum := by
  conv => rhs; rw [← List.take_append_drop j xs, List.map_append, List.sum_append]
  omega
theorem sum_all (h : xs.length ≤ j) : ((xs.take j).map f).sum = (xs.map f).sum := by rw [List.take_of_length_le h]
theorem size_at (h : j < xs.length) : f xs[j] ≤ sumF f xs := by
  have h1 := sum_take (f := f) h
  have h2 := sum_take_le (f := f) (xs := xs) (j := j + 1)
  unfold sumF; omega
theorem size_len : xs.length ≤ sumF f xs := by unfold sumF; omega
end
/-- lengths that a value may have at all -/
def lnInts (xs : List Int) : Prop := xs.length ≤ maxLen
def lnS {α : Type} (f : α → Prop) (xs : List α) : Prop := xs.length ≤ maxLen ∧ ∀ (j : Nat) (h : j < xs.length), f xs[j]
def lnDeal (d : Deal) : Prop := lnInts d.tags
def lnBox (d : Box) : Prop := lnInts d.drops ∧ lnInts d.strips
def lnDialed (d : Dialed) : Prop := lnDeal d.deal ∧ lnInts d.up
def lnRollout (d : Rollout) : Prop := lnInts d.stages
def lnEndpoint (d : Endpoint) : Prop := lnInts d.versions ∧ lnInts d.tags ∧ lnS lnBox d.path
def lnLogged (d : Logged) : Prop := lnDialed d.dialed
def lnWorld (d : World) : Prop := lnInts d.server ∧ lnInts d.tags ∧ lnS lnEndpoint d.ends ∧ lnRollout d.rollout ∧ lnS lnDialed d.stage ∧ lnS lnLogged d.log
def lnEvent (d : Event) : Prop := lnBox d.box

theorem eDeal_len (x : Deal) : (eDeal x).length = 3 := rfl
theorem eBox_len (x : Box) : (eBox x).length = 4 := rfl
theorem eDialed_len (x : Dialed) : (eDialed x).length = 5 := rfl
theorem eRollout_len (x : Rollout) : (eRollout x).length = 4 := rfl
theorem eEndpoint_len (x : Endpoint) : (eEndpoint x).length = 4 := rfl
theorem eLogged_len (x : Logged) : (eLogged x).length = 8 := rfl
theorem eWorld_len (x : World) : (eWorld x).length = 15 := rfl
theorem eEvent_len (x : Event) : (eEvent x).length = 6 := rfl
@[simp] theorem eBox_ro (xs : List Box) : (xs.flatMap eBox).map (roCell 0) = xs.flatMap eBox := flat_ro (fun _ => rfl) xs
@[simp] theorem eDialed_ro (xs : List Dialed) : (xs.flatMap eDialed).map (roCell 0) = xs.flatMap eDialed := flat_ro (fun _ => rfl) xs
@[simp] theorem eEndpoint_ro (xs : List Endpoint) : (xs.flatMap eEndpoint).map (roCell 0) = xs.flatMap eEndpoint := flat_ro (fun _ => rfl) xs
@[simp] theorem eLogged_ro (xs : List Logged) : (xs.flatMap eLogged).map (roCell 0) = xs.flatMap eLogged := flat_ro (fun _ => rfl) xs
@[simp] theorem eEvent_ro (xs : List Event) : (xs.flatMap eEvent).map (roCell 0) = xs.flatMap eEvent := flat_ro (fun _ => rfl) xs
@[simp high] theorem eBox_at {xs : List Box} {j : Nat} (h : j < xs.length) : getAt (xs.flatMap eBox) (j * 4) 4 = some (eBox xs[j]) := getAt_flat eBox_len h
@[simp high] theorem eDialed_at {xs : List Dialed} {j : Nat} (h : j < xs.length) : getAt (xs.flatMap eDialed) (j * 5) 5 = some (eDialed xs[j]) := getAt_flat eDialed_len h
@[simp high] theorem eEndpoint_at {xs : List Endpoint} {j : Nat} (h : j < xs.length) : getAt (xs.flatMap eEndpoint) (j * 4) 4 = some (eEndpoint xs[j]) := getAt_flat eEndpoint_len h
@[simp high] theorem eLogged_at {xs : List Logged} {j : Nat} (h : j < xs.length) : getAt (xs.flatMap eLogged) (j * 8) 8 = some (eLogged xs[j]) := getAt_flat eLogged_len h
@[simp high] theorem eEvent_at {xs : List Event} {j : Nat} (h : j < xs.length) : getAt (xs.flatMap eEvent) (j * 6) 6 = some (eEvent xs[j]) := getAt_flat eEvent_len h
@[simp high] theorem eBox_flen (xs : List Box) : (xs.flatMap eBox).length = xs.length * 4 := flat_len eBox_len xs
@[simp high] theorem eBox_put {xs : List Box} {j : Nat} (h : j < xs.length) (a : Int) (b c : List Int) (d : Bool) : putAt (xs.flatMap eBox) (j * 4) [.sc (.int .i64 a), .sl 0 1 b.length (ints b), .sl 0 1 c.length (ints c), .sc (.bool d)] = (xs.set j ⟨a, b, c, d⟩).flatMap eBox := putAt_flat eBox_len h ⟨a, b, c, d⟩
@[simp] theorem eBox_push (xs : List Box) (a : Int) (b c : List Int) (d : Bool) : xs.flatMap eBox ++ [.sc (.int .i64 a), .sl 0 1 b.length (ints b), .sl 0 1 c.length (ints c), .sc (.bool d)] = (xs ++ [(⟨a, b, c, d⟩ : Box)]).flatMap eBox := by simp [eBox]
@[simp high] theorem eDialed_flen (xs : List Dialed) : (xs.flatMap eDialed).length = xs.length * 5 := flat_len eDialed_len xs
@[simp high] theorem eDialed_put {xs : List Dialed} {j : Nat} (h : j < xs.length) (a : Bool) (b : Int) (c : List Int) (d : Int) (u : List Int) : putAt (xs.flatMap eDialed) (j * 5) [.sc (.bool a), .sc (.int .i64 b), .sl 0 1 c.length (ints c), .sc (.int .i64 d), .sl 0 1 u.length (ints u)] = (xs.set j ⟨⟨a, b, c⟩, d, u⟩).flatMap eDialed := putAt_flat eDialed_len h ⟨⟨a, b, c⟩, d, u⟩
@[simp] theorem eDialed_push (xs : List Dialed) (a : Bool) (b : Int) (c : List Int) (d : Int) (u : List Int) : xs.flatMap eDialed ++ [.sc (.bool a), .sc (.int .i64 b), .sl 0 1 c.length (ints c), .sc (.int .i64 d), .sl 0 1 u.length (ints u)] = (xs ++ [(⟨⟨a, b, c⟩, d, u⟩ : Dialed)]).flatMap eDialed := by simp [eDialed]
@[simp high] theorem eEndpoint_flen (xs : List Endpoint) : (xs.flatMap eEndpoint).length = xs.length * 4 := flat_len eEndpoint_len xs
@[simp high] theorem eEndpoint_put {xs : List Endpoint} {j : Nat} (h : j < xs.length) (a b : List Int) (c : List Box) (d : Int) : putAt (xs.flatMap eEndpoint) (j * 4) [.sl 0 1 a.length (ints a), .sl 0 1 b.length (ints b), .sl 0 4 c.length (c.flatMap eBox), .sc (.int .i64 d)] = (xs.set j ⟨a, b, c, d⟩).flatMap eEndpoint := putAt_flat eEndpoint_len h ⟨a, b, c, d⟩
@[simp] theorem eEndpoint_push (xs : List Endpoint) (a b : List Int) (c : List Box) (d : Int) : xs.flatMap eEndpoint ++ [.sl 0 1 a.length (ints a), .sl 0 1 b.length (ints b), .sl 0 4 c.length (c.flatMap eBox), .sc (.int .i64 d)] = (xs ++ [(⟨a, b, c, d⟩ : Endpoint)]).flatMap eEndpoint := by simp [eEndpoint]
@[simp high] theorem eLogged_flen (xs : List Logged) : (xs.flatMap eLogged).length = xs.length * 8 := flat_len eLogged_len xs
@[simp high] theorem eLogged_put {xs : List Logged} {j : Nat} (h : j < xs.length) (m n : Int) (o a : Bool) (b : Int) (c : List Int) (d : Int) (u : List Int) : putAt (xs.flatMap eLogged) (j * 8) [.sc (.int .i64 m), .sc (.int .i64 n), .sc (.bool o), .sc (.bool a), .sc (.int .i64 b), .sl 0 1 c.length (ints c), .sc (.int .i64 d), .sl 0 1 u.length (ints u)] = (xs.set j ⟨m, n, o, ⟨⟨a, b, c⟩, d, u⟩⟩).flatMap eLogged := putAt_flat eLogged_len h ⟨m, n, o, ⟨⟨a, b, c⟩, d, u⟩⟩
@[simp] theorem eLogged_push (xs : List Logged) (m n : Int) (o a : Bool) (b : Int) (c : List Int) (d : Int) (u : List Int) : xs.flatMap eLogged ++ [.sc (.int .i64 m), .sc (.int .i64 n), .sc (.bool o), .sc (.bool a), .sc (.int .i64 b), .sl 0 1 c.length (ints c), .sc (.int .i64 d), .sl 0 1 u.length (ints u)] = (xs ++ [(⟨m, n, o, ⟨⟨a, b, c⟩, d, u⟩⟩ : Logged)]).flatMap eLogged := by simp [eLogged]
@[simp high] theorem eEvent_flen (xs : List Event) : (xs.flatMap eEvent).length = xs.length * 6 := flat_len eEvent_len xs
@[simp high] theorem eEvent_put {xs : List Event} {j : Nat} (h : j < xs.length) (m n : Int) (a : Int) (b c : List Int) (d : Bool) : putAt (xs.flatMap eEvent) (j * 6) [.sc (.int .i64 m), .sc (.int .i64 n), .sc (.int .i64 a), .sl 0 1 b.length (ints b), .sl 0 1 c.length (ints c), .sc (.bool d)] = (xs.set j ⟨m, n, ⟨a, b, c, d⟩⟩).flatMap eEvent := putAt_flat eEvent_len h ⟨m, n, ⟨a, b, c, d⟩⟩
@[simp] theorem eEvent_push (xs : List Event) (m n : Int) (a : Int) (b c : List Int) (d : Bool) : xs.flatMap eEvent ++ [.sc (.int .i64 m), .sc (.int .i64 n), .sc (.int .i64 a), .sl 0 1 b.length (ints b), .sl 0 1 c.length (ints c), .sc (.bool d)] = (xs ++ [(⟨m, n, ⟨a, b, c, d⟩⟩ : Event)]).flatMap eEvent := by simp [eEvent]

@[simp high] theorem eBox_c0 {xs : List Box} {j : Nat} (h : j < xs.length) : (xs.flatMap eBox)[j * 4]? = some (.sc (.int .i64 xs[j].limit)) := by
  have := getCell_flat (o := 0) eBox_len h (by omega)
  simpa [eBox] using this
@[simp high] theorem eBox_c1 {xs : List Box} {j : Nat} (h : j < xs.length) : (xs.flatMap eBox)[j * 4 + 1]? = some (.sl 0 1 xs[j].drops.length (ints xs[j].drops)) := by
  have := getCell_flat (o := 1) eBox_len h (by omega)
  simpa [eBox] using this
@[simp high] theorem eBox_c2 {xs : List Box} {j : Nat} (h : j < xs.length) : (xs.flatMap eBox)[j * 4 + 2]? = some (.sl 0 1 xs[j].strips.length (ints xs[j].strips)) := by
  have := getCell_flat (o := 2) eBox_len h (by omega)
  simpa [eBox] using this
@[simp high] theorem eBox_c3 {xs : List Box} {j : Nat} (h : j < xs.length) : (xs.flatMap eBox)[j * 4 + 3]? = some (.sc (.bool xs[j].lists)) := by
  have := getCell_flat (o := 3) eBox_len h (by omega)
  simpa [eBox] using this
@[simp high] theorem eDialed_c0 {xs : List Dialed} {j : Nat} (h : j < xs.length) : (xs.flatMap eDialed)[j * 5]? = some (.sc (.bool xs[j].deal.ok)) := by
  have := getCell_flat (o := 0) eDialed_len h (by omega)
  simpa [eDialed] using this
@[simp high] theorem eDialed_c1 {xs : List Dialed} {j : Nat} (h : j < xs.length) : (xs.flatMap eDialed)[j * 5 + 1]? = some (.sc (.int .i64 xs[j].deal.version)) := by
  have := getCell_flat (o := 1) eDialed_len h (by omega)
  simpa [eDialed] using this
@[simp high] theorem eDialed_c2 {xs : List Dialed} {j : Nat} (h : j < xs.length) : (xs.flatMap eDialed)[j * 5 + 2]? = some (.sl 0 1 xs[j].deal.tags.length (ints xs[j].deal.tags)) := by
  have := getCell_flat (o := 2) eDialed_len h (by omega)
  simpa [eDialed] using this
@[simp high] theorem eDialed_c3 {xs : List Dialed} {j : Nat} (h : j < xs.length) : (xs.flatMap eDialed)[j * 5 + 3]? = some (.sc (.int .i64 xs[j].tries)) := by
  have := getCell_flat (o := 3) eDialed_len h (by omega)
  simpa [eDialed] using this
@[simp high] theorem eDialed_c4 {xs : List Dialed} {j : Nat} (h : j < xs.length) : (xs.flatMap eDialed)[j * 5 + 4]? = some (.sl 0 1 xs[j].up.length (ints xs[j].up)) := by
  have := getCell_flat (o := 4) eDialed_len h (by omega)
  simpa [eDialed] using this
@[simp high] theorem eEndpoint_c0 {xs : List Endpoint} {j : Nat} (h : j < xs.length) : (xs.flatMap eEndpoint)[j * 4]? = some (.sl 0 1 xs[j].versions.length (ints xs[j].versions)) := by
  have := getCell_flat (o := 0) eEndpoint_len h (by omega)
  simpa [eEndpoint] using this
@[simp high] theorem eEndpoint_c1 {xs : List Endpoint} {j : Nat} (h : j < xs.length) : (xs.flatMap eEndpoint)[j * 4 + 1]? = some (.sl 0 1 xs[j].tags.length (ints xs[j].tags)) := by
  have := getCell_flat (o := 1) eEndpoint_len h (by omega)
  simpa [eEndpoint] using this
@[simp high] theorem eEndpoint_c2 {xs : List Endpoint} {j : Nat} (h : j < xs.length) : (xs.flatMap eEndpoint)[j * 4 + 2]? = some (.sl 0 4 xs[j].path.length (xs[j].path.flatMap eBox)) := by
  have := getCell_flat (o := 2) eEndpoint_len h (by omega)
  simpa [eEndpoint] using this
@[simp high] theorem eEndpoint_c3 {xs : List Endpoint} {j : Nat} (h : j < xs.length) : (xs.flatMap eEndpoint)[j * 4 + 3]? = some (.sc (.int .i64 xs[j].cls)) := by
  have := getCell_flat (o := 3) eEndpoint_len h (by omega)
  simpa [eEndpoint] using this
@[simp high] theorem eLogged_c0 {xs : List Logged} {j : Nat} (h : j < xs.length) : (xs.flatMap eLogged)[j * 8]? = some (.sc (.int .i64 xs[j].fin)) := by
  have := getCell_flat (o := 0) eLogged_len h (by omega)
  simpa [eLogged] using this
@[simp high] theorem eLogged_c1 {xs : List Logged} {j : Nat} (h : j < xs.length) : (xs.flatMap eLogged)[j * 8 + 1]? = some (.sc (.int .i64 xs[j].tick)) := by
  have := getCell_flat (o := 1) eLogged_len h (by omega)
  simpa [eLogged] using this
@[simp high] theorem eLogged_c2 {xs : List Logged} {j : Nat} (h : j < xs.length) : (xs.flatMap eLogged)[j * 8 + 2]? = some (.sc (.bool xs[j].on)) := by
  have := getCell_flat (o := 2) eLogged_len h (by omega)
  simpa [eLogged] using this
@[simp high] theorem eLogged_c3 {xs : List Logged} {j : Nat} (h : j < xs.length) : (xs.flatMap eLogged)[j * 8 + 3]? = some (.sc (.bool xs[j].dialed.deal.ok)) := by
  have := getCell_flat (o := 3) eLogged_len h (by omega)
  simpa [eLogged] using this
@[simp high] theorem eLogged_c4 {xs : List Logged} {j : Nat} (h : j < xs.length) : (xs.flatMap eLogged)[j * 8 + 4]? = some (.sc (.int .i64 xs[j].dialed.deal.version)) := by
  have := getCell_flat (o := 4) eLogged_len h (by omega)
  simpa [eLogged] using this
@[simp high] theorem eLogged_c5 {xs : List Logged} {j : Nat} (h : j < xs.length) : (xs.flatMap eLogged)[j * 8 + 5]? = some (.sl 0 1 xs[j].dialed.deal.tags.length (ints xs[j].dialed.deal.tags)) := by
  have := getCell_flat (o := 5) eLogged_len h (by omega)
  simpa [eLogged] using this
@[simp high] theorem eLogged_c6 {xs : List Logged} {j : Nat} (h : j < xs.length) : (xs.flatMap eLogged)[j * 8 + 6]? = some (.sc (.int .i64 xs[j].dialed.tries)) := by
  have := getCell_flat (o := 6) eLogged_len h (by omega)
  simpa [eLogged] using this
@[simp high] theorem eLogged_c7 {xs : List Logged} {j : Nat} (h : j < xs.length) : (xs.flatMap eLogged)[j * 8 + 7]? = some (.sl 0 1 xs[j].dialed.up.length (ints xs[j].dialed.up)) := by
  have := getCell_flat (o := 7) eLogged_len h (by omega)
  simpa [eLogged] using this
@[simp high] theorem eEvent_c0 {xs : List Event} {j : Nat} (h : j < xs.length) : (xs.flatMap eEvent)[j * 6]? = some (.sc (.int .i64 xs[j].kind)) := by
  have := getCell_flat (o := 0) eEvent_len h (by omega)
  simpa [eEvent] using this
@[simp high] theorem eEvent_c1 {xs : List Event} {j : Nat} (h : j < xs.length) : (xs.flatMap eEvent)[j * 6 + 1]? = some (.sc (.int .i64 xs[j].n)) := by
  have := getCell_flat (o := 1) eEvent_len h (by omega)
  simpa [eEvent] using this
@[simp high] theorem eEvent_c2 {xs : List Event} {j : Nat} (h : j < xs.length) : (xs.flatMap eEvent)[j * 6 + 2]? = some (.sc (.int .i64 xs[j].box.limit)) := by
  have := getCell_flat (o := 2) eEvent_len h (by omega)
  simpa [eEvent] using this
@[simp high] theorem eEvent_c3 {xs : List Event} {j : Nat} (h : j < xs.length) : (xs.flatMap eEvent)[j * 6 + 3]? = some (.sl 0 1 xs[j].box.drops.length (ints xs[j].box.drops)) := by
  have := getCell_flat (o := 3) eEvent_len h (by omega)
  simpa [eEvent] using this
@[simp high] theorem eEvent_c4 {xs : List Event} {j : Nat} (h : j < xs.length) : (xs.flatMap eEvent)[j * 6 + 4]? = some (.sl 0 1 xs[j].box.strips.length (ints xs[j].box.strips)) := by
  have := getCell_flat (o := 4) eEvent_len h (by omega)
  simpa [eEvent] using this
@[simp high] theorem eEvent_c5 {xs : List Event} {j : Nat} (h : j < xs.length) : (xs.flatMap eEvent)[j * 6 + 5]? = some (.sc (.bool xs[j].box.lists)) := by
  have := getCell_flat (o := 5) eEvent_len h (by omega)
  simpa [eEvent] using this

attribute [simp] Nat.add_one_le_iff eDeal eBox eDialed eRollout eEndpoint eLogged eWorld eEvent
end Go.Eng.T

namespace Go.Eng.T


abbrev InS (R : Rel) : Prop := ∀ a b c : Int, R [I a, I b, I c] [] (B (decide (b ≤ a ∧ a ≤ c))) []
def evNames : List (List UInt8) := [[], [100, 105, 97, 108], [115, 116, 97, 114, 116], [115, 116, 97, 103, 101], [114, 101, 116, 105, 114, 101], [114, 101, 118, 105, 118, 101], [98, 111, 120], [99, 108, 101, 97, 114], [116, 105, 99, 107]]
def evName (k : Int) : ByteArray := if 1 ≤ k ∧ k ≤ 8 then ⟨(evNames.getD k.toNat []).toArray⟩ else ⟨#[]⟩
theorem evCases {k : Int} (h : 1 ≤ k ∧ k ≤ 8) : k = 1 ∨ k = 2 ∨ k = 3 ∨ k = 4 ∨ k = 5 ∨ k = 6 ∨ k = 7 ∨ k = 8 := by omega
abbrev EventNameS (R : Rel) : Prop := ∀ k : Int, R [I k] [] (S (evName k)) []

abbrev FnExactEventNameS (R : Rel) : Prop := ∀ k : Int, R [I k] [] (B true) []
end Go.Eng.T

namespace Go.Eng.T

abbrev szIntSS (R : Rel) : Prop := ∀ (xs : List Int) (l : Int), 0 ≤ l → l ≤ 1048576 → lnInts xs → R [.sl 1 1 xs.length (ints xs), I l] [] (I (szl xs.length l)) []
theorem szIntS_b (D : Dn) : szIntSS (Body D slaws_szIntS) := by
  intro xs l h1 h2 h3
  have hw : IntKind.i64.wrap (l - (xs.length : Int)) = l - xs.length := by unfold lnInts maxLen at h3; exact wrap_id (by omega) (by omega)
  by_cases h : l < xs.length
  · have h' : l - (xs.length : Int) < 0 := by omega
    simp -implicitDefEqProofs [hw, h, h', szl]
  · have h' : ¬ l - (xs.length : Int) < 0 := by omega
    simp -implicitDefEqProofs [hw, h, h', szl]

abbrev toIntSS (R : Rel) : Prop := ∀ (xs : List Int), xs.length * 8 ≤ 2 ^ 40 → R [.sl 1 1 xs.length (ints xs)] [] (.sl 0 1 xs.length (ints xs)) []
theorem toIntS_b (D : Dn) : toIntSS (Body D slaws_toIntS) := by
  intro xs hl
  have h1 : ((xs.length : Nat) : Int) * 8 ≤ 1099511627776 := by omega
  simp -implicitDefEqProofs [h1]
  refine swp_loop (fun k s => ∃ j, j + k = xs.length ∧ s = ⟨[.sl 1 1 xs.length (ints xs), .undef, .arr 0, .sc (.int .i64 j), .undef], [.arr 1 0 xs.length (ints (mix 0 xs j))]⟩) ?_ xs.length _ ⟨0, by simp, by simp [mix_zero, ints]⟩
  intro k s ⟨j, hj, hs⟩
  subst hs
  by_cases hjn : j < xs.length
  · have hw : IntKind.i64.wrap ((j : Int) + 1) = (j + 1 : Nat) := by rw [wrap_id (by omega) (by omega)]; simp
    simp -implicitDefEqProofs [hjn, Nat.le_of_lt hjn, mix_set]
    exact ⟨k - 1, by omega, j + 1, by omega, by simp [hw], rfl⟩
  · have hje : mix 0 xs j = xs := mix_all (by omega)
    simp -implicitDefEqProofs [hjn, hje]

abbrev eqIntSS (R : Rel) : Prop := ∀ (xs ys : List Int), xs.length ≤ maxLen → ys.length ≤ maxLen → R [.sl 1 1 xs.length (ints xs), .sl 1 1 ys.length (ints ys)] [] (B (decide (xs = ys))) []
theorem eqIntS_b (D : Dn) : eqIntSS (Body D slaws_eqIntS) := by
  intro xs ys h1 h2
  unfold maxLen at h1 h2
  by_cases hl : xs.length = ys.length
  · have hl' : (xs.length : Int) = ys.length := by omega
    simp -implicitDefEqProofs [hl']
    refine swp_loop (fun k s => ∃ j, j + k = xs.length ∧ xs.take j = ys.take j ∧ s = ⟨[.sl 1 1 xs.length (ints xs), .sl 1 1 ys.length (ints ys), .undef, .sc (.int .i64 j), .undef, .undef, .undef], []⟩) ?_ xs.length _ ⟨0, by simp, by simp, by simp⟩
    intro k s ⟨j, hj, hp, hs⟩
    subst hs
    by_cases hjn : j < xs.length
    · have hw : IntKind.i64.wrap ((j : Int) + 1) = (j + 1 : Nat) := by rw [wrap_id (by omega) (by omega)]; simp
      have hy : j < ys.length := by omega
      by_cases he : xs[j] = ys[j]
      · simp -implicitDefEqProofs [hjn, hy, he]
        exact ⟨k - 1, by omega, j + 1, by omega, take_step hjn hy hp he, by simp [hw]⟩
      · have hne : xs ≠ ys := fun h => he (by simp [h])
        simp -implicitDefEqProofs [hjn, hy, he, hne]
    · obtain rfl : xs = ys := take_all (by omega) hl hp
      simp -implicitDefEqProofs [hjn]
  · have hl' : ¬ (xs.length : Int) = ys.length := by omega
    have : xs ≠ ys := fun h => hl (by rw [h])
    simp -implicitDefEqProofs [hl', this]
end Go.Eng.T

namespace Go.Eng.T

theorem not_mem_step {xs : List Int} {v : Int} {j : Nat} (h : j < xs.length) (hp : v ∉ xs.take j) (hv : ¬ xs[j] = v) : v ∉ xs.take (j + 1) := by
  rw [List.take_add_one, List.getElem?_eq_getElem h]
  intro hm
  rcases List.mem_append.1 hm with hm | hm
  · exact hp hm
  · simp at hm; exact hv hm.symm
theorem not_mem_all {xs : List Int} {v : Int} {j : Nat} (h : xs.length ≤ j) (hp : v ∉ xs.take j) : v ∉ xs := by rwa [List.take_of_length_le h] at hp
theorem mem_here {xs : List Int} {v : Int} {j : Nat} (h : j < xs.length) (hv : xs[j] = v) : v ∈ xs := by rw [← hv]; exact List.getElem_mem h

/-- where v stands first, or -1 -/
def idxI (xs : List Int) (v : Int) : Int := if v ∈ xs then (xs.idxOf v : Nat) else -1
theorem idxI_hit {xs : List Int} {v : Int} {j : Nat} (h : j < xs.length) (hp : v ∉ xs.take j) (hv : xs[j] = v) : idxI xs v = j := by
  unfold idxI
  rw [if_pos (mem_here h hv)]
  congr 1
  have e : xs = xs.take j ++ v :: xs.drop (j + 1) := by
    conv => lhs; rw [← List.take_append_drop j xs, List.drop_eq_getElem_cons h, hv]
  rw [e, List.idxOf_append, if_neg hp]
  simp
  omega
theorem idxI_ge {xs : List Int} {v : Int} : (0 ≤ idxI xs v) = (v ∈ xs) := by
  unfold idxI
  by_cases h : v ∈ xs <;> simp [h]

abbrev IndexS (R : Rel) : Prop := ∀ (xs : List Int) (v : Int), xs.length ≤ maxLen → R [.sl 1 1 xs.length (ints xs), I v] [] (I (idxI xs v)) []
theorem Index_b (D : Dn) : IndexS (Body D sslices_Index___int_int_) := by
  intro xs v hl
  unfold maxLen at hl
  simp -implicitDefEqProofs
  refine swp_loop (fun k s => ∃ j, j + k = xs.length ∧ v ∉ xs.take j ∧ s = ⟨[.sl 1 1 xs.length (ints xs), .sc (.int .i64 v), .undef, .undef, .sc (.int .i64 xs.length), .sc (.int .i64 j), .undef, .undef], []⟩) ?_ xs.length _ ⟨0, by simp, by simp, by simp⟩
  intro k s ⟨j, hj, hp, hs⟩
  subst hs
  by_cases hjn : j < xs.length
  · have hw : IntKind.i64.wrap ((j : Int) + 1) = (j + 1 : Nat) := by rw [wrap_id (by omega) (by omega)]; simp
    by_cases he : v = xs[j]
    · have hx := idxI_hit hjn hp he.symm
      simp -implicitDefEqProofs [hjn, ← he, hx]
    · simp -implicitDefEqProofs [hjn, he]
      exact ⟨k - 1, by omega, j + 1, by omega, not_mem_step hjn hp (fun h => he h.symm), by simp [hw]⟩
  · have hx : idxI xs v = -1 := by unfold idxI; rw [if_neg (not_mem_all (by omega) hp)]
    simp -implicitDefEqProofs [hjn, hx]

abbrev HasS (R : Rel) : Prop := ∀ (xs : List Int) (v : Int), xs.length ≤ maxLen → R [.sl 1 1 xs.length (ints xs), I v] [] (B (decide (v ∈ xs))) []
theorem Contains_b (D : Dn) (hI : IndexS (D 389)) : HasS (Body D sslices_Contains___int_int_) := by
  intro xs v hl
  simp -implicitDefEqProofs
  refine callQ_of (hI xs v hl) ?_
  simp -implicitDefEqProofs [idxI_ge]
theorem l9Has_b (D : Dn) : HasS (Body D sspec_l9Has) := by
  intro xs v hl
  unfold maxLen at hl
  simp -implicitDefEqProofs
  refine swp_loop (fun k s => ∃ j, j + k = xs.length ∧ v ∉ xs.take j ∧ s = ⟨[.sl 1 1 xs.length (ints xs), .sc (.int .i64 v), .undef, .sc (.int .i64 j), .undef, .undef], []⟩) ?_ xs.length _ ⟨0, by simp, by simp, by simp⟩
  intro k s ⟨j, hj, hp, hs⟩
  subst hs
  by_cases hjn : j < xs.length
  · have hw : IntKind.i64.wrap ((j : Int) + 1) = (j + 1 : Nat) := by rw [wrap_id (by omega) (by omega)]; simp
    by_cases he : xs[j] = v
    · have hx := mem_here hjn he
      simp -implicitDefEqProofs [hjn, he, hx]
    · simp -implicitDefEqProofs [hjn, he]
      exact ⟨k - 1, by omega, j + 1, by omega, not_mem_step hjn hp he, by simp [hw]⟩
  · have hx := not_mem_all (by omega) hp
    simp -implicitDefEqProofs [hjn, hx]

/-- a dial that says that the version did not come through -/
def badD (v : Int) (d : Dialed) : Bool := !d.deal.ok || (decide (d.deal.version < v) && decide (v ∈ d.up))
def goodD (v : Int) (d : Dialed) : Bool := !badD v d && decide (v ≤ d.deal.version)
def cntF {α : Type} (f : α → Bool) (xs : List α) : Nat := (xs.filter f).length
theorem cnt_step {α : Type} {f : α → Bool} {xs : List α} {j : Nat} (h : j < xs.length) : cntF f (xs.take (j + 1)) = cntF f (xs.take j) + (if f xs[j] then 1 else 0) := by
  unfold cntF
  rw [List.take_add_one, List.getElem?_eq_getElem h, List.filter_append, List.length_append]
  congr 1
  by_cases hf : f xs[j] <;> simp [hf]
theorem cnt_le {α : Type} {f : α → Bool} {xs : List α} {j : Nat} (h : j ≤ xs.length) : cntF f (xs.take j) ≤ j := by
  unfold cntF
  have := List.length_filter_le f (xs.take j)
  simp at this
  omega
theorem cnt_all {α : Type} {f : α → Bool} {xs : List α} {j : Nat} (h : xs.length ≤ j) : cntF f (xs.take j) = cntF f xs := by rw [List.take_of_length_le h]

abbrev CountKindS (R : Rel) : Prop := ∀ (xs : List Event) (v : Int), xs.length ≤ maxLen → R [.sl 1 6 xs.length (xs.flatMap eEvent), I v] [] (I (cntF (fun e => decide (e.kind = v)) xs)) []
end Go.Eng.T

namespace Go.Eng.T
abbrev szDealS (R : Rel) : Prop := ∀ (x : Deal) (l : Int), 0 ≤ l → l ≤ 1048576 → lnDeal x → R [arg (eDeal x), I l] [] (I (szl (szDeal x) l)) []
theorem szDeal_b (D : Dn) (hszIntS : szIntSS (D 16)) : szDealS (Body D slaws_szDeal) := by
  intro x l hl1 hl2 hln
  simp only [lnDeal] at hln
  simp -implicitDefEqProofs
  refine callQ_of (hszIntS x.tags (l) (by omega) (by omega) hln) ?_
  by_cases g0 : l < ((x.tags.length : Nat) : Int)
  · have gg : l < ((szDeal x : Nat) : Int) := by simp only [szDeal]; omega
    have e1 : szl (x.tags.length) (l) = -1 := by unfold szl; rw [if_pos g0]
    have e2 : szl (szDeal x) l = -1 := by unfold szl; rw [if_pos gg]
    simp -implicitDefEqProofs [e1, e2]
  have e3 : szl (x.tags.length) (l) = l - ((x.tags.length : Nat) : Int) := by unfold szl; rw [if_neg g0]
  have p0 : ¬ l - ((x.tags.length : Nat) : Int) < 0 := by omega
  simp -implicitDefEqProofs [e3, p0]
  have gg : ¬ l < ((szDeal x : Nat) : Int) := by simp only [szDeal]; omega
  unfold szl; rw [if_neg gg]; simp only [szDeal] <;> omega
abbrev toDealS (R : Rel) : Prop := ∀ x : Deal, szDeal x ≤ 1048576 → R [arg (eDeal x)] [] (.agg (eDeal x)) []
theorem toDeal_b (D : Dn) (htoIntS : toIntSS (D 31)) : toDealS (Body D slaws_toDeal) := by
  intro x h
  simp only [szDeal] at h
  simp -implicitDefEqProofs
  refine callQ_of (htoIntS x.tags (by omega)) ?_
  simp -implicitDefEqProofs
abbrev eqDealS (R : Rel) : Prop := ∀ x y : Deal, szDeal x ≤ 2 ^ 40 → szDeal y ≤ 2 ^ 40 → R [arg (eDeal x), arg (eDeal y)] [] (B (decide (x = y))) []
theorem eqDeal_b (D : Dn) (heqIntS : eqIntSS (D 47)) : eqDealS (Body D slaws_eqDeal) := by
  intro x y h1 h2
  simp only [szDeal] at h1 h2
  by_cases g_ok : x.ok = y.ok
  rotate_left
  · have hne : x ≠ y := fun h => g_ok (by rw [h])
    simp -implicitDefEqProofs [g_ok, hne]
  simp -implicitDefEqProofs [g_ok]
  by_cases g_version : x.version = y.version
  rotate_left
  · have hne : x ≠ y := fun h => g_version (by rw [h])
    simp -implicitDefEqProofs [g_version, hne]
  simp -implicitDefEqProofs [g_version]
  refine callQ_of (heqIntS x.tags y.tags (by unfold maxLen; omega) (by unfold maxLen; omega)) ?_
  by_cases g_tags : x.tags = y.tags
  rotate_left
  · have hne : x ≠ y := fun h => g_tags (by rw [h])
    simp -implicitDefEqProofs [g_tags, hne]
  simp -implicitDefEqProofs [g_tags]
  have hxy : x = y := by cases x; cases y; simp_all
  simp -implicitDefEqProofs [hxy]
abbrev szDialedS (R : Rel) : Prop := ∀ (x : Dialed) (l : Int), 0 ≤ l → l ≤ 1048576 → lnDialed x → R [arg (eDialed x), I l] [] (I (szl (szDialed x) l)) []
theorem szDialed_b (D : Dn) (hszDeal : szDealS (D 140)) (hszIntS : szIntSS (D 16)) : szDialedS (Body D slaws_szDialed) := by
  intro x l hl1 hl2 hln
  simp only [lnDialed] at hln
  simp -implicitDefEqProofs
  refine callQ_of (hszDeal x.deal (l) (by omega) (by omega) hln.1) ?_
  by_cases g0 : l < ((szDeal x.deal : Nat) : Int)
  · have gg : l < ((szDialed x : Nat) : Int) := by simp only [szDialed]; omega
    have e1 : szl (szDeal x.deal) (l) = -1 := by unfold szl; rw [if_pos g0]
    have e2 : szl (szDialed x) l = -1 := by unfold szl; rw [if_pos gg]
    simp -implicitDefEqProofs [e1, e2]
  have e3 : szl (szDeal x.deal) (l) = l - ((szDeal x.deal : Nat) : Int) := by unfold szl; rw [if_neg g0]
  have p0 : ¬ l - ((szDeal x.deal : Nat) : Int) < 0 := by omega
  simp -implicitDefEqProofs [e3, p0]
  refine callQ_of (hszIntS x.up (l - ((szDeal x.deal : Nat) : Int)) (by omega) (by omega) hln.2) ?_
  by_cases g1 : l - ((szDeal x.deal : Nat) : Int) < ((x.up.length : Nat) : Int)
  · have gg : l < ((szDialed x : Nat) : Int) := by simp only [szDialed]; omega
    have e1 : szl (x.up.length) (l - ((szDeal x.deal : Nat) : Int)) = -1 := by unfold szl; rw [if_pos g1]
    have e2 : szl (szDialed x) l = -1 := by unfold szl; rw [if_pos gg]
    simp -implicitDefEqProofs [e1, e2]
  have e4 : szl (x.up.length) (l - ((szDeal x.deal : Nat) : Int)) = l - ((szDeal x.deal : Nat) : Int) - ((x.up.length : Nat) : Int) := by unfold szl; rw [if_neg g1]
  have p1 : ¬ l - ((szDeal x.deal : Nat) : Int) - ((x.up.length : Nat) : Int) < 0 := by omega
  simp -implicitDefEqProofs [e4, p1]
  have gg : ¬ l < ((szDialed x : Nat) : Int) := by simp only [szDialed]; omega
  unfold szl; rw [if_neg gg]; simp only [szDialed] <;> omega
abbrev toDialedS (R : Rel) : Prop := ∀ x : Dialed, szDialed x ≤ 1048576 → R [arg (eDialed x)] [] (.agg (eDialed x)) []
theorem toDialed_b (D : Dn) (htoDeal : toDealS (D 171)) (htoIntS : toIntSS (D 31)) : toDialedS (Body D slaws_toDialed) := by
  intro x h
  simp only [szDialed] at h
  simp -implicitDefEqProofs
  refine callQ_of (htoDeal x.deal (by omega)) ?_
  simp -implicitDefEqProofs
  refine callQ_of (htoIntS x.up (by omega)) ?_
  simp -implicitDefEqProofs
abbrev eqDialedS (R : Rel) : Prop := ∀ x y : Dialed, szDialed x ≤ 2 ^ 40 → szDialed y ≤ 2 ^ 40 → R [arg (eDialed x), arg (eDialed y)] [] (B (decide (x = y))) []
theorem eqDialed_b (D : Dn) (heqDeal : eqDealS (D 205)) (heqIntS : eqIntSS (D 47)) : eqDialedS (Body D slaws_eqDialed) := by
  intro x y h1 h2
  simp only [szDialed] at h1 h2
  simp -implicitDefEqProofs
  refine callQ_of (heqDeal x.deal y.deal (by omega) (by omega)) ?_
  by_cases g_deal : x.deal = y.deal
  rotate_left
  · have hne : x ≠ y := fun h => g_deal (by rw [h])
    simp -implicitDefEqProofs [g_deal, hne]
  simp -implicitDefEqProofs [g_deal]
  by_cases g_tries : x.tries = y.tries
  rotate_left
  · have hne : x ≠ y := fun h => g_tries (by rw [h])
    simp -implicitDefEqProofs [g_tries, hne]
  simp -implicitDefEqProofs [g_tries]
  refine callQ_of (heqIntS x.up y.up (by unfold maxLen; omega) (by unfold maxLen; omega)) ?_
  by_cases g_up : x.up = y.up
  rotate_left
  · have hne : x ≠ y := fun h => g_up (by rw [h])
    simp -implicitDefEqProofs [g_up, hne]
  simp -implicitDefEqProofs [g_up]
  have hxy : x = y := by cases x; cases y; simp_all
  simp -implicitDefEqProofs [hxy]
end Go.Eng.T

namespace Go.Eng.T

abbrev MaskedByS (R : Rel) : Prop := ∀ (xs : List Dialed) (v : Int), xs.length ≤ maxLen → (∀ (j : Nat) (h : j < xs.length), xs[j].up.length ≤ maxLen) →
  R [.sl 1 5 xs.length (xs.flatMap eDialed), I v] [] (.tup [I (cntF (goodD v) xs), I (cntF (badD v) xs)]) []
theorem sMaskedBy_b (D : Dn) (hH : HasS (D 166)) : MaskedByS (Body D sspec_MaskedBy) := by
  intro xs v hl hu
  unfold maxLen at hl
  simp -implicitDefEqProofs
  refine swp_loop (fun k s => ∃ j o0, j + k = xs.length ∧ s = ⟨[.sl 1 5 xs.length (xs.flatMap eDialed), .sc (.int .i64 v), .undef, .undef, .sc (.int .i64 (cntF (goodD v) (xs.take j))), .sc (.int .i64 (cntF (badD v) (xs.take j))), .sc (.int .i64 j), .undef, .undef, .undef, .undef], [o0]⟩) ?_ xs.length _ ⟨0, .free, by simp, by simp [cntF]⟩
  intro k s ⟨j, o0, hj, hs⟩
  subst hs
  by_cases hjn : j < xs.length
  · have hw : IntKind.i64.wrap ((j : Int) + 1) = (j + 1 : Nat) := by rw [wrap_id (by omega) (by omega)]; simp
    have hc := cnt_step (f := goodD v) hjn
    have hb := cnt_step (f := badD v) hjn
    have hcl := cnt_le (f := goodD v) (xs := xs) (j := j) (by omega)
    have hbl := cnt_le (f := badD v) (xs := xs) (j := j) (by omega)
    have hw2 : IntKind.i64.wrap ((cntF (goodD v) (xs.take j) : Int) + 1) = (cntF (goodD v) (xs.take j) + 1 : Nat) := by rw [wrap_id (by omega) (by omega)]; simp
    have hw3 : IntKind.i64.wrap ((cntF (badD v) (xs.take j) : Int) + 1) = (cntF (badD v) (xs.take j) + 1 : Nat) := by rw [wrap_id (by omega) (by omega)]; simp
    have fin : ∀ (a b : Bool), goodD v xs[j] = a → badD v xs[j] = b → ∀ x y : Int, x = ((cntF (goodD v) (xs.take j) + (if a then 1 else 0) : Nat) : Int) → y = ((cntF (badD v) (xs.take j) + (if b then 1 else 0) : Nat) : Int) →
        x = cntF (goodD v) (xs.take (j + 1)) ∧ y = cntF (badD v) (xs.take (j + 1)) := by
      intro a b ha hb' x y hx hy
      rw [hc, hb, ha, hb']
      exact ⟨hx, hy⟩
    by_cases h1 : xs[j].deal.ok = true
    · by_cases h2 : xs[j].deal.version < v
      · simp -implicitDefEqProofs [hjn, h1, h2]
        refine callQ_of (hH xs[j].up v (hu j hjn)) ?_
        by_cases h3 : v ∈ xs[j].up
        · have g := fin false true (by simp [goodD, badD, h1, h2, h3]) (by simp [badD, h1, h2, h3]) _ _ rfl rfl
          simp -implicitDefEqProofs [h3]
          exact ⟨k - 1, by omega, j + 1, by omega, by simpa using g.1, by rw [hw3]; simpa using g.2, by simp [hw]⟩
        · have h4 : ¬ v ≤ xs[j].deal.version := by omega
          have g := fin false false (by simp [goodD, badD, h1, h2, h3, h4]) (by simp [badD, h1, h2, h3]) _ _ rfl rfl
          simp -implicitDefEqProofs [h3, h4]
          exact ⟨k - 1, by omega, j + 1, by omega, by simpa using g.1, by simpa using g.2, by simp [hw]⟩
      · have h4 : v ≤ xs[j].deal.version := by omega
        have g := fin true false (by simp [goodD, badD, h1, h2, h4]) (by simp [badD, h1, h2]) _ _ rfl rfl
        simp -implicitDefEqProofs [hjn, h1, h2, h4]
        exact ⟨k - 1, by omega, j + 1, by omega, by rw [hw2]; simpa using g.1, by simpa using g.2, by simp [hw]⟩
    · have g := fin false true (by simp [goodD, badD, h1]) (by simp [badD, h1]) _ _ rfl rfl
      simp -implicitDefEqProofs [hjn, h1]
      exact ⟨k - 1, by omega, j + 1, by omega, by simpa using g.1, by rw [hw3]; simpa using g.2, by simp [hw]⟩
  · have hx := cnt_all (f := goodD v) (xs := xs) (j := j) (by omega)
    have hy := cnt_all (f := badD v) (xs := xs) (j := j) (by omega)
    simp -implicitDefEqProofs [hjn, hx, hy]

abbrev IsBadDialS (R : Rel) : Prop := ∀ (d : Dialed) (v : Int), d.up.length ≤ maxLen → R [arg (eDialed d), I v] [] (B (badD v d)) []
theorem sIsBadDial_b (D : Dn) (hM : MaskedByS (D 155)) : IsBadDialS (Body D sspec_IsBadDial) := by
  intro d v hu
  simp -implicitDefEqProofs
  refine callQ_of (hM [d] v (by unfold maxLen; simp) (fun j h => by obtain rfl : j = 0 := by simpa using h
                                                                    exact hu)) ?_
  by_cases h : badD v d <;> simp -implicitDefEqProofs [cntF, h]
theorem isBad_b (D : Dn) (hH : HasS (D 188)) : IsBadDialS (Body D simpl_isBad) := by
  intro d v hu
  by_cases h1 : d.deal.ok = true
  · by_cases h2 : d.deal.version < v
    · simp -implicitDefEqProofs [h1, h2]
      refine callQ_of (hH d.up v hu) ?_
      simp -implicitDefEqProofs [badD, h1, h2]
    · simp -implicitDefEqProofs [h1, h2, badD]
  · simp -implicitDefEqProofs [h1, badD]
theorem iIsBadDial_b (D : Dn) (hB : IsBadDialS (D 229)) : IsBadDialS (Body D simpl_IsBadDial) := by
  intro d v hu
  simp -implicitDefEqProofs
  refine callQ_of (hB d v hu) ?_
  simp -implicitDefEqProofs
end Go.Eng.T

namespace Go.Eng.T
abbrev szBoxS (R : Rel) : Prop := ∀ (x : Box) (l : Int), 0 ≤ l → l ≤ 1048576 → lnBox x → R [arg (eBox x), I l] [] (I (szl (szBox x) l)) []
abbrev toBoxS (R : Rel) : Prop := ∀ x : Box, szBox x ≤ 1048576 → R [arg (eBox x)] [] (.agg (eBox x)) []
abbrev eqBoxS (R : Rel) : Prop := ∀ x y : Box, szBox x ≤ 2 ^ 40 → szBox y ≤ 2 ^ 40 → R [arg (eBox x), arg (eBox y)] [] (B (decide (x = y))) []
abbrev szEventS (R : Rel) : Prop := ∀ (x : Event) (l : Int), 0 ≤ l → l ≤ 1048576 → lnEvent x → R [arg (eEvent x), I l] [] (I (szl (szEvent x) l)) []
abbrev toEventS (R : Rel) : Prop := ∀ x : Event, szEvent x ≤ 1048576 → R [arg (eEvent x)] [] (.agg (eEvent x)) []
abbrev eqEventS (R : Rel) : Prop := ∀ x y : Event, szEvent x ≤ 2 ^ 40 → szEvent y ≤ 2 ^ 40 → R [arg (eEvent x), arg (eEvent y)] [] (B (decide (x = y))) []
abbrev szEventSS (R : Rel) : Prop := ∀ (xs : List Event) (l : Int), 0 ≤ l → l ≤ 1048576 → lnS lnEvent xs → R [.sl 1 6 xs.length (xs.flatMap eEvent), I l] [] (I (szl (sumF szEvent xs) l)) []
abbrev toEventSS (R : Rel) : Prop := ∀ xs : List Event, sumF szEvent xs ≤ 1048576 → R [.sl 1 6 xs.length (xs.flatMap eEvent)] [] (.sl 0 6 xs.length (xs.flatMap eEvent)) []
abbrev eqEventSS (R : Rel) : Prop := ∀ xs ys : List Event, sumF szEvent xs ≤ 2 ^ 40 → sumF szEvent ys ≤ 2 ^ 40 → R [.sl 1 6 xs.length (xs.flatMap eEvent), .sl 1 6 ys.length (ys.flatMap eEvent)] [] (B (decide (xs = ys))) []
end Go.Eng.T

namespace Go.Eng.T

theorem szl_lt {n : Nat} {l : Int} (h : l < n) : szl n l = -1 := by unfold szl; rw [if_pos h]
theorem szl_ge {n : Nat} {l : Int} (h : ¬ l < n) : szl n l = l - n := by unfold szl; rw [if_neg h]

abbrev FnExactIsBadDialS (R : Rel) : Prop := ∀ (d : Dialed) (v : Int), lnDialed d → R [arg (eDialed d), I v] [] (B true) []
theorem FnExactIsBadDial_b (D : Dn) (hsz : szDialedS (D glaws_szDialed)) (hto : toDialedS (D glaws_toDialed)) (hs : IsBadDialS (D gspec_IsBadDial)) (hi : IsBadDialS (D gimpl_IsBadDial)) (heq : eqDialedS (D glaws_eqDialed)) : FnExactIsBadDialS (Body D slaws_FnExactIsBadDial) := by
  intro d v hl
  simp -implicitDefEqProofs
  refine callQ_of (hsz d 1048576 (by omega) (by omega) hl) ?_
  by_cases h : (1048576 : Int) < szDialed d
  · simp -implicitDefEqProofs [szl_lt h]
  · have h1 : ¬ (1048576 : Int) - szDialed d < 0 := by omega
    have h2 : szDialed d ≤ 1048576 := by omega
    have h3 : d.up.length ≤ maxLen := by unfold maxLen; unfold szDialed at h2; omega
    simp -implicitDefEqProofs [szl_ge h, h1]
    refine callQ_of (hto d h2) ?_
    simp -implicitDefEqProofs
    refine callQ_of (hs d v h3) ?_
    simp -implicitDefEqProofs
    refine callQ_of (hto d h2) ?_
    simp -implicitDefEqProofs
    refine callQ_of (hi d v h3) ?_
    simp -implicitDefEqProofs
    refine callQ_of (hto d h2) ?_
    simp -implicitDefEqProofs
    refine callQ_of (heq d d (by omega) (by omega)) ?_
    simp -implicitDefEqProofs

abbrev FnExactCountKindS (R : Rel) : Prop := ∀ (xs : List Event) (v : Int), lnS lnEvent xs → R [.sl 1 6 xs.length (xs.flatMap eEvent), I v] [] (B true) []
end Go.Eng.T

namespace Go.Eng.T
theorem datL_cons {y : Ty} {ys : List Ty} {cs : List V} (h : DatL (y :: ys) cs) : ∃ a b, Dat y a ∧ DatL ys b ∧ cs = a ++ b := by simp only [DatL] at h; exact h
theorem datL_nil {cs : List V} (h : DatL [] cs) : cs = [] := by simp only [DatL] at h; exact h
theorem dat_st {ys : List Ty} {cs : List V} (h : Dat (.st ys) cs) : DatL ys cs := by simp only [Dat] at h; exact h
def rgI (n : Int) : Prop := -9223372036854775808 ≤ n ∧ n ≤ 9223372036854775807
theorem rg_of {n : Int} (h : (Lit.int .i64 n).wf = true) : rgI n := by
  simp only [Lit.wf, IntKind.min, IntKind.max, IntKind.bits, IntKind.signed, Bool.and_eq_true, decide_eq_true_eq] at h
  exact ⟨h.1, h.2⟩
theorem datI {cs : List V} (h : Dat (.int .i64) cs) : ∃ n, cs = [.sc (.int .i64 n)] ∧ rgI n := by
  simp only [Dat] at h
  obtain ⟨n, h1, h2⟩ := h
  exact ⟨n, h2, rg_of h1⟩
theorem datB {cs : List V} (h : Dat .bool cs) : ∃ b, cs = [.sc (.bool b)] := by simp only [Dat] at h; exact h
theorem datS {cs : List V} (h : Dat .str cs) : ∃ s : ByteArray, cs = [.sc (.string s)] ∧ s.size ≤ maxLen := by
  simp only [Dat] at h
  obtain ⟨n, h1, h2⟩ := h
  exact ⟨n, h2, h1⟩
theorem choose_row {α : Type} {f : α → List V} {p : α → Prop} : ∀ {xs : List (List V)}, (∀ x, x ∈ xs → ∃ d, x = f d ∧ p d) → ∃ ds : List α, xs = ds.map f ∧ ∀ d, d ∈ ds → p d
  | [], _ => ⟨[], rfl, by simp⟩
  | x :: xs, h => by
    obtain ⟨d, rfl, hd⟩ := h x (by simp)
    obtain ⟨ds, rfl, hds⟩ := choose_row (xs := xs) fun y hy => h y (by simp [hy])
    exact ⟨d :: ds, rfl, by intro y hy; rcases List.mem_cons.1 hy with rfl | hy; exact hd; exact hds y hy⟩
theorem datRow {α : Type} {y : Ty} {f : α → List V} {p : α → Prop} (hf : ∀ cs, Dat y cs → ∃ d, cs = f d ∧ p d) {cs : List V} (h : Dat (.sl y) cs) :
    ∃ ds : List α, cs = [.sl 0 y.cells ds.length (ds.flatMap f)] ∧ ds.length ≤ maxLen ∧ ∀ d, d ∈ ds → p d := by
  simp only [Dat] at h
  obtain ⟨xs, h1, h2, rfl⟩ := h
  obtain ⟨ds, rfl, h3⟩ := choose_row (f := f) (p := p) (xs := xs) fun x hx => hf x (h2 x hx)
  exact ⟨ds, by simp [List.flatMap_def], by simpa using h1, h3⟩
def rgInts (xs : List Int) : Prop := ∀ x, x ∈ xs → rgI x
def rgS {α : Type} (f : α → Prop) (xs : List α) : Prop := ∀ x, x ∈ xs → f x
theorem datInts {cs : List V} (h : Dat (.sl (.int .i64)) cs) : ∃ xs : List Int, cs = [.sl 0 1 xs.length (ints xs)] ∧ lnInts xs ∧ rgInts xs := by
  obtain ⟨ds, h1, h2, h3⟩ := datRow (f := fun n => [V.sc (.int .i64 n)]) (p := rgI) (fun cs h => datI h) h
  refine ⟨ds, ?_, h2, h3⟩
  have e : ds.flatMap (fun n => [V.sc (.int .i64 n)]) = ints ds := by
    clear h1 h2 h3
    induction ds with
    | nil => rfl
    | cons a ds ih => rw [List.flatMap_cons, ih]; rfl
  rw [h1, e]
  rfl
def tyDeal : Ty := .st [.bool, .int .i64, .sl (.int .i64)]
def rgDeal (d : Deal) : Prop := rgI d.version ∧ rgInts d.tags
theorem datDeal {cs : List V} (h : Dat tyDeal cs) : ∃ x : Deal, cs = eDeal x ∧ lnDeal x ∧ rgDeal x := by
  have h0 := dat_st h
  obtain ⟨a0, r0, g0, h1, e0⟩ := datL_cons h0
  obtain ⟨x0, rfl⟩ := datB g0
  obtain ⟨a1, r1, g1, h2, e1⟩ := datL_cons h1
  obtain ⟨x1, rfl, w1⟩ := datI g1
  obtain ⟨a2, r2, g2, h3, e2⟩ := datL_cons h2
  obtain ⟨x2, rfl, l2, w2⟩ := datInts g2
  have z := datL_nil h3
  subst z; subst e2; subst e1; subst e0
  exact ⟨⟨x0, x1, x2⟩, rfl, l2, ⟨w1, w2⟩⟩
def tyBox : Ty := .st [.int .i64, .sl (.int .i64), .sl (.int .i64), .bool]
def rgBox (d : Box) : Prop := rgI d.limit ∧ rgInts d.drops ∧ rgInts d.strips
theorem datBox {cs : List V} (h : Dat tyBox cs) : ∃ x : Box, cs = eBox x ∧ lnBox x ∧ rgBox x := by
  have h0 := dat_st h
  obtain ⟨a0, r0, g0, h1, e0⟩ := datL_cons h0
  obtain ⟨x0, rfl, w0⟩ := datI g0
  obtain ⟨a1, r1, g1, h2, e1⟩ := datL_cons h1
  obtain ⟨x1, rfl, l1, w1⟩ := datInts g1
  obtain ⟨a2, r2, g2, h3, e2⟩ := datL_cons h2
  obtain ⟨x2, rfl, l2, w2⟩ := datInts g2
  obtain ⟨a3, r3, g3, h4, e3⟩ := datL_cons h3
  obtain ⟨x3, rfl⟩ := datB g3
  have z := datL_nil h4
  subst z; subst e3; subst e2; subst e1; subst e0
  exact ⟨⟨x0, x1, x2, x3⟩, rfl, ⟨l1, l2⟩, ⟨w0, w1, w2⟩⟩
theorem datBoxS {cs : List V} (h : Dat (.sl tyBox) cs) : ∃ xs : List Box, cs = [.sl 0 4 xs.length (xs.flatMap eBox)] ∧ lnS lnBox xs ∧ rgS rgBox xs := by
  obtain ⟨ds, h1, h2, h3⟩ := datRow (f := eBox) (p := fun x => lnBox x ∧ rgBox x) (fun cs h => datBox h) h
  exact ⟨ds, h1, ⟨h2, fun j hj => (h3 _ (List.getElem_mem hj)).1⟩, fun x hx => (h3 x hx).2⟩
def tyDialed : Ty := .st [tyDeal, .int .i64, .sl (.int .i64)]
def rgDialed (d : Dialed) : Prop := rgDeal d.deal ∧ rgI d.tries ∧ rgInts d.up
theorem datDialed {cs : List V} (h : Dat tyDialed cs) : ∃ x : Dialed, cs = eDialed x ∧ lnDialed x ∧ rgDialed x := by
  have h0 := dat_st h
  obtain ⟨a0, r0, g0, h1, e0⟩ := datL_cons h0
  obtain ⟨x0, rfl, l0, w0⟩ := datDeal g0
  obtain ⟨a1, r1, g1, h2, e1⟩ := datL_cons h1
  obtain ⟨x1, rfl, w1⟩ := datI g1
  obtain ⟨a2, r2, g2, h3, e2⟩ := datL_cons h2
  obtain ⟨x2, rfl, l2, w2⟩ := datInts g2
  have z := datL_nil h3
  subst z; subst e2; subst e1; subst e0
  exact ⟨⟨x0, x1, x2⟩, rfl, ⟨l0, l2⟩, ⟨w0, w1, w2⟩⟩
theorem datDialedS {cs : List V} (h : Dat (.sl tyDialed) cs) : ∃ xs : List Dialed, cs = [.sl 0 5 xs.length (xs.flatMap eDialed)] ∧ lnS lnDialed xs ∧ rgS rgDialed xs := by
  obtain ⟨ds, h1, h2, h3⟩ := datRow (f := eDialed) (p := fun x => lnDialed x ∧ rgDialed x) (fun cs h => datDialed h) h
  exact ⟨ds, h1, ⟨h2, fun j hj => (h3 _ (List.getElem_mem hj)).1⟩, fun x hx => (h3 x hx).2⟩
def tyRollout : Ty := .st [.int .i64, .sl (.int .i64), .int .i64, .bool]
def rgRollout (d : Rollout) : Prop := rgI d.version ∧ rgInts d.stages ∧ rgI d.pos
theorem datRollout {cs : List V} (h : Dat tyRollout cs) : ∃ x : Rollout, cs = eRollout x ∧ lnRollout x ∧ rgRollout x := by
  have h0 := dat_st h
  obtain ⟨a0, r0, g0, h1, e0⟩ := datL_cons h0
  obtain ⟨x0, rfl, w0⟩ := datI g0
  obtain ⟨a1, r1, g1, h2, e1⟩ := datL_cons h1
  obtain ⟨x1, rfl, l1, w1⟩ := datInts g1
  obtain ⟨a2, r2, g2, h3, e2⟩ := datL_cons h2
  obtain ⟨x2, rfl, w2⟩ := datI g2
  obtain ⟨a3, r3, g3, h4, e3⟩ := datL_cons h3
  obtain ⟨x3, rfl⟩ := datB g3
  have z := datL_nil h4
  subst z; subst e3; subst e2; subst e1; subst e0
  exact ⟨⟨x0, x1, x2, x3⟩, rfl, l1, ⟨w0, w1, w2⟩⟩
def tyEndpoint : Ty := .st [.sl (.int .i64), .sl (.int .i64), .sl tyBox, .int .i64]
def rgEndpoint (d : Endpoint) : Prop := rgInts d.versions ∧ rgInts d.tags ∧ rgS rgBox d.path ∧ rgI d.cls
theorem datEndpoint {cs : List V} (h : Dat tyEndpoint cs) : ∃ x : Endpoint, cs = eEndpoint x ∧ lnEndpoint x ∧ rgEndpoint x := by
  have h0 := dat_st h
  obtain ⟨a0, r0, g0, h1, e0⟩ := datL_cons h0
  obtain ⟨x0, rfl, l0, w0⟩ := datInts g0
  obtain ⟨a1, r1, g1, h2, e1⟩ := datL_cons h1
  obtain ⟨x1, rfl, l1, w1⟩ := datInts g1
  obtain ⟨a2, r2, g2, h3, e2⟩ := datL_cons h2
  obtain ⟨x2, rfl, l2, w2⟩ := datBoxS g2
  obtain ⟨a3, r3, g3, h4, e3⟩ := datL_cons h3
  obtain ⟨x3, rfl, w3⟩ := datI g3
  have z := datL_nil h4
  subst z; subst e3; subst e2; subst e1; subst e0
  exact ⟨⟨x0, x1, x2, x3⟩, rfl, ⟨l0, l1, l2⟩, ⟨w0, w1, w2, w3⟩⟩
theorem datEndpointS {cs : List V} (h : Dat (.sl tyEndpoint) cs) : ∃ xs : List Endpoint, cs = [.sl 0 4 xs.length (xs.flatMap eEndpoint)] ∧ lnS lnEndpoint xs ∧ rgS rgEndpoint xs := by
  obtain ⟨ds, h1, h2, h3⟩ := datRow (f := eEndpoint) (p := fun x => lnEndpoint x ∧ rgEndpoint x) (fun cs h => datEndpoint h) h
  exact ⟨ds, h1, ⟨h2, fun j hj => (h3 _ (List.getElem_mem hj)).1⟩, fun x hx => (h3 x hx).2⟩
def tyLogged : Ty := .st [.int .i64, .int .i64, .bool, tyDialed]
def rgLogged (d : Logged) : Prop := rgI d.fin ∧ rgI d.tick ∧ rgDialed d.dialed
theorem datLogged {cs : List V} (h : Dat tyLogged cs) : ∃ x : Logged, cs = eLogged x ∧ lnLogged x ∧ rgLogged x := by
  have h0 := dat_st h
  obtain ⟨a0, r0, g0, h1, e0⟩ := datL_cons h0
  obtain ⟨x0, rfl, w0⟩ := datI g0
  obtain ⟨a1, r1, g1, h2, e1⟩ := datL_cons h1
  obtain ⟨x1, rfl, w1⟩ := datI g1
  obtain ⟨a2, r2, g2, h3, e2⟩ := datL_cons h2
  obtain ⟨x2, rfl⟩ := datB g2
  obtain ⟨a3, r3, g3, h4, e3⟩ := datL_cons h3
  obtain ⟨x3, rfl, l3, w3⟩ := datDialed g3
  have z := datL_nil h4
  subst z; subst e3; subst e2; subst e1; subst e0
  exact ⟨⟨x0, x1, x2, x3⟩, rfl, l3, ⟨w0, w1, w3⟩⟩
theorem datLoggedS {cs : List V} (h : Dat (.sl tyLogged) cs) : ∃ xs : List Logged, cs = [.sl 0 8 xs.length (xs.flatMap eLogged)] ∧ lnS lnLogged xs ∧ rgS rgLogged xs := by
  obtain ⟨ds, h1, h2, h3⟩ := datRow (f := eLogged) (p := fun x => lnLogged x ∧ rgLogged x) (fun cs h => datLogged h) h
  exact ⟨ds, h1, ⟨h2, fun j hj => (h3 _ (List.getElem_mem hj)).1⟩, fun x hx => (h3 x hx).2⟩
def tyWorld : Ty := .st [.sl (.int .i64), .sl (.int .i64), .int .i64, .sl tyEndpoint, tyRollout, .int .i64, .int .i64, .sl tyDialed, .sl tyLogged, .int .i64, .int .i64, .int .i64]
def rgWorld (d : World) : Prop := rgInts d.server ∧ rgInts d.tags ∧ rgI d.key ∧ rgS rgEndpoint d.ends ∧ rgRollout d.rollout ∧ rgI d.least ∧ rgI d.percent ∧ rgS rgDialed d.stage ∧ rgS rgLogged d.log ∧ rgI d.now ∧ rgI d.hurt ∧ rgI d.reached
theorem datWorld {cs : List V} (h : Dat tyWorld cs) : ∃ x : World, cs = eWorld x ∧ lnWorld x ∧ rgWorld x := by
  have h0 := dat_st h
  obtain ⟨a0, r0, g0, h1, e0⟩ := datL_cons h0
  obtain ⟨x0, rfl, l0, w0⟩ := datInts g0
  obtain ⟨a1, r1, g1, h2, e1⟩ := datL_cons h1
  obtain ⟨x1, rfl, l1, w1⟩ := datInts g1
  obtain ⟨a2, r2, g2, h3, e2⟩ := datL_cons h2
  obtain ⟨x2, rfl, w2⟩ := datI g2
  obtain ⟨a3, r3, g3, h4, e3⟩ := datL_cons h3
  obtain ⟨x3, rfl, l3, w3⟩ := datEndpointS g3
  obtain ⟨a4, r4, g4, h5, e4⟩ := datL_cons h4
  obtain ⟨x4, rfl, l4, w4⟩ := datRollout g4
  obtain ⟨a5, r5, g5, h6, e5⟩ := datL_cons h5
  obtain ⟨x5, rfl, w5⟩ := datI g5
  obtain ⟨a6, r6, g6, h7, e6⟩ := datL_cons h6
  obtain ⟨x6, rfl, w6⟩ := datI g6
  obtain ⟨a7, r7, g7, h8, e7⟩ := datL_cons h7
  obtain ⟨x7, rfl, l7, w7⟩ := datDialedS g7
  obtain ⟨a8, r8, g8, h9, e8⟩ := datL_cons h8
  obtain ⟨x8, rfl, l8, w8⟩ := datLoggedS g8
  obtain ⟨a9, r9, g9, h10, e9⟩ := datL_cons h9
  obtain ⟨x9, rfl, w9⟩ := datI g9
  obtain ⟨a10, r10, g10, h11, e10⟩ := datL_cons h10
  obtain ⟨x10, rfl, w10⟩ := datI g10
  obtain ⟨a11, r11, g11, h12, e11⟩ := datL_cons h11
  obtain ⟨x11, rfl, w11⟩ := datI g11
  have z := datL_nil h12
  subst z; subst e11; subst e10; subst e9; subst e8; subst e7; subst e6; subst e5; subst e4; subst e3; subst e2; subst e1; subst e0
  exact ⟨⟨x0, x1, x2, x3, x4, x5, x6, x7, x8, x9, x10, x11⟩, rfl, ⟨l0, l1, l3, l4, l7, l8⟩, ⟨w0, w1, w2, w3, w4, w5, w6, w7, w8, w9, w10, w11⟩⟩
def tyEvent : Ty := .st [.int .i64, .int .i64, tyBox]
def rgEvent (d : Event) : Prop := rgI d.kind ∧ rgI d.n ∧ rgBox d.box
theorem datEvent {cs : List V} (h : Dat tyEvent cs) : ∃ x : Event, cs = eEvent x ∧ lnEvent x ∧ rgEvent x := by
  have h0 := dat_st h
  obtain ⟨a0, r0, g0, h1, e0⟩ := datL_cons h0
  obtain ⟨x0, rfl, w0⟩ := datI g0
  obtain ⟨a1, r1, g1, h2, e1⟩ := datL_cons h1
  obtain ⟨x1, rfl, w1⟩ := datI g1
  obtain ⟨a2, r2, g2, h3, e2⟩ := datL_cons h2
  obtain ⟨x2, rfl, l2, w2⟩ := datBox g2
  have z := datL_nil h3
  subst z; subst e2; subst e1; subst e0
  exact ⟨⟨x0, x1, x2⟩, rfl, l2, ⟨w0, w1, w2⟩⟩
theorem datEventS {cs : List V} (h : Dat (.sl tyEvent) cs) : ∃ xs : List Event, cs = [.sl 0 6 xs.length (xs.flatMap eEvent)] ∧ lnS lnEvent xs ∧ rgS rgEvent xs := by
  obtain ⟨ds, h1, h2, h3⟩ := datRow (f := eEvent) (p := fun x => lnEvent x ∧ rgEvent x) (fun cs h => datEvent h) h
  exact ⟨ds, h1, ⟨h2, fun j hj => (h3 _ (List.getElem_mem hj)).1⟩, fun x hx => (h3 x hx).2⟩

theorem argI {v : V} (h : ArgV (.int .i64) v) : ∃ n, v = I n ∧ rgI n := by
  obtain ⟨c, hd, rfl⟩ := h
  obtain ⟨n, e, w⟩ := datI hd
  cases e
  exact ⟨n, rfl, w⟩
theorem argB {v : V} (h : ArgV .bool v) : ∃ b, v = B b := by
  obtain ⟨c, hd, rfl⟩ := h
  obtain ⟨n, e⟩ := datB hd
  cases e
  exact ⟨n, rfl⟩
theorem argS {v : V} (h : ArgV .str v) : ∃ s : ByteArray, v = S s ∧ s.size ≤ maxLen := by
  obtain ⟨c, hd, rfl⟩ := h
  obtain ⟨n, e, w⟩ := datS hd
  cases e
  exact ⟨n, rfl, w⟩
theorem argInts {v : V} (h : ArgV (.sl (.int .i64)) v) : ∃ xs : List Int, v = .sl 1 1 xs.length (ints xs) ∧ lnInts xs ∧ rgInts xs := by
  obtain ⟨c, hd, rfl⟩ := h
  obtain ⟨xs, e, w⟩ := datInts hd
  cases e
  exact ⟨xs, rfl, w⟩
theorem argDeal {v : V} (h : ArgV tyDeal v) : ∃ x : Deal, v = arg (eDeal x) ∧ lnDeal x ∧ rgDeal x := by
  obtain ⟨cs, hd, rfl⟩ := h
  obtain ⟨x, rfl, w⟩ := datDeal hd
  exact ⟨x, rfl, w⟩
theorem argBox {v : V} (h : ArgV tyBox v) : ∃ x : Box, v = arg (eBox x) ∧ lnBox x ∧ rgBox x := by
  obtain ⟨cs, hd, rfl⟩ := h
  obtain ⟨x, rfl, w⟩ := datBox hd
  exact ⟨x, rfl, w⟩
theorem argBoxS {v : V} (h : ArgV (.sl tyBox) v) : ∃ xs : List Box, v = .sl 1 4 xs.length (xs.flatMap eBox) ∧ lnS lnBox xs ∧ rgS rgBox xs := by
  obtain ⟨c, hd, rfl⟩ := h
  obtain ⟨xs, e, w⟩ := datBoxS hd
  cases e
  exact ⟨xs, rfl, w⟩
theorem argDialed {v : V} (h : ArgV tyDialed v) : ∃ x : Dialed, v = arg (eDialed x) ∧ lnDialed x ∧ rgDialed x := by
  obtain ⟨cs, hd, rfl⟩ := h
  obtain ⟨x, rfl, w⟩ := datDialed hd
  exact ⟨x, rfl, w⟩
theorem argDialedS {v : V} (h : ArgV (.sl tyDialed) v) : ∃ xs : List Dialed, v = .sl 1 5 xs.length (xs.flatMap eDialed) ∧ lnS lnDialed xs ∧ rgS rgDialed xs := by
  obtain ⟨c, hd, rfl⟩ := h
  obtain ⟨xs, e, w⟩ := datDialedS hd
  cases e
  exact ⟨xs, rfl, w⟩
theorem argRollout {v : V} (h : ArgV tyRollout v) : ∃ x : Rollout, v = arg (eRollout x) ∧ lnRollout x ∧ rgRollout x := by
  obtain ⟨cs, hd, rfl⟩ := h
  obtain ⟨x, rfl, w⟩ := datRollout hd
  exact ⟨x, rfl, w⟩
theorem argEndpoint {v : V} (h : ArgV tyEndpoint v) : ∃ x : Endpoint, v = arg (eEndpoint x) ∧ lnEndpoint x ∧ rgEndpoint x := by
  obtain ⟨cs, hd, rfl⟩ := h
  obtain ⟨x, rfl, w⟩ := datEndpoint hd
  exact ⟨x, rfl, w⟩
theorem argEndpointS {v : V} (h : ArgV (.sl tyEndpoint) v) : ∃ xs : List Endpoint, v = .sl 1 4 xs.length (xs.flatMap eEndpoint) ∧ lnS lnEndpoint xs ∧ rgS rgEndpoint xs := by
  obtain ⟨c, hd, rfl⟩ := h
  obtain ⟨xs, e, w⟩ := datEndpointS hd
  cases e
  exact ⟨xs, rfl, w⟩
theorem argLogged {v : V} (h : ArgV tyLogged v) : ∃ x : Logged, v = arg (eLogged x) ∧ lnLogged x ∧ rgLogged x := by
  obtain ⟨cs, hd, rfl⟩ := h
  obtain ⟨x, rfl, w⟩ := datLogged hd
  exact ⟨x, rfl, w⟩
theorem argLoggedS {v : V} (h : ArgV (.sl tyLogged) v) : ∃ xs : List Logged, v = .sl 1 8 xs.length (xs.flatMap eLogged) ∧ lnS lnLogged xs ∧ rgS rgLogged xs := by
  obtain ⟨c, hd, rfl⟩ := h
  obtain ⟨xs, e, w⟩ := datLoggedS hd
  cases e
  exact ⟨xs, rfl, w⟩
theorem argWorld {v : V} (h : ArgV tyWorld v) : ∃ x : World, v = arg (eWorld x) ∧ lnWorld x ∧ rgWorld x := by
  obtain ⟨cs, hd, rfl⟩ := h
  obtain ⟨x, rfl, w⟩ := datWorld hd
  exact ⟨x, rfl, w⟩
theorem argEvent {v : V} (h : ArgV tyEvent v) : ∃ x : Event, v = arg (eEvent x) ∧ lnEvent x ∧ rgEvent x := by
  obtain ⟨cs, hd, rfl⟩ := h
  obtain ⟨x, rfl, w⟩ := datEvent hd
  exact ⟨x, rfl, w⟩
theorem argEventS {v : V} (h : ArgV (.sl tyEvent) v) : ∃ xs : List Event, v = .sl 1 6 xs.length (xs.flatMap eEvent) ∧ lnS lnEvent xs ∧ rgS rgEvent xs := by
  obtain ⟨c, hd, rfl⟩ := h
  obtain ⟨xs, e, w⟩ := datEventS hd
  cases e
  exact ⟨xs, rfl, w⟩
end Go.Eng.T

