/- Own work: part 43 of the proof of FnExactStepClear. -/
import Derived.Test.YtcgnjpoingikcacEngAP
set_option linter.unusedSimpArgs false
set_option linter.unusedVariables false
namespace Go.Eng.T
def slaws_szDialed_r0 : Reg :=
  { id := 0, ops := [{ op := .box 0 (.slot 0) },
      { op := .mv (.con (.sc (.int .i64 0))) }], sets := [(2, 0)], clr := [0, 3] }
def slaws_szDialed_r1 : Reg :=
  { id := 1, ops := [{ op := .fieldAddr (.slot 2) 0 },
      { op := .load (some 3) (.loc 0) },
      { op := .mv (.slot 1) },
      { op := .call 140 [(false, .loc 1), (false, .loc 2)] [] },
      { op := .mv (.loc 3) }], sets := [(1, 4)] }
def slaws_szDialed_r2 : Reg :=
  { id := 2, ops := [{ op := .mv (.slot 1) },
      { op := .bin .lss (.loc 0) (.con (.sc (.int .i64 0))) }], sets := [(4, 1)] }
def slaws_szDialed_r3 : Reg :=
  { id := 3, ops := [{ op := .mv (.con (.sc (.int .i64 (-1)))) }], sets := [(3, 0)], clr := [1, 2] }
def slaws_szDialed_r4 : Reg :=
  { id := 4, ops := [{ op := .fieldAddr (.slot 2) 4 },
      { op := .load none (.loc 0) },
      { op := .mv (.slot 1) },
      { op := .call 16 [(false, .loc 1), (false, .loc 2)] [] },
      { op := .mv (.loc 3) }], sets := [(1, 4)], clr := [2] }
def slaws_szDialed_r5 : Reg :=
  { id := 5, ops := [{ op := .mv (.slot 1) },
      { op := .bin .lss (.loc 0) (.con (.sc (.int .i64 0))) }], sets := [(5, 1)] }
def slaws_szDialed_r6 : Reg :=
  { id := 6, ops := [{ op := .mv (.con (.sc (.int .i64 (-1)))) }], sets := [(3, 0)], clr := [1] }
def slaws_szDialed_r7 : Reg :=
  { id := 7, ops := [{ op := .mv (.slot 1) },
      { op := .mv (.loc 0) }], sets := [(3, 1)], clr := [1] }
def slaws_szDialed_b : SC := .seq (.reg slaws_szDialed_r0) (.seq (.reg slaws_szDialed_r1) (.seq (.seq (.reg slaws_szDialed_r2) (.cond 4 (.seq (.reg slaws_szDialed_r3) (.ret)) (.skip))) (.seq (.reg slaws_szDialed_r4) (.seq (.seq (.reg slaws_szDialed_r5) (.cond 5 (.seq (.reg slaws_szDialed_r6) (.ret)) (.skip))) (.seq (.reg slaws_szDialed_r7) (.ret))))))
def slaws_szDialed : SFn := { nslots := 6, nobjs := 1, params := [0, 1], ngiven := 0, bor := false, takes := [], body := slaws_szDialed_b, results := [.slot 3] }
def slaws_szDialed_t : List Tmp := [0, 1, 2, 4, 10, 16]
attribute [simp] slaws_szDialed_r0 slaws_szDialed_r1 slaws_szDialed_r2 slaws_szDialed_r3 slaws_szDialed_r4 slaws_szDialed_r5 slaws_szDialed_r6 slaws_szDialed_r7 slaws_szDialed_b slaws_szDialed
def slaws_toDialed_r0 : Reg :=
  { id := 0, ops := [{ op := .box 0 (.slot 0) },
      { op := .alloc 1 [.sc (.bool false), .sc (.int .i64 0), .nil 1, .sc (.int .i64 0), .nil 1] }], sets := [(1, 0), (2, 1)], clr := [0] }
def slaws_toDialed_r1 : Reg :=
  { id := 1, ops := [{ op := .alloc 2 [.sc (.bool false), .sc (.int .i64 0), .nil 1, .sc (.int .i64 0), .nil 1] }], sets := [(3, 0)] }
def slaws_toDialed_r2 : Reg :=
  { id := 2, ops := [{ op := .fieldAddr (.slot 1) 0 },
      { op := .load (some 3) (.loc 0) },
      { op := .call 171 [(false, .loc 1)] [3] },
      { op := .fieldAddr (.slot 3) 0 },
      { op := .store 3 (.loc 3) (.loc 2) }] }
def slaws_toDialed_r3 : Reg :=
  { id := 3, ops := [{ op := .fieldAddr (.slot 1) 3 },
      { op := .load none (.loc 0) },
      { op := .fieldAddr (.slot 3) 3 },
      { op := .store 1 (.loc 2) (.loc 1) }] }
def slaws_toDialed_r4 : Reg :=
  { id := 4, ops := [{ op := .fieldAddr (.slot 1) 4 },
      { op := .load none (.loc 0) },
      { op := .call 31 [(false, .loc 1)] [4] },
      { op := .fieldAddr (.slot 3) 4 },
      { op := .store 1 (.loc 3) (.loc 2) }], clr := [1] }
def slaws_toDialed_r5 : Reg :=
  { id := 5, ops := [{ op := .load (some 5) (.slot 3) },
      { op := .store 5 (.slot 2) (.loc 0) }], clr := [3] }
def slaws_toDialed_b : SC := .seq (.reg slaws_toDialed_r0) (.seq (.reg slaws_toDialed_r1) (.seq (.reg slaws_toDialed_r2) (.seq (.reg slaws_toDialed_r3) (.seq (.reg slaws_toDialed_r4) (.seq (.reg slaws_toDialed_r5) (.ret))))))
def slaws_toDialed : SFn := { nslots := 4, nobjs := 5, params := [0], ngiven := 0, bor := false, takes := [], body := slaws_toDialed_b, results := [.cell 2 (some 5)] }
def slaws_toDialed_t : List Tmp := [0, 1, 2, 3]
attribute [simp] slaws_toDialed_r0 slaws_toDialed_r1 slaws_toDialed_r2 slaws_toDialed_r3 slaws_toDialed_r4 slaws_toDialed_r5 slaws_toDialed_b slaws_toDialed
def slaws_eqDialed_r0 : Reg :=
  { id := 0, ops := [{ op := .box 0 (.slot 0) },
      { op := .box 1 (.slot 1) },
      { op := .mv (.con (.sc (.bool false))) }], sets := [(2, 0), (3, 1)], clr := [0, 1, 4] }
def slaws_eqDialed_r1 : Reg :=
  { id := 1, ops := [{ op := .fieldAddr (.slot 2) 0 },
      { op := .load (some 3) (.loc 0) },
      { op := .fieldAddr (.slot 3) 0 },
      { op := .load (some 3) (.loc 2) },
      { op := .call 205 [(false, .loc 1), (false, .loc 3)] [] },
      { op := .un .not (.loc 4) }], sets := [(5, 5)] }
def slaws_eqDialed_r2 : Reg :=
  { id := 2, ops := [{ op := .mv (.con (.sc (.bool false))) }], sets := [(4, 0)], clr := [2, 3] }
def slaws_eqDialed_r3 : Reg :=
  { id := 3, ops := [{ op := .fieldAddr (.slot 2) 3 },
      { op := .load none (.loc 0) },
      { op := .fieldAddr (.slot 3) 3 },
      { op := .load none (.loc 2) },
      { op := .bin .neq (.loc 1) (.loc 3) }], sets := [(6, 4)] }
def slaws_eqDialed_r4 : Reg :=
  { id := 4, ops := [{ op := .mv (.con (.sc (.bool false))) }], sets := [(4, 0)], clr := [2, 3] }
def slaws_eqDialed_r5 : Reg :=
  { id := 5, ops := [{ op := .fieldAddr (.slot 2) 4 },
      { op := .load none (.loc 0) },
      { op := .fieldAddr (.slot 3) 4 },
      { op := .load none (.loc 2) },
      { op := .call 47 [(false, .loc 1), (false, .loc 3)] [] },
      { op := .un .not (.loc 4) }], sets := [(7, 5)], clr := [2, 3] }
def slaws_eqDialed_r6 : Reg :=
  { id := 6, ops := [{ op := .mv (.con (.sc (.bool false))) }], sets := [(4, 0)] }
def slaws_eqDialed_r7 : Reg :=
  { id := 7, ops := [{ op := .mv (.con (.sc (.bool true))) }], sets := [(4, 0)] }
def slaws_eqDialed_b : SC := .seq (.reg slaws_eqDialed_r0) (.seq (.seq (.reg slaws_eqDialed_r1) (.cond 5 (.seq (.reg slaws_eqDialed_r2) (.ret)) (.skip))) (.seq (.seq (.reg slaws_eqDialed_r3) (.cond 6 (.seq (.reg slaws_eqDialed_r4) (.ret)) (.skip))) (.seq (.seq (.reg slaws_eqDialed_r5) (.cond 7 (.seq (.reg slaws_eqDialed_r6) (.ret)) (.skip))) (.seq (.reg slaws_eqDialed_r7) (.ret)))))
def slaws_eqDialed : SFn := { nslots := 8, nobjs := 2, params := [0, 1], ngiven := 0, bor := false, takes := [], body := slaws_eqDialed_b, results := [.slot 4] }
def slaws_eqDialed_t : List Tmp := [0, 1, 2, 3, 4, 10, 15, 21]
attribute [simp] slaws_eqDialed_r0 slaws_eqDialed_r1 slaws_eqDialed_r2 slaws_eqDialed_r3 slaws_eqDialed_r4 slaws_eqDialed_r5 slaws_eqDialed_r6 slaws_eqDialed_r7 slaws_eqDialed_b slaws_eqDialed
def slaws_eqEndpointS_r0 : Reg :=
  { id := 0, ops := [{ op := .mv (.con (.sc (.bool false))) }], clr := [2] }
def slaws_eqEndpointS_r1 : Reg :=
  { id := 1, ops := [{ op := .mv (.slot 0) },
      { op := .len false (.loc 0) },
      { op := .mv (.slot 1) },
      { op := .len false (.loc 2) },
      { op := .bin .neq (.loc 1) (.loc 3) }], sets := [(4, 4)] }
def slaws_eqEndpointS_r2 : Reg :=
  { id := 2, ops := [{ op := .mv (.con (.sc (.bool false))) }], sets := [(2, 0)], clr := [0, 1] }
def slaws_eqEndpointS_r3 : Reg :=
  { id := 3, ops := [{ op := .mv (.con (.sc (.int .i64 0))) }], sets := [(3, 0)] }
def slaws_eqEndpointS_r4 : Reg :=
  { id := 4, ops := [{ op := .mv (.slot 3) },
      { op := .mv (.slot 0) },
      { op := .len false (.loc 1) },
      { op := .bin .lss (.loc 0) (.loc 2) }], sets := [(5, 3)] }
def slaws_eqEndpointS_r5 : Reg :=
  { id := 6, draw := true, ops := [{ op := .mv (.slot 0), tau := some [], om := [] },
      { op := .mv (.slot 3), tau := some [], om := [] },
      { op := .indexAddr 4 (.loc 0) (.loc 1), tau := some [], om := [] },
      { op := .load (some 4) (.loc 2), tau := some [], om := [] },
      { op := .mv (.slot 1), tau := some [], om := [] },
      { op := .mv (.slot 3), tau := some [], om := [] },
      { op := .indexAddr 4 (.loc 4) (.loc 5), tau := some [], om := [] },
      { op := .load (some 4) (.loc 6), tau := some [], om := [] },
      { op := .call 134 [(false, .loc 3), (false, .loc 7)] [], tau := some [], om := [] },
      { op := .un .not (.loc 8), tau := some [], om := [] }], sets := [(6, 9)] }
def slaws_eqEndpointS_r6 : Reg :=
  { id := 7, ops := [{ op := .mv (.con (.sc (.bool false))) }], sets := [(2, 0)], clr := [0, 1, 3] }
def slaws_eqEndpointS_r7 : Reg :=
  { id := 5, ops := [{ op := .mv (.slot 3) },
      { op := .bin .add (.loc 0) (.con (.sc (.int .i64 1))) },
      { op := .mv (.loc 1) }], sets := [(3, 2)] }
def slaws_eqEndpointS_r8 : Reg :=
  { id := 8, ops := [{ op := .mv (.con (.sc (.bool true))) }], sets := [(2, 0)], clr := [0, 1, 3] }
def slaws_eqEndpointS_b : SC := .seq (.reg slaws_eqEndpointS_r0) (.seq (.seq (.reg slaws_eqEndpointS_r1) (.cond 4 (.seq (.reg slaws_eqEndpointS_r2) (.ret)) (.skip))) (.seq (.seq (.reg slaws_eqEndpointS_r3) (.block 0 (.loop (.seq (.seq (.reg slaws_eqEndpointS_r4) (.cond 5 (.skip) (.exit 0))) (.seq (.block 1 (.seq (.reg slaws_eqEndpointS_r5) (.cond 6 (.seq (.reg slaws_eqEndpointS_r6) (.ret)) (.skip)))) (.reg slaws_eqEndpointS_r7)))))) (.seq (.reg slaws_eqEndpointS_r8) (.ret))))
def slaws_eqEndpointS : SFn := { nslots := 7, nobjs := 0, params := [0, 1], ngiven := 0, bor := false, takes := [], body := slaws_eqEndpointS_b, results := [.slot 2] }
def slaws_eqEndpointS_t : List Tmp := [0, 1, 4, 5, 10, 14, 26]
attribute [simp] slaws_eqEndpointS_r0 slaws_eqEndpointS_r1 slaws_eqEndpointS_r2 slaws_eqEndpointS_r3 slaws_eqEndpointS_r4 slaws_eqEndpointS_r5 slaws_eqEndpointS_r6 slaws_eqEndpointS_r7 slaws_eqEndpointS_r8 slaws_eqEndpointS_b slaws_eqEndpointS
def slaws_markEndpointS_r0 : Reg :=
  { id := 0, ops := [{ op := .mv (.con (.sc (.int .i64 0))) }], clr := [2] }
def slaws_markEndpointS_r1 : Reg :=
  { id := 1, ops := [{ op := .mv (.con (.sc (.int .i64 0))) }], sets := [(3, 0)] }
def slaws_markEndpointS_r2 : Reg :=
  { id := 2, ops := [{ op := .mv (.slot 3) },
      { op := .mv (.slot 0) },
      { op := .len false (.loc 1) },
      { op := .bin .lss (.loc 0) (.loc 2) }], sets := [(4, 3)] }
def slaws_markEndpointS_r3 : Reg :=
  { id := 4, fresh := [1], ops := [{ op := .mv (.slot 0) },
      { op := .mv (.slot 3) },
      { op := .indexAddr 4 (.loc 0) (.loc 1) },
      { op := .fieldAddr (.loc 2) 0 },
      { op := .take 1 (.loc 3) },
      { op := .mv (.slot 1) },
      { op := .call 52 [(true, .loc 4), (false, .loc 5)] [] },
      { op := .mv (.loc 6) }], sets := [(1, 7)], ghosts := [.untake 1] }
def slaws_markEndpointS_r4 : Reg :=
  { id := 5, fresh := [2], ops := [{ op := .mv (.slot 0) },
      { op := .mv (.slot 3) },
      { op := .indexAddr 4 (.loc 0) (.loc 1) },
      { op := .fieldAddr (.loc 2) 1 },
      { op := .take 2 (.loc 3) },
      { op := .mv (.slot 1) },
      { op := .call 52 [(true, .loc 4), (false, .loc 5)] [] },
      { op := .mv (.loc 6) }], sets := [(1, 7)], ghosts := [.untake 2] }
def slaws_markEndpointS_r5 : Reg :=
  { id := 6, fresh := [3], ops := [{ op := .mv (.slot 0) },
      { op := .mv (.slot 3) },
      { op := .indexAddr 4 (.loc 0) (.loc 1) },
      { op := .fieldAddr (.loc 2) 2 },
      { op := .take 3 (.loc 3) },
      { op := .mv (.slot 1) },
      { op := .call 137 [(true, .loc 4), (false, .loc 5)] [] },
      { op := .mv (.loc 6) }], sets := [(1, 7)], ghosts := [.untake 3] }
def slaws_markEndpointS_r6 : Reg :=
  { id := 7, ops := [{ op := .mv (.slot 0) },
      { op := .mv (.slot 3) },
      { op := .mv (.slot 1) },
      { op := .indexAddr 4 (.loc 0) (.loc 1) },
      { op := .fieldAddr (.loc 3) 3 },
      { op := .store 1 (.loc 4) (.loc 2) }] }
def slaws_markEndpointS_r7 : Reg :=
  { id := 8, ops := [{ op := .mv (.slot 1) },
      { op := .bin .add (.loc 0) (.con (.sc (.int .i64 1))) },
      { op := .mv (.loc 1) }], sets := [(1, 2)] }
def slaws_markEndpointS_r8 : Reg :=
  { id := 3, ops := [{ op := .mv (.slot 3) },
      { op := .bin .add (.loc 0) (.con (.sc (.int .i64 1))) },
      { op := .mv (.loc 1) }], sets := [(3, 2)] }
def slaws_markEndpointS_r9 : Reg :=
  { id := 9, ops := [{ op := .mv (.slot 1) },
      { op := .mv (.loc 0) }], sets := [(2, 1)], clr := [0, 1, 3] }
def slaws_markEndpointS_b : SC := .seq (.reg slaws_markEndpointS_r0) (.seq (.seq (.reg slaws_markEndpointS_r1) (.block 0 (.loop (.seq (.seq (.reg slaws_markEndpointS_r2) (.cond 4 (.skip) (.exit 0))) (.seq (.block 1 (.seq (.reg slaws_markEndpointS_r3) (.seq (.reg slaws_markEndpointS_r4) (.seq (.reg slaws_markEndpointS_r5) (.seq (.reg slaws_markEndpointS_r6) (.reg slaws_markEndpointS_r7)))))) (.reg slaws_markEndpointS_r8)))))) (.seq (.reg slaws_markEndpointS_r9) (.ret)))
def slaws_markEndpointS : SFn := { nslots := 5, nobjs := 4, params := [0, 1], ngiven := 1, bor := false, takes := [1, 2, 3], body := slaws_markEndpointS_b, results := [.slot 2] }
def slaws_markEndpointS_t : List Tmp := [0, 1, 4, 5, 9]
attribute [simp] slaws_markEndpointS_r0 slaws_markEndpointS_r1 slaws_markEndpointS_r2 slaws_markEndpointS_r3 slaws_markEndpointS_r4 slaws_markEndpointS_r5 slaws_markEndpointS_r6 slaws_markEndpointS_r7 slaws_markEndpointS_r8 slaws_markEndpointS_r9 slaws_markEndpointS_b slaws_markEndpointS
def slaws_heldEndpointS_r0 : Reg :=
  { id := 0, ops := [{ op := .mv (.con (.sc (.int .i64 0))) }], clr := [2] }
def slaws_heldEndpointS_r1 : Reg :=
  { id := 1, ops := [{ op := .mv (.con (.sc (.int .i64 0))) }], sets := [(3, 0)] }
def slaws_heldEndpointS_r2 : Reg :=
  { id := 2, ops := [{ op := .mv (.slot 3) },
      { op := .mv (.slot 0) },
      { op := .len false (.loc 1) },
      { op := .bin .lss (.loc 0) (.loc 2) }], sets := [(4, 3)] }
def slaws_heldEndpointS_r3 : Reg :=
  { id := 4, ops := [{ op := .mv (.slot 0) },
      { op := .mv (.slot 3) },
      { op := .indexAddr 4 (.loc 0) (.loc 1) },
      { op := .fieldAddr (.loc 2) 0 },
      { op := .load none (.loc 3) },
      { op := .mv (.slot 1) },
      { op := .call 57 [(false, .loc 4), (false, .loc 5)] [] },
      { op := .mv (.loc 6) }], sets := [(1, 7)] }
def slaws_heldEndpointS_r4 : Reg :=
  { id := 5, ops := [{ op := .mv (.slot 1) },
      { op := .bin .lss (.loc 0) (.con (.sc (.int .i64 0))) }], sets := [(5, 1)] }
def slaws_heldEndpointS_r5 : Reg :=
  { id := 6, ops := [{ op := .mv (.con (.sc (.int .i64 (-1)))) }], sets := [(2, 0)], clr := [0, 1, 3] }
def slaws_heldEndpointS_r6 : Reg :=
  { id := 7, ops := [{ op := .mv (.slot 0) },
      { op := .mv (.slot 3) },
      { op := .indexAddr 4 (.loc 0) (.loc 1) },
      { op := .fieldAddr (.loc 2) 1 },
      { op := .load none (.loc 3) },
      { op := .mv (.slot 1) },
      { op := .call 57 [(false, .loc 4), (false, .loc 5)] [] },
      { op := .mv (.loc 6) }], sets := [(1, 7)] }
def slaws_heldEndpointS_r7 : Reg :=
  { id := 8, ops := [{ op := .mv (.slot 1) },
      { op := .bin .lss (.loc 0) (.con (.sc (.int .i64 0))) }], sets := [(6, 1)] }
def slaws_heldEndpointS_r8 : Reg :=
  { id := 9, ops := [{ op := .mv (.con (.sc (.int .i64 (-1)))) }], sets := [(2, 0)], clr := [0, 1, 3] }
def slaws_heldEndpointS_r9 : Reg :=
  { id := 10, ops := [{ op := .mv (.slot 0) },
      { op := .mv (.slot 3) },
      { op := .indexAddr 4 (.loc 0) (.loc 1) },
      { op := .fieldAddr (.loc 2) 2 },
      { op := .load none (.loc 3) },
      { op := .mv (.slot 1) },
      { op := .call 138 [(false, .loc 4), (false, .loc 5)] [] },
      { op := .mv (.loc 6) }], sets := [(1, 7)] }
def slaws_heldEndpointS_r10 : Reg :=
  { id := 11, ops := [{ op := .mv (.slot 1) },
      { op := .bin .lss (.loc 0) (.con (.sc (.int .i64 0))) }], sets := [(7, 1)] }
def slaws_heldEndpointS_r11 : Reg :=
  { id := 12, ops := [{ op := .mv (.con (.sc (.int .i64 (-1)))) }], sets := [(2, 0)], clr := [0, 1, 3] }
def slaws_heldEndpointS_r12 : Reg :=
  { id := 13, ops := [{ op := .mv (.slot 0) },
      { op := .mv (.slot 3) },
      { op := .indexAddr 4 (.loc 0) (.loc 1) },
      { op := .fieldAddr (.loc 2) 3 },
      { op := .load none (.loc 3) },
      { op := .mv (.slot 1) },
      { op := .bin .neq (.loc 4) (.loc 5) }], sets := [(8, 6)] }
def slaws_heldEndpointS_r13 : Reg :=
  { id := 14, ops := [{ op := .mv (.con (.sc (.int .i64 (-1)))) }], sets := [(2, 0)], clr := [0, 1, 3] }
def slaws_heldEndpointS_r14 : Reg :=
  { id := 15, ops := [{ op := .mv (.slot 1) },
      { op := .bin .add (.loc 0) (.con (.sc (.int .i64 1))) },
      { op := .mv (.loc 1) }], sets := [(1, 2)] }
def slaws_heldEndpointS_r15 : Reg :=
  { id := 3, ops := [{ op := .mv (.slot 3) },
      { op := .bin .add (.loc 0) (.con (.sc (.int .i64 1))) },
      { op := .mv (.loc 1) }], sets := [(3, 2)] }
def slaws_heldEndpointS_r16 : Reg :=
  { id := 16, ops := [{ op := .mv (.slot 1) },
      { op := .mv (.loc 0) }], sets := [(2, 1)], clr := [0, 1, 3] }
def slaws_heldEndpointS_b : SC := .seq (.reg slaws_heldEndpointS_r0) (.seq (.seq (.reg slaws_heldEndpointS_r1) (.block 0 (.loop (.seq (.seq (.reg slaws_heldEndpointS_r2) (.cond 4 (.skip) (.exit 0))) (.seq (.block 1 (.seq (.reg slaws_heldEndpointS_r3) (.seq (.seq (.reg slaws_heldEndpointS_r4) (.cond 5 (.seq (.reg slaws_heldEndpointS_r5) (.ret)) (.skip))) (.seq (.reg slaws_heldEndpointS_r6) (.seq (.seq (.reg slaws_heldEndpointS_r7) (.cond 6 (.seq (.reg slaws_heldEndpointS_r8) (.ret)) (.skip))) (.seq (.reg slaws_heldEndpointS_r9) (.seq (.seq (.reg slaws_heldEndpointS_r10) (.cond 7 (.seq (.reg slaws_heldEndpointS_r11) (.ret)) (.skip))) (.seq (.seq (.reg slaws_heldEndpointS_r12) (.cond 8 (.seq (.reg slaws_heldEndpointS_r13) (.ret)) (.skip))) (.reg slaws_heldEndpointS_r14))))))))) (.reg slaws_heldEndpointS_r15)))))) (.seq (.reg slaws_heldEndpointS_r16) (.ret)))
def slaws_heldEndpointS : SFn := { nslots := 9, nobjs := 0, params := [0, 1], ngiven := 0, bor := false, takes := [], body := slaws_heldEndpointS_b, results := [.slot 2] }
def slaws_heldEndpointS_t : List Tmp := [0, 1, 4, 5, 9, 20, 29, 38, 45]
attribute [simp] slaws_heldEndpointS_r0 slaws_heldEndpointS_r1 slaws_heldEndpointS_r2 slaws_heldEndpointS_r3 slaws_heldEndpointS_r4 slaws_heldEndpointS_r5 slaws_heldEndpointS_r6 slaws_heldEndpointS_r7 slaws_heldEndpointS_r8 slaws_heldEndpointS_r9 slaws_heldEndpointS_r10 slaws_heldEndpointS_r11 slaws_heldEndpointS_r12 slaws_heldEndpointS_r13 slaws_heldEndpointS_r14 slaws_heldEndpointS_r15 slaws_heldEndpointS_r16 slaws_heldEndpointS_b slaws_heldEndpointS
def sspec_l1In_r0 : Reg :=
  { id := 0, ops := [{ op := .mv (.con (.sc (.bool false))) }], clr := [3] }
def sspec_l1In_r1 : Reg :=
  { id := 1, ops := [{ op := .mv (.slot 0) },
      { op := .mv (.slot 1) },
      { op := .bin .geq (.loc 0) (.loc 1) },
      { op := .mv (.loc 2) },
      { op := .mv (.slot 0), guard := some (3, true) },
      { op := .mv (.slot 2), guard := some (3, true) },
      { op := .bin .leq (.loc 4) (.loc 5), guard := some (3, true) },
      { op := .pick (.loc 3) (.loc 6) (.con (.sc (.bool false))) },
      { op := .mv (.loc 7) }], sets := [(3, 8)], clr := [0, 1, 2] }
def sspec_l1In_b : SC := .seq (.reg sspec_l1In_r0) (.seq (.reg sspec_l1In_r1) (.ret))
def sspec_l1In : SFn := { nslots := 4, nobjs := 0, params := [0, 1, 2], ngiven := 0, bor := false, takes := [], body := sspec_l1In_b, results := [.slot 3] }
def sspec_l1In_t : List Tmp := [0, 1, 2, 6]
attribute [simp] sspec_l1In_r0 sspec_l1In_r1 sspec_l1In_b sspec_l1In
def simpl_InRange_r0 : Reg :=
  { id := 0, ops := [{ op := .mv (.con (.sc (.bool false))) }], clr := [3] }
def simpl_InRange_r1 : Reg :=
  { id := 1, ops := [{ op := .mv (.slot 1) },
      { op := .mv (.slot 0) },
      { op := .bin .leq (.loc 0) (.loc 1) },
      { op := .mv (.loc 2) },
      { op := .mv (.slot 0), guard := some (3, true) },
      { op := .mv (.slot 2), guard := some (3, true) },
      { op := .bin .leq (.loc 4) (.loc 5), guard := some (3, true) },
      { op := .pick (.loc 3) (.loc 6) (.con (.sc (.bool false))) },
      { op := .mv (.loc 7) }], sets := [(3, 8)], clr := [0, 1, 2] }
def simpl_InRange_b : SC := .seq (.reg simpl_InRange_r0) (.seq (.reg simpl_InRange_r1) (.ret))
def simpl_InRange : SFn := { nslots := 4, nobjs := 0, params := [0, 1, 2], ngiven := 0, bor := false, takes := [], body := simpl_InRange_b, results := [.slot 3] }
def simpl_InRange_t : List Tmp := [0, 1, 2, 6]
attribute [simp] simpl_InRange_r0 simpl_InRange_r1 simpl_InRange_b simpl_InRange
def slaws_szDeal_r0 : Reg :=
  { id := 0, ops := [{ op := .box 0 (.slot 0) },
      { op := .mv (.con (.sc (.int .i64 0))) }], sets := [(2, 0)], clr := [0, 3] }
def slaws_szDeal_r1 : Reg :=
  { id := 1, ops := [{ op := .fieldAddr (.slot 2) 2 },
      { op := .load none (.loc 0) },
      { op := .mv (.slot 1) },
      { op := .call 16 [(false, .loc 1), (false, .loc 2)] [] },
      { op := .mv (.loc 3) }], sets := [(1, 4)], clr := [2] }
def slaws_szDeal_r2 : Reg :=
  { id := 2, ops := [{ op := .mv (.slot 1) },
      { op := .bin .lss (.loc 0) (.con (.sc (.int .i64 0))) }], sets := [(4, 1)] }
def slaws_szDeal_r3 : Reg :=
  { id := 3, ops := [{ op := .mv (.con (.sc (.int .i64 (-1)))) }], sets := [(3, 0)], clr := [1] }
def slaws_szDeal_r4 : Reg :=
  { id := 4, ops := [{ op := .mv (.slot 1) },
      { op := .mv (.loc 0) }], sets := [(3, 1)], clr := [1] }
def slaws_szDeal_b : SC := .seq (.reg slaws_szDeal_r0) (.seq (.reg slaws_szDeal_r1) (.seq (.seq (.reg slaws_szDeal_r2) (.cond 4 (.seq (.reg slaws_szDeal_r3) (.ret)) (.skip))) (.seq (.reg slaws_szDeal_r4) (.ret))))
def slaws_szDeal : SFn := { nslots := 5, nobjs := 1, params := [0, 1], ngiven := 0, bor := false, takes := [], body := slaws_szDeal_b, results := [.slot 3] }
def slaws_szDeal_t : List Tmp := [0, 1, 2, 4, 10]
attribute [simp] slaws_szDeal_r0 slaws_szDeal_r1 slaws_szDeal_r2 slaws_szDeal_r3 slaws_szDeal_r4 slaws_szDeal_b slaws_szDeal
def slaws_szIntS_r0 : Reg :=
  { id := 0, ops := [{ op := .mv (.con (.sc (.int .i64 0))) }], clr := [2] }
def slaws_szIntS_r1 : Reg :=
  { id := 1, ops := [{ op := .mv (.slot 1) },
      { op := .mv (.slot 0) },
      { op := .len false (.loc 1) },
      { op := .bin .sub (.loc 0) (.loc 2) },
      { op := .mv (.loc 3) }], sets := [(1, 4)], clr := [0] }
def slaws_szIntS_r2 : Reg :=
  { id := 2, ops := [{ op := .mv (.slot 1) },
      { op := .bin .lss (.loc 0) (.con (.sc (.int .i64 0))) }], sets := [(3, 1)] }
def slaws_szIntS_r3 : Reg :=
  { id := 3, ops := [{ op := .mv (.con (.sc (.int .i64 (-1)))) }], sets := [(2, 0)], clr := [1] }
def slaws_szIntS_r4 : Reg :=
  { id := 4, ops := [{ op := .mv (.slot 1) },
      { op := .mv (.loc 0) }], sets := [(2, 1)], clr := [1] }
def slaws_szIntS_b : SC := .seq (.reg slaws_szIntS_r0) (.seq (.reg slaws_szIntS_r1) (.seq (.seq (.reg slaws_szIntS_r2) (.cond 3 (.seq (.reg slaws_szIntS_r3) (.ret)) (.skip))) (.seq (.reg slaws_szIntS_r4) (.ret))))
def slaws_szIntS : SFn := { nslots := 4, nobjs := 0, params := [0, 1], ngiven := 0, bor := false, takes := [], body := slaws_szIntS_b, results := [.slot 2] }
def slaws_szIntS_t : List Tmp := [0, 1, 4, 10]
attribute [simp] slaws_szIntS_r0 slaws_szIntS_r1 slaws_szIntS_r2 slaws_szIntS_r3 slaws_szIntS_r4 slaws_szIntS_b slaws_szIntS
def slaws_toDeal_r0 : Reg :=
  { id := 0, ops := [{ op := .box 0 (.slot 0) },
      { op := .alloc 1 [.sc (.bool false), .sc (.int .i64 0), .nil 1] }], sets := [(1, 0), (2, 1)], clr := [0] }
def slaws_toDeal_r1 : Reg :=
  { id := 1, ops := [{ op := .alloc 2 [.sc (.bool false), .sc (.int .i64 0), .nil 1] }], sets := [(3, 0)] }
def slaws_toDeal_r2 : Reg :=
  { id := 2, ops := [{ op := .fieldAddr (.slot 1) 0 },
      { op := .load none (.loc 0) },
      { op := .fieldAddr (.slot 3) 0 },
      { op := .store 1 (.loc 2) (.loc 1) }] }
def slaws_toDeal_r3 : Reg :=
  { id := 3, ops := [{ op := .fieldAddr (.slot 1) 1 },
      { op := .load none (.loc 0) },
      { op := .fieldAddr (.slot 3) 1 },
      { op := .store 1 (.loc 2) (.loc 1) }] }
def slaws_toDeal_r4 : Reg :=
  { id := 4, ops := [{ op := .fieldAddr (.slot 1) 2 },
      { op := .load none (.loc 0) },
      { op := .call 31 [(false, .loc 1)] [3] },
      { op := .fieldAddr (.slot 3) 2 },
      { op := .store 1 (.loc 3) (.loc 2) }], clr := [1] }
def slaws_toDeal_r5 : Reg :=
  { id := 5, ops := [{ op := .load (some 3) (.slot 3) },
      { op := .store 3 (.slot 2) (.loc 0) }], clr := [3] }
def slaws_toDeal_b : SC := .seq (.reg slaws_toDeal_r0) (.seq (.reg slaws_toDeal_r1) (.seq (.reg slaws_toDeal_r2) (.seq (.reg slaws_toDeal_r3) (.seq (.reg slaws_toDeal_r4) (.seq (.reg slaws_toDeal_r5) (.ret))))))
def slaws_toDeal : SFn := { nslots := 4, nobjs := 4, params := [0], ngiven := 0, bor := false, takes := [], body := slaws_toDeal_b, results := [.cell 2 (some 3)] }
def slaws_toDeal_t : List Tmp := [0, 1, 2, 3]
attribute [simp] slaws_toDeal_r0 slaws_toDeal_r1 slaws_toDeal_r2 slaws_toDeal_r3 slaws_toDeal_r4 slaws_toDeal_r5 slaws_toDeal_b slaws_toDeal
def slaws_toIntS_r0 : Reg :=
  { id := 0, ops := [{ op := .mv (.con (.nil 1)) }], clr := [1] }
def slaws_toIntS_r1 : Reg :=
  { id := 1, ops := [{ op := .mv (.slot 0) },
      { op := .len false (.loc 0) },
      { op := .makeSlice 0 1 8 [.sc (.int .i64 0)] (.loc 1) },
      { op := .mv (.loc 2) }], sets := [(2, 3)] }
def slaws_toIntS_r2 : Reg :=
  { id := 2, ops := [{ op := .mv (.con (.sc (.int .i64 0))) }], sets := [(3, 0)] }
def slaws_toIntS_r3 : Reg :=
  { id := 3, ops := [{ op := .mv (.slot 3) },
      { op := .mv (.slot 0) },
      { op := .len false (.loc 1) },
      { op := .bin .lss (.loc 0) (.loc 2) }], sets := [(4, 3)] }
def slaws_toIntS_r4 : Reg :=
  { id := 5, ops := [{ op := .mv (.slot 2) },
      { op := .mv (.slot 3) },
      { op := .mv (.slot 0) },
      { op := .mv (.slot 3) },
      { op := .indexAddr 1 (.loc 2) (.loc 3) },
      { op := .load none (.loc 4) },
      { op := .indexAddr 1 (.loc 0) (.loc 1) },
      { op := .store 1 (.loc 6) (.loc 5) }] }
def slaws_toIntS_r5 : Reg :=
  { id := 4, ops := [{ op := .mv (.slot 3) },
      { op := .bin .add (.loc 0) (.con (.sc (.int .i64 1))) },
      { op := .mv (.loc 1) }], sets := [(3, 2)] }
def slaws_toIntS_r6 : Reg :=
  { id := 6, ops := [{ op := .mv (.slot 2) },
      { op := .mv (.loc 0) }], sets := [(1, 1)], clr := [0, 2, 3] }
def slaws_toIntS_b : SC := .seq (.reg slaws_toIntS_r0) (.seq (.reg slaws_toIntS_r1) (.seq (.seq (.reg slaws_toIntS_r2) (.block 0 (.loop (.seq (.seq (.reg slaws_toIntS_r3) (.cond 4 (.skip) (.exit 0))) (.seq (.block 1 (.reg slaws_toIntS_r4)) (.reg slaws_toIntS_r5)))))) (.seq (.reg slaws_toIntS_r6) (.ret))))
def slaws_toIntS : SFn := { nslots := 5, nobjs := 1, params := [0], ngiven := 0, bor := false, takes := [], body := slaws_toIntS_b, results := [.slot 1] }
def slaws_toIntS_t : List Tmp := [0, 2, 3, 4, 11]
attribute [simp] slaws_toIntS_r0 slaws_toIntS_r1 slaws_toIntS_r2 slaws_toIntS_r3 slaws_toIntS_r4 slaws_toIntS_r5 slaws_toIntS_r6 slaws_toIntS_b slaws_toIntS
def slaws_eqDeal_r0 : Reg :=
  { id := 0, ops := [{ op := .box 0 (.slot 0) },
      { op := .box 1 (.slot 1) },
      { op := .mv (.con (.sc (.bool false))) }], sets := [(2, 0), (3, 1)], clr := [0, 1, 4] }
def slaws_eqDeal_r1 : Reg :=
  { id := 1, ops := [{ op := .fieldAddr (.slot 2) 0 },
      { op := .load none (.loc 0) },
      { op := .fieldAddr (.slot 3) 0 },
      { op := .load none (.loc 2) },
      { op := .beq true (.loc 1) (.loc 3) }], sets := [(5, 4)] }
def slaws_eqDeal_r2 : Reg :=
  { id := 2, ops := [{ op := .mv (.con (.sc (.bool false))) }], sets := [(4, 0)], clr := [2, 3] }
def slaws_eqDeal_r3 : Reg :=
  { id := 3, ops := [{ op := .fieldAddr (.slot 2) 1 },
      { op := .load none (.loc 0) },
      { op := .fieldAddr (.slot 3) 1 },
      { op := .load none (.loc 2) },
      { op := .bin .neq (.loc 1) (.loc 3) }], sets := [(6, 4)] }
def slaws_eqDeal_r4 : Reg :=
  { id := 4, ops := [{ op := .mv (.con (.sc (.bool false))) }], sets := [(4, 0)], clr := [2, 3] }
def slaws_eqDeal_r5 : Reg :=
  { id := 5, ops := [{ op := .fieldAddr (.slot 2) 2 },
      { op := .load none (.loc 0) },
      { op := .fieldAddr (.slot 3) 2 },
      { op := .load none (.loc 2) },
      { op := .call 47 [(false, .loc 1), (false, .loc 3)] [] },
      { op := .un .not (.loc 4) }], sets := [(7, 5)], clr := [2, 3] }
def slaws_eqDeal_r6 : Reg :=
  { id := 6, ops := [{ op := .mv (.con (.sc (.bool false))) }], sets := [(4, 0)] }
def slaws_eqDeal_r7 : Reg :=
  { id := 7, ops := [{ op := .mv (.con (.sc (.bool true))) }], sets := [(4, 0)] }
def slaws_eqDeal_b : SC := .seq (.reg slaws_eqDeal_r0) (.seq (.seq (.reg slaws_eqDeal_r1) (.cond 5 (.seq (.reg slaws_eqDeal_r2) (.ret)) (.skip))) (.seq (.seq (.reg slaws_eqDeal_r3) (.cond 6 (.seq (.reg slaws_eqDeal_r4) (.ret)) (.skip))) (.seq (.seq (.reg slaws_eqDeal_r5) (.cond 7 (.seq (.reg slaws_eqDeal_r6) (.ret)) (.skip))) (.seq (.reg slaws_eqDeal_r7) (.ret)))))
def slaws_eqDeal : SFn := { nslots := 8, nobjs := 2, params := [0, 1], ngiven := 0, bor := false, takes := [], body := slaws_eqDeal_b, results := [.slot 4] }
def slaws_eqDeal_t : List Tmp := [0, 1, 2, 3, 4, 9, 14, 20]
attribute [simp] slaws_eqDeal_r0 slaws_eqDeal_r1 slaws_eqDeal_r2 slaws_eqDeal_r3 slaws_eqDeal_r4 slaws_eqDeal_r5 slaws_eqDeal_r6 slaws_eqDeal_r7 slaws_eqDeal_b slaws_eqDeal
def slaws_eqIntS_r0 : Reg :=
  { id := 0, ops := [{ op := .mv (.con (.sc (.bool false))) }], clr := [2] }
def slaws_eqIntS_r1 : Reg :=
  { id := 1, ops := [{ op := .mv (.slot 0) },
      { op := .len false (.loc 0) },
      { op := .mv (.slot 1) },
      { op := .len false (.loc 2) },
      { op := .bin .neq (.loc 1) (.loc 3) }], sets := [(4, 4)] }
def slaws_eqIntS_r2 : Reg :=
  { id := 2, ops := [{ op := .mv (.con (.sc (.bool false))) }], sets := [(2, 0)], clr := [0, 1] }
def slaws_eqIntS_r3 : Reg :=
  { id := 3, ops := [{ op := .mv (.con (.sc (.int .i64 0))) }], sets := [(3, 0)] }
def slaws_eqIntS_r4 : Reg :=
  { id := 4, ops := [{ op := .mv (.slot 3) },
      { op := .mv (.slot 0) },
      { op := .len false (.loc 1) },
      { op := .bin .lss (.loc 0) (.loc 2) }], sets := [(5, 3)] }
def slaws_eqIntS_r5 : Reg :=
  { id := 6, draw := true, ops := [{ op := .mv (.slot 0), tau := some [], om := [] },
      { op := .mv (.slot 3), tau := some [], om := [] },
      { op := .indexAddr 1 (.loc 0) (.loc 1), tau := some [], om := [] },
      { op := .load none (.loc 2), tau := some [], om := [] },
      { op := .mv (.slot 1), tau := some [], om := [] },
      { op := .mv (.slot 3), tau := some [], om := [] },
      { op := .indexAddr 1 (.loc 4) (.loc 5), tau := some [], om := [] },
      { op := .load none (.loc 6), tau := some [], om := [] },
      { op := .bin .neq (.loc 3) (.loc 7), tau := some [], om := [] }], sets := [(6, 8)] }
def slaws_eqIntS_r6 : Reg :=
  { id := 7, ops := [{ op := .mv (.con (.sc (.bool false))) }], sets := [(2, 0)], clr := [0, 1, 3] }
def slaws_eqIntS_r7 : Reg :=
  { id := 5, ops := [{ op := .mv (.slot 3) },
      { op := .bin .add (.loc 0) (.con (.sc (.int .i64 1))) },
      { op := .mv (.loc 1) }], sets := [(3, 2)] }
def slaws_eqIntS_r8 : Reg :=
  { id := 8, ops := [{ op := .mv (.con (.sc (.bool true))) }], sets := [(2, 0)], clr := [0, 1, 3] }
def slaws_eqIntS_b : SC := .seq (.reg slaws_eqIntS_r0) (.seq (.seq (.reg slaws_eqIntS_r1) (.cond 4 (.seq (.reg slaws_eqIntS_r2) (.ret)) (.skip))) (.seq (.seq (.reg slaws_eqIntS_r3) (.block 0 (.loop (.seq (.seq (.reg slaws_eqIntS_r4) (.cond 5 (.skip) (.exit 0))) (.seq (.block 1 (.seq (.reg slaws_eqIntS_r5) (.cond 6 (.seq (.reg slaws_eqIntS_r6) (.ret)) (.skip)))) (.reg slaws_eqIntS_r7)))))) (.seq (.reg slaws_eqIntS_r8) (.ret))))
def slaws_eqIntS : SFn := { nslots := 7, nobjs := 0, params := [0, 1], ngiven := 0, bor := false, takes := [], body := slaws_eqIntS_b, results := [.slot 2] }
def slaws_eqIntS_t : List Tmp := [0, 1, 4, 5, 10, 14, 25]
attribute [simp] slaws_eqIntS_r0 slaws_eqIntS_r1 slaws_eqIntS_r2 slaws_eqIntS_r3 slaws_eqIntS_r4 slaws_eqIntS_r5 slaws_eqIntS_r6 slaws_eqIntS_r7 slaws_eqIntS_r8 slaws_eqIntS_b slaws_eqIntS
def slaws_eqEndpoint_r0 : Reg :=
  { id := 0, ops := [{ op := .box 0 (.slot 0) },
      { op := .box 1 (.slot 1) },
      { op := .mv (.con (.sc (.bool false))) }], sets := [(2, 0), (3, 1)], clr := [0, 1, 4] }
def slaws_eqEndpoint_r1 : Reg :=
  { id := 1, ops := [{ op := .fieldAddr (.slot 2) 0 },
      { op := .load none (.loc 0) },
      { op := .fieldAddr (.slot 3) 0 },
      { op := .load none (.loc 2) },
      { op := .call 47 [(false, .loc 1), (false, .loc 3)] [] },
      { op := .un .not (.loc 4) }], sets := [(5, 5)] }
def slaws_eqEndpoint_r2 : Reg :=
  { id := 2, ops := [{ op := .mv (.con (.sc (.bool false))) }], sets := [(4, 0)], clr := [2, 3] }
def slaws_eqEndpoint_r3 : Reg :=
  { id := 3, ops := [{ op := .fieldAddr (.slot 2) 1 },
      { op := .load none (.loc 0) },
      { op := .fieldAddr (.slot 3) 1 },
      { op := .load none (.loc 2) },
      { op := .call 47 [(false, .loc 1), (false, .loc 3)] [] },
      { op := .un .not (.loc 4) }], sets := [(6, 5)] }
def slaws_eqEndpoint_r4 : Reg :=
  { id := 4, ops := [{ op := .mv (.con (.sc (.bool false))) }], sets := [(4, 0)], clr := [2, 3] }
def slaws_eqEndpoint_r5 : Reg :=
  { id := 5, ops := [{ op := .fieldAddr (.slot 2) 2 },
      { op := .load none (.loc 0) },
      { op := .fieldAddr (.slot 3) 2 },
      { op := .load none (.loc 2) },
      { op := .call 204 [(false, .loc 1), (false, .loc 3)] [] },
      { op := .un .not (.loc 4) }], sets := [(7, 5)] }
def slaws_eqEndpoint_r6 : Reg :=
  { id := 6, ops := [{ op := .mv (.con (.sc (.bool false))) }], sets := [(4, 0)], clr := [2, 3] }
def slaws_eqEndpoint_r7 : Reg :=
  { id := 7, ops := [{ op := .fieldAddr (.slot 2) 3 },
      { op := .load none (.loc 0) },
      { op := .fieldAddr (.slot 3) 3 },
      { op := .load none (.loc 2) },
      { op := .bin .neq (.loc 1) (.loc 3) }], sets := [(8, 4)], clr := [2, 3] }
def slaws_eqEndpoint_r8 : Reg :=
  { id := 8, ops := [{ op := .mv (.con (.sc (.bool false))) }], sets := [(4, 0)] }
def slaws_eqEndpoint_r9 : Reg :=
  { id := 9, ops := [{ op := .mv (.con (.sc (.bool true))) }], sets := [(4, 0)] }
def slaws_eqEndpoint_b : SC := .seq (.reg slaws_eqEndpoint_r0) (.seq (.seq (.reg slaws_eqEndpoint_r1) (.cond 5 (.seq (.reg slaws_eqEndpoint_r2) (.ret)) (.skip))) (.seq (.seq (.reg slaws_eqEndpoint_r3) (.cond 6 (.seq (.reg slaws_eqEndpoint_r4) (.ret)) (.skip))) (.seq (.seq (.reg slaws_eqEndpoint_r5) (.cond 7 (.seq (.reg slaws_eqEndpoint_r6) (.ret)) (.skip))) (.seq (.seq (.reg slaws_eqEndpoint_r7) (.cond 8 (.seq (.reg slaws_eqEndpoint_r8) (.ret)) (.skip))) (.seq (.reg slaws_eqEndpoint_r9) (.ret))))))
def slaws_eqEndpoint : SFn := { nslots := 9, nobjs := 2, params := [0, 1], ngiven := 0, bor := false, takes := [], body := slaws_eqEndpoint_b, results := [.slot 4] }
def slaws_eqEndpoint_t : List Tmp := [0, 1, 2, 3, 4, 10, 16, 22, 27]
attribute [simp] slaws_eqEndpoint_r0 slaws_eqEndpoint_r1 slaws_eqEndpoint_r2 slaws_eqEndpoint_r3 slaws_eqEndpoint_r4 slaws_eqEndpoint_r5 slaws_eqEndpoint_r6 slaws_eqEndpoint_r7 slaws_eqEndpoint_r8 slaws_eqEndpoint_r9 slaws_eqEndpoint_b slaws_eqEndpoint
def slaws_markIntS_r0 : Reg :=
  { id := 0, ops := [{ op := .mv (.con (.sc (.int .i64 0))) }], clr := [2] }
def slaws_markIntS_r1 : Reg :=
  { id := 1, ops := [{ op := .mv (.con (.sc (.int .i64 0))) }], sets := [(3, 0)] }
def slaws_markIntS_r2 : Reg :=
  { id := 2, ops := [{ op := .mv (.slot 3) },
      { op := .mv (.slot 0) },
      { op := .len false (.loc 1) },
      { op := .bin .lss (.loc 0) (.loc 2) }], sets := [(4, 3)] }
def slaws_markIntS_r3 : Reg :=
  { id := 4, ops := [{ op := .mv (.slot 0) },
      { op := .mv (.slot 3) },
      { op := .mv (.slot 1) },
      { op := .indexAddr 1 (.loc 0) (.loc 1) },
      { op := .store 1 (.loc 3) (.loc 2) }] }
def slaws_markIntS_r4 : Reg :=
  { id := 5, ops := [{ op := .mv (.slot 1) },
      { op := .bin .add (.loc 0) (.con (.sc (.int .i64 1))) },
      { op := .mv (.loc 1) }], sets := [(1, 2)] }
def slaws_markIntS_r5 : Reg :=
  { id := 3, ops := [{ op := .mv (.slot 3) },
      { op := .bin .add (.loc 0) (.con (.sc (.int .i64 1))) },
      { op := .mv (.loc 1) }], sets := [(3, 2)] }
def slaws_markIntS_r6 : Reg :=
  { id := 6, ops := [{ op := .mv (.slot 1) },
      { op := .mv (.loc 0) }], sets := [(2, 1)], clr := [0, 1, 3] }
def slaws_markIntS_b : SC := .seq (.reg slaws_markIntS_r0) (.seq (.seq (.reg slaws_markIntS_r1) (.block 0 (.loop (.seq (.seq (.reg slaws_markIntS_r2) (.cond 4 (.skip) (.exit 0))) (.seq (.block 1 (.seq (.reg slaws_markIntS_r3) (.reg slaws_markIntS_r4))) (.reg slaws_markIntS_r5)))))) (.seq (.reg slaws_markIntS_r6) (.ret)))
def slaws_markIntS : SFn := { nslots := 5, nobjs := 1, params := [0, 1], ngiven := 1, bor := false, takes := [], body := slaws_markIntS_b, results := [.slot 2] }
def slaws_markIntS_t : List Tmp := [0, 1, 4, 5, 9]
attribute [simp] slaws_markIntS_r0 slaws_markIntS_r1 slaws_markIntS_r2 slaws_markIntS_r3 slaws_markIntS_r4 slaws_markIntS_r5 slaws_markIntS_r6 slaws_markIntS_b slaws_markIntS
def slaws_markBoxS_r0 : Reg :=
  { id := 0, ops := [{ op := .mv (.con (.sc (.int .i64 0))) }], clr := [2] }
def slaws_markBoxS_r1 : Reg :=
  { id := 1, ops := [{ op := .mv (.con (.sc (.int .i64 0))) }], sets := [(3, 0)] }
def slaws_markBoxS_r2 : Reg :=
  { id := 2, ops := [{ op := .mv (.slot 3) },
      { op := .mv (.slot 0) },
      { op := .len false (.loc 1) },
      { op := .bin .lss (.loc 0) (.loc 2) }], sets := [(4, 3)] }
def slaws_markBoxS_r3 : Reg :=
  { id := 4, ops := [{ op := .mv (.slot 0) },
      { op := .mv (.slot 3) },
      { op := .mv (.slot 1) },
      { op := .indexAddr 4 (.loc 0) (.loc 1) },
      { op := .fieldAddr (.loc 3) 0 },
      { op := .store 1 (.loc 4) (.loc 2) }] }
def slaws_markBoxS_r4 : Reg :=
  { id := 5, ops := [{ op := .mv (.slot 1) },
      { op := .bin .add (.loc 0) (.con (.sc (.int .i64 1))) },
      { op := .mv (.loc 1) }], sets := [(1, 2)] }
def slaws_markBoxS_r5 : Reg :=
  { id := 6, fresh := [1], ops := [{ op := .mv (.slot 0) },
      { op := .mv (.slot 3) },
      { op := .indexAddr 4 (.loc 0) (.loc 1) },
      { op := .fieldAddr (.loc 2) 1 },
      { op := .take 1 (.loc 3) },
      { op := .mv (.slot 1) },
      { op := .call 52 [(true, .loc 4), (false, .loc 5)] [] },
      { op := .mv (.loc 6) }], sets := [(1, 7)], ghosts := [.untake 1] }
def slaws_markBoxS_r6 : Reg :=
  { id := 7, fresh := [2], ops := [{ op := .mv (.slot 0) },
      { op := .mv (.slot 3) },
      { op := .indexAddr 4 (.loc 0) (.loc 1) },
      { op := .fieldAddr (.loc 2) 2 },
      { op := .take 2 (.loc 3) },
      { op := .mv (.slot 1) },
      { op := .call 52 [(true, .loc 4), (false, .loc 5)] [] },
      { op := .mv (.loc 6) }], sets := [(1, 7)], ghosts := [.untake 2] }
def slaws_markBoxS_r7 : Reg :=
  { id := 8, ops := [{ op := .mv (.slot 0) },
      { op := .mv (.slot 3) },
      { op := .mv (.slot 1) },
      { op := .bin .rem (.loc 2) (.con (.sc (.int .i64 3))) },
      { op := .bin .eql (.loc 3) (.con (.sc (.int .i64 0))) },
      { op := .indexAddr 4 (.loc 0) (.loc 1) },
      { op := .fieldAddr (.loc 5) 3 },
      { op := .store 1 (.loc 6) (.loc 4) }] }
def slaws_markBoxS_r8 : Reg :=
  { id := 9, ops := [{ op := .mv (.slot 1) },
      { op := .bin .add (.loc 0) (.con (.sc (.int .i64 1))) },
      { op := .mv (.loc 1) }], sets := [(1, 2)] }
def slaws_markBoxS_r9 : Reg :=
  { id := 3, ops := [{ op := .mv (.slot 3) },
      { op := .bin .add (.loc 0) (.con (.sc (.int .i64 1))) },
      { op := .mv (.loc 1) }], sets := [(3, 2)] }
def slaws_markBoxS_r10 : Reg :=
  { id := 10, ops := [{ op := .mv (.slot 1) },
      { op := .mv (.loc 0) }], sets := [(2, 1)], clr := [0, 1, 3] }
def slaws_markBoxS_b : SC := .seq (.reg slaws_markBoxS_r0) (.seq (.seq (.reg slaws_markBoxS_r1) (.block 0 (.loop (.seq (.seq (.reg slaws_markBoxS_r2) (.cond 4 (.skip) (.exit 0))) (.seq (.block 1 (.seq (.reg slaws_markBoxS_r3) (.seq (.reg slaws_markBoxS_r4) (.seq (.reg slaws_markBoxS_r5) (.seq (.reg slaws_markBoxS_r6) (.seq (.reg slaws_markBoxS_r7) (.reg slaws_markBoxS_r8))))))) (.reg slaws_markBoxS_r9)))))) (.seq (.reg slaws_markBoxS_r10) (.ret)))
def slaws_markBoxS : SFn := { nslots := 5, nobjs := 3, params := [0, 1], ngiven := 1, bor := false, takes := [1, 2], body := slaws_markBoxS_b, results := [.slot 2] }
def slaws_markBoxS_t : List Tmp := [0, 1, 4, 5, 9]
attribute [simp] slaws_markBoxS_r0 slaws_markBoxS_r1 slaws_markBoxS_r2 slaws_markBoxS_r3 slaws_markBoxS_r4 slaws_markBoxS_r5 slaws_markBoxS_r6 slaws_markBoxS_r7 slaws_markBoxS_r8 slaws_markBoxS_r9 slaws_markBoxS_r10 slaws_markBoxS_b slaws_markBoxS
def slaws_heldIntS_r0 : Reg :=
  { id := 0, ops := [{ op := .mv (.con (.sc (.int .i64 0))) }], clr := [2] }
def slaws_heldIntS_r1 : Reg :=
  { id := 1, ops := [{ op := .mv (.con (.sc (.int .i64 0))) }], sets := [(3, 0)] }
def slaws_heldIntS_r2 : Reg :=
  { id := 2, ops := [{ op := .mv (.slot 3) },
      { op := .mv (.slot 0) },
      { op := .len false (.loc 1) },
      { op := .bin .lss (.loc 0) (.loc 2) }], sets := [(4, 3)] }
def slaws_heldIntS_r3 : Reg :=
  { id := 4, ops := [{ op := .mv (.slot 0) },
      { op := .mv (.slot 3) },
      { op := .indexAddr 1 (.loc 0) (.loc 1) },
      { op := .load none (.loc 2) },
      { op := .mv (.slot 1) },
      { op := .bin .neq (.loc 3) (.loc 4) }], sets := [(5, 5)] }
def slaws_heldIntS_r4 : Reg :=
  { id := 5, ops := [{ op := .mv (.con (.sc (.int .i64 (-1)))) }], sets := [(2, 0)], clr := [0, 1, 3] }
def slaws_heldIntS_r5 : Reg :=
  { id := 6, ops := [{ op := .mv (.slot 1) },
      { op := .bin .add (.loc 0) (.con (.sc (.int .i64 1))) },
      { op := .mv (.loc 1) }], sets := [(1, 2)] }
def slaws_heldIntS_r6 : Reg :=
  { id := 3, ops := [{ op := .mv (.slot 3) },
      { op := .bin .add (.loc 0) (.con (.sc (.int .i64 1))) },
      { op := .mv (.loc 1) }], sets := [(3, 2)] }
def slaws_heldIntS_r7 : Reg :=
  { id := 7, ops := [{ op := .mv (.slot 1) },
      { op := .mv (.loc 0) }], sets := [(2, 1)], clr := [0, 1, 3] }
def slaws_heldIntS_b : SC := .seq (.reg slaws_heldIntS_r0) (.seq (.seq (.reg slaws_heldIntS_r1) (.block 0 (.loop (.seq (.seq (.reg slaws_heldIntS_r2) (.cond 4 (.skip) (.exit 0))) (.seq (.block 1 (.seq (.seq (.reg slaws_heldIntS_r3) (.cond 5 (.seq (.reg slaws_heldIntS_r4) (.ret)) (.skip))) (.reg slaws_heldIntS_r5))) (.reg slaws_heldIntS_r6)))))) (.seq (.reg slaws_heldIntS_r7) (.ret)))
def slaws_heldIntS : SFn := { nslots := 6, nobjs := 0, params := [0, 1], ngiven := 0, bor := false, takes := [], body := slaws_heldIntS_b, results := [.slot 2] }
def slaws_heldIntS_t : List Tmp := [0, 1, 4, 5, 9, 17]
attribute [simp] slaws_heldIntS_r0 slaws_heldIntS_r1 slaws_heldIntS_r2 slaws_heldIntS_r3 slaws_heldIntS_r4 slaws_heldIntS_r5 slaws_heldIntS_r6 slaws_heldIntS_r7 slaws_heldIntS_b slaws_heldIntS
def slaws_heldBoxS_r0 : Reg :=
  { id := 0, ops := [{ op := .mv (.con (.sc (.int .i64 0))) }], clr := [2] }
def slaws_heldBoxS_r1 : Reg :=
  { id := 1, ops := [{ op := .mv (.con (.sc (.int .i64 0))) }], sets := [(3, 0)] }
def slaws_heldBoxS_r2 : Reg :=
  { id := 2, ops := [{ op := .mv (.slot 3) },
      { op := .mv (.slot 0) },
      { op := .len false (.loc 1) },
      { op := .bin .lss (.loc 0) (.loc 2) }], sets := [(4, 3)] }
def slaws_heldBoxS_r3 : Reg :=
  { id := 4, ops := [{ op := .mv (.slot 0) },
      { op := .mv (.slot 3) },
      { op := .indexAddr 4 (.loc 0) (.loc 1) },
      { op := .fieldAddr (.loc 2) 0 },
      { op := .load none (.loc 3) },
      { op := .mv (.slot 1) },
      { op := .bin .neq (.loc 4) (.loc 5) }], sets := [(5, 6)] }
def slaws_heldBoxS_r4 : Reg :=
  { id := 5, ops := [{ op := .mv (.con (.sc (.int .i64 (-1)))) }], sets := [(2, 0)], clr := [0, 1, 3] }
def slaws_heldBoxS_r5 : Reg :=
  { id := 6, ops := [{ op := .mv (.slot 1) },
      { op := .bin .add (.loc 0) (.con (.sc (.int .i64 1))) },
      { op := .mv (.loc 1) }], sets := [(1, 2)] }
def slaws_heldBoxS_r6 : Reg :=
  { id := 7, ops := [{ op := .mv (.slot 0) },
      { op := .mv (.slot 3) },
      { op := .indexAddr 4 (.loc 0) (.loc 1) },
      { op := .fieldAddr (.loc 2) 1 },
      { op := .load none (.loc 3) },
      { op := .mv (.slot 1) },
      { op := .call 57 [(false, .loc 4), (false, .loc 5)] [] },
      { op := .mv (.loc 6) }], sets := [(1, 7)] }
def slaws_heldBoxS_r7 : Reg :=
  { id := 8, ops := [{ op := .mv (.slot 1) },
      { op := .bin .lss (.loc 0) (.con (.sc (.int .i64 0))) }], sets := [(6, 1)] }
def slaws_heldBoxS_r8 : Reg :=
  { id := 9, ops := [{ op := .mv (.con (.sc (.int .i64 (-1)))) }], sets := [(2, 0)], clr := [0, 1, 3] }
def slaws_heldBoxS_r9 : Reg :=
  { id := 10, ops := [{ op := .mv (.slot 0) },
      { op := .mv (.slot 3) },
      { op := .indexAddr 4 (.loc 0) (.loc 1) },
      { op := .fieldAddr (.loc 2) 2 },
      { op := .load none (.loc 3) },
      { op := .mv (.slot 1) },
      { op := .call 57 [(false, .loc 4), (false, .loc 5)] [] },
      { op := .mv (.loc 6) }], sets := [(1, 7)] }
def slaws_heldBoxS_r10 : Reg :=
  { id := 11, ops := [{ op := .mv (.slot 1) },
      { op := .bin .lss (.loc 0) (.con (.sc (.int .i64 0))) }], sets := [(7, 1)] }
def slaws_heldBoxS_r11 : Reg :=
  { id := 12, ops := [{ op := .mv (.con (.sc (.int .i64 (-1)))) }], sets := [(2, 0)], clr := [0, 1, 3] }
def slaws_heldBoxS_r12 : Reg :=
  { id := 13, ops := [{ op := .mv (.slot 0) },
      { op := .mv (.slot 3) },
      { op := .indexAddr 4 (.loc 0) (.loc 1) },
      { op := .fieldAddr (.loc 2) 3 },
      { op := .load none (.loc 3) },
      { op := .mv (.slot 1) },
      { op := .bin .rem (.loc 5) (.con (.sc (.int .i64 3))) },
      { op := .bin .eql (.loc 6) (.con (.sc (.int .i64 0))) },
      { op := .beq true (.loc 4) (.loc 7) }], sets := [(8, 8)] }
def slaws_heldBoxS_r13 : Reg :=
  { id := 14, ops := [{ op := .mv (.con (.sc (.int .i64 (-1)))) }], sets := [(2, 0)], clr := [0, 1, 3] }
def slaws_heldBoxS_r14 : Reg :=
  { id := 15, ops := [{ op := .mv (.slot 1) },
      { op := .bin .add (.loc 0) (.con (.sc (.int .i64 1))) },
      { op := .mv (.loc 1) }], sets := [(1, 2)] }
def slaws_heldBoxS_r15 : Reg :=
  { id := 3, ops := [{ op := .mv (.slot 3) },
      { op := .bin .add (.loc 0) (.con (.sc (.int .i64 1))) },
      { op := .mv (.loc 1) }], sets := [(3, 2)] }
def slaws_heldBoxS_r16 : Reg :=
  { id := 16, ops := [{ op := .mv (.slot 1) },
      { op := .mv (.loc 0) }], sets := [(2, 1)], clr := [0, 1, 3] }
def slaws_heldBoxS_b : SC := .seq (.reg slaws_heldBoxS_r0) (.seq (.seq (.reg slaws_heldBoxS_r1) (.block 0 (.loop (.seq (.seq (.reg slaws_heldBoxS_r2) (.cond 4 (.skip) (.exit 0))) (.seq (.block 1 (.seq (.seq (.reg slaws_heldBoxS_r3) (.cond 5 (.seq (.reg slaws_heldBoxS_r4) (.ret)) (.skip))) (.seq (.reg slaws_heldBoxS_r5) (.seq (.reg slaws_heldBoxS_r6) (.seq (.seq (.reg slaws_heldBoxS_r7) (.cond 6 (.seq (.reg slaws_heldBoxS_r8) (.ret)) (.skip))) (.seq (.reg slaws_heldBoxS_r9) (.seq (.seq (.reg slaws_heldBoxS_r10) (.cond 7 (.seq (.reg slaws_heldBoxS_r11) (.ret)) (.skip))) (.seq (.seq (.reg slaws_heldBoxS_r12) (.cond 8 (.seq (.reg slaws_heldBoxS_r13) (.ret)) (.skip))) (.reg slaws_heldBoxS_r14))))))))) (.reg slaws_heldBoxS_r15)))))) (.seq (.reg slaws_heldBoxS_r16) (.ret)))
def slaws_heldBoxS : SFn := { nslots := 9, nobjs := 0, params := [0, 1], ngiven := 0, bor := false, takes := [], body := slaws_heldBoxS_b, results := [.slot 2] }
def slaws_heldBoxS_t : List Tmp := [0, 1, 4, 5, 9, 18, 29, 38, 47]
attribute [simp] slaws_heldBoxS_r0 slaws_heldBoxS_r1 slaws_heldBoxS_r2 slaws_heldBoxS_r3 slaws_heldBoxS_r4 slaws_heldBoxS_r5 slaws_heldBoxS_r6 slaws_heldBoxS_r7 slaws_heldBoxS_r8 slaws_heldBoxS_r9 slaws_heldBoxS_r10 slaws_heldBoxS_r11 slaws_heldBoxS_r12 slaws_heldBoxS_r13 slaws_heldBoxS_r14 slaws_heldBoxS_r15 slaws_heldBoxS_r16 slaws_heldBoxS_b slaws_heldBoxS
def slaws_szBox_r0 : Reg :=
  { id := 0, ops := [{ op := .box 0 (.slot 0) },
      { op := .mv (.con (.sc (.int .i64 0))) }], sets := [(2, 0)], clr := [0, 3] }
def slaws_szBox_r1 : Reg :=
  { id := 1, ops := [{ op := .fieldAddr (.slot 2) 1 },
      { op := .load none (.loc 0) },
      { op := .mv (.slot 1) },
      { op := .call 16 [(false, .loc 1), (false, .loc 2)] [] },
      { op := .mv (.loc 3) }], sets := [(1, 4)] }
def slaws_szBox_r2 : Reg :=
  { id := 2, ops := [{ op := .mv (.slot 1) },
      { op := .bin .lss (.loc 0) (.con (.sc (.int .i64 0))) }], sets := [(4, 1)] }
def slaws_szBox_r3 : Reg :=
  { id := 3, ops := [{ op := .mv (.con (.sc (.int .i64 (-1)))) }], sets := [(3, 0)], clr := [1, 2] }
def slaws_szBox_r4 : Reg :=
  { id := 4, ops := [{ op := .fieldAddr (.slot 2) 2 },
      { op := .load none (.loc 0) },
      { op := .mv (.slot 1) },
      { op := .call 16 [(false, .loc 1), (false, .loc 2)] [] },
      { op := .mv (.loc 3) }], sets := [(1, 4)], clr := [2] }
def slaws_szBox_r5 : Reg :=
  { id := 5, ops := [{ op := .mv (.slot 1) },
      { op := .bin .lss (.loc 0) (.con (.sc (.int .i64 0))) }], sets := [(5, 1)] }
def slaws_szBox_r6 : Reg :=
  { id := 6, ops := [{ op := .mv (.con (.sc (.int .i64 (-1)))) }], sets := [(3, 0)], clr := [1] }
def slaws_szBox_r7 : Reg :=
  { id := 7, ops := [{ op := .mv (.slot 1) },
      { op := .mv (.loc 0) }], sets := [(3, 1)], clr := [1] }
def slaws_szBox_b : SC := .seq (.reg slaws_szBox_r0) (.seq (.reg slaws_szBox_r1) (.seq (.seq (.reg slaws_szBox_r2) (.cond 4 (.seq (.reg slaws_szBox_r3) (.ret)) (.skip))) (.seq (.reg slaws_szBox_r4) (.seq (.seq (.reg slaws_szBox_r5) (.cond 5 (.seq (.reg slaws_szBox_r6) (.ret)) (.skip))) (.seq (.reg slaws_szBox_r7) (.ret))))))
def slaws_szBox : SFn := { nslots := 6, nobjs := 1, params := [0, 1], ngiven := 0, bor := false, takes := [], body := slaws_szBox_b, results := [.slot 3] }
def slaws_szBox_t : List Tmp := [0, 1, 2, 4, 10, 16]
attribute [simp] slaws_szBox_r0 slaws_szBox_r1 slaws_szBox_r2 slaws_szBox_r3 slaws_szBox_r4 slaws_szBox_r5 slaws_szBox_r6 slaws_szBox_r7 slaws_szBox_b slaws_szBox
def slaws_toBox_r0 : Reg :=
  { id := 0, ops := [{ op := .box 0 (.slot 0) },
      { op := .alloc 1 [.sc (.int .i64 0), .nil 1, .nil 1, .sc (.bool false)] }], sets := [(1, 0), (2, 1)], clr := [0] }
def slaws_toBox_r1 : Reg :=
  { id := 1, ops := [{ op := .alloc 2 [.sc (.int .i64 0), .nil 1, .nil 1, .sc (.bool false)] }], sets := [(3, 0)] }
def slaws_toBox_r2 : Reg :=
  { id := 2, ops := [{ op := .fieldAddr (.slot 1) 0 },
      { op := .load none (.loc 0) },
      { op := .fieldAddr (.slot 3) 0 },
      { op := .store 1 (.loc 2) (.loc 1) }] }
def slaws_toBox_r3 : Reg :=
  { id := 3, ops := [{ op := .fieldAddr (.slot 1) 1 },
      { op := .load none (.loc 0) },
      { op := .call 31 [(false, .loc 1)] [3] },
      { op := .fieldAddr (.slot 3) 1 },
      { op := .store 1 (.loc 3) (.loc 2) }] }
def slaws_toBox_r4 : Reg :=
  { id := 4, ops := [{ op := .fieldAddr (.slot 1) 2 },
      { op := .load none (.loc 0) },
      { op := .call 31 [(false, .loc 1)] [4] },
      { op := .fieldAddr (.slot 3) 2 },
      { op := .store 1 (.loc 3) (.loc 2) }] }
def slaws_toBox_r5 : Reg :=
  { id := 5, ops := [{ op := .fieldAddr (.slot 1) 3 },
      { op := .load none (.loc 0) },
      { op := .fieldAddr (.slot 3) 3 },
      { op := .store 1 (.loc 2) (.loc 1) }], clr := [1] }
def slaws_toBox_r6 : Reg :=
  { id := 6, ops := [{ op := .load (some 4) (.slot 3) },
      { op := .store 4 (.slot 2) (.loc 0) }], clr := [3] }
def slaws_toBox_b : SC := .seq (.reg slaws_toBox_r0) (.seq (.reg slaws_toBox_r1) (.seq (.reg slaws_toBox_r2) (.seq (.reg slaws_toBox_r3) (.seq (.reg slaws_toBox_r4) (.seq (.reg slaws_toBox_r5) (.seq (.reg slaws_toBox_r6) (.ret)))))))
def slaws_toBox : SFn := { nslots := 4, nobjs := 5, params := [0], ngiven := 0, bor := false, takes := [], body := slaws_toBox_b, results := [.cell 2 (some 4)] }
def slaws_toBox_t : List Tmp := [0, 1, 2, 3]
attribute [simp] slaws_toBox_r0 slaws_toBox_r1 slaws_toBox_r2 slaws_toBox_r3 slaws_toBox_r4 slaws_toBox_r5 slaws_toBox_r6 slaws_toBox_b slaws_toBox
def slaws_eqBox_r0 : Reg :=
  { id := 0, ops := [{ op := .box 0 (.slot 0) },
      { op := .box 1 (.slot 1) },
      { op := .mv (.con (.sc (.bool false))) }], sets := [(2, 0), (3, 1)], clr := [0, 1, 4] }
def slaws_eqBox_r1 : Reg :=
  { id := 1, ops := [{ op := .fieldAddr (.slot 2) 0 },
      { op := .load none (.loc 0) },
      { op := .fieldAddr (.slot 3) 0 },
      { op := .load none (.loc 2) },
      { op := .bin .neq (.loc 1) (.loc 3) }], sets := [(5, 4)] }
def slaws_eqBox_r2 : Reg :=
  { id := 2, ops := [{ op := .mv (.con (.sc (.bool false))) }], sets := [(4, 0)], clr := [2, 3] }
def slaws_eqBox_r3 : Reg :=
  { id := 3, ops := [{ op := .fieldAddr (.slot 2) 1 },
      { op := .load none (.loc 0) },
      { op := .fieldAddr (.slot 3) 1 },
      { op := .load none (.loc 2) },
      { op := .call 47 [(false, .loc 1), (false, .loc 3)] [] },
      { op := .un .not (.loc 4) }], sets := [(6, 5)] }
def slaws_eqBox_r4 : Reg :=
  { id := 4, ops := [{ op := .mv (.con (.sc (.bool false))) }], sets := [(4, 0)], clr := [2, 3] }
def slaws_eqBox_r5 : Reg :=
  { id := 5, ops := [{ op := .fieldAddr (.slot 2) 2 },
      { op := .load none (.loc 0) },
      { op := .fieldAddr (.slot 3) 2 },
      { op := .load none (.loc 2) },
      { op := .call 47 [(false, .loc 1), (false, .loc 3)] [] },
      { op := .un .not (.loc 4) }], sets := [(7, 5)] }
def slaws_eqBox_r6 : Reg :=
  { id := 6, ops := [{ op := .mv (.con (.sc (.bool false))) }], sets := [(4, 0)], clr := [2, 3] }
def slaws_eqBox_r7 : Reg :=
  { id := 7, ops := [{ op := .fieldAddr (.slot 2) 3 },
      { op := .load none (.loc 0) },
      { op := .fieldAddr (.slot 3) 3 },
      { op := .load none (.loc 2) },
      { op := .beq true (.loc 1) (.loc 3) }], sets := [(8, 4)], clr := [2, 3] }
def slaws_eqBox_r8 : Reg :=
  { id := 8, ops := [{ op := .mv (.con (.sc (.bool false))) }], sets := [(4, 0)] }
def slaws_eqBox_r9 : Reg :=
  { id := 9, ops := [{ op := .mv (.con (.sc (.bool true))) }], sets := [(4, 0)] }
def slaws_eqBox_b : SC := .seq (.reg slaws_eqBox_r0) (.seq (.seq (.reg slaws_eqBox_r1) (.cond 5 (.seq (.reg slaws_eqBox_r2) (.ret)) (.skip))) (.seq (.seq (.reg slaws_eqBox_r3) (.cond 6 (.seq (.reg slaws_eqBox_r4) (.ret)) (.skip))) (.seq (.seq (.reg slaws_eqBox_r5) (.cond 7 (.seq (.reg slaws_eqBox_r6) (.ret)) (.skip))) (.seq (.seq (.reg slaws_eqBox_r7) (.cond 8 (.seq (.reg slaws_eqBox_r8) (.ret)) (.skip))) (.seq (.reg slaws_eqBox_r9) (.ret))))))
def slaws_eqBox : SFn := { nslots := 9, nobjs := 2, params := [0, 1], ngiven := 0, bor := false, takes := [], body := slaws_eqBox_b, results := [.slot 4] }
def slaws_eqBox_t : List Tmp := [0, 1, 2, 3, 4, 9, 15, 21, 26]
attribute [simp] slaws_eqBox_r0 slaws_eqBox_r1 slaws_eqBox_r2 slaws_eqBox_r3 slaws_eqBox_r4 slaws_eqBox_r5 slaws_eqBox_r6 slaws_eqBox_r7 slaws_eqBox_r8 slaws_eqBox_r9 slaws_eqBox_b slaws_eqBox
def slaws_eqBoxS_r0 : Reg :=
  { id := 0, ops := [{ op := .mv (.con (.sc (.bool false))) }], clr := [2] }
def slaws_eqBoxS_r1 : Reg :=
  { id := 1, ops := [{ op := .mv (.slot 0) },
      { op := .len false (.loc 0) },
      { op := .mv (.slot 1) },
      { op := .len false (.loc 2) },
      { op := .bin .neq (.loc 1) (.loc 3) }], sets := [(4, 4)] }
def slaws_eqBoxS_r2 : Reg :=
  { id := 2, ops := [{ op := .mv (.con (.sc (.bool false))) }], sets := [(2, 0)], clr := [0, 1] }
def slaws_eqBoxS_r3 : Reg :=
  { id := 3, ops := [{ op := .mv (.con (.sc (.int .i64 0))) }], sets := [(3, 0)] }
def slaws_eqBoxS_r4 : Reg :=
  { id := 4, ops := [{ op := .mv (.slot 3) },
      { op := .mv (.slot 0) },
      { op := .len false (.loc 1) },
      { op := .bin .lss (.loc 0) (.loc 2) }], sets := [(5, 3)] }
def slaws_eqBoxS_r5 : Reg :=
  { id := 6, draw := true, ops := [{ op := .mv (.slot 0), tau := some [], om := [] },
      { op := .mv (.slot 3), tau := some [], om := [] },
      { op := .indexAddr 4 (.loc 0) (.loc 1), tau := some [], om := [] },
      { op := .load (some 4) (.loc 2), tau := some [], om := [] },
      { op := .mv (.slot 1), tau := some [], om := [] },
      { op := .mv (.slot 3), tau := some [], om := [] },
      { op := .indexAddr 4 (.loc 4) (.loc 5), tau := some [], om := [] },
      { op := .load (some 4) (.loc 6), tau := some [], om := [] },
      { op := .call 249 [(false, .loc 3), (false, .loc 7)] [], tau := some [], om := [] },
      { op := .un .not (.loc 8), tau := some [], om := [] }], sets := [(6, 9)] }
def slaws_eqBoxS_r6 : Reg :=
  { id := 7, ops := [{ op := .mv (.con (.sc (.bool false))) }], sets := [(2, 0)], clr := [0, 1, 3] }
def slaws_eqBoxS_r7 : Reg :=
  { id := 5, ops := [{ op := .mv (.slot 3) },
      { op := .bin .add (.loc 0) (.con (.sc (.int .i64 1))) },
      { op := .mv (.loc 1) }], sets := [(3, 2)] }
def slaws_eqBoxS_r8 : Reg :=
  { id := 8, ops := [{ op := .mv (.con (.sc (.bool true))) }], sets := [(2, 0)], clr := [0, 1, 3] }
def slaws_eqBoxS_b : SC := .seq (.reg slaws_eqBoxS_r0) (.seq (.seq (.reg slaws_eqBoxS_r1) (.cond 4 (.seq (.reg slaws_eqBoxS_r2) (.ret)) (.skip))) (.seq (.seq (.reg slaws_eqBoxS_r3) (.block 0 (.loop (.seq (.seq (.reg slaws_eqBoxS_r4) (.cond 5 (.skip) (.exit 0))) (.seq (.block 1 (.seq (.reg slaws_eqBoxS_r5) (.cond 6 (.seq (.reg slaws_eqBoxS_r6) (.ret)) (.skip)))) (.reg slaws_eqBoxS_r7)))))) (.seq (.reg slaws_eqBoxS_r8) (.ret))))
def slaws_eqBoxS : SFn := { nslots := 7, nobjs := 0, params := [0, 1], ngiven := 0, bor := false, takes := [], body := slaws_eqBoxS_b, results := [.slot 2] }
def slaws_eqBoxS_t : List Tmp := [0, 1, 4, 5, 10, 14, 26]
attribute [simp] slaws_eqBoxS_r0 slaws_eqBoxS_r1 slaws_eqBoxS_r2 slaws_eqBoxS_r3 slaws_eqBoxS_r4 slaws_eqBoxS_r5 slaws_eqBoxS_r6 slaws_eqBoxS_r7 slaws_eqBoxS_r8 slaws_eqBoxS_b slaws_eqBoxS
def slaws_szWorld_r0 : Reg :=
  { id := 0, ops := [{ op := .box 0 (.slot 0) },
      { op := .mv (.con (.sc (.int .i64 0))) }], sets := [(2, 0)], clr := [0, 3] }
def slaws_szWorld_r1 : Reg :=
  { id := 1, ops := [{ op := .fieldAddr (.slot 2) 0 },
      { op := .load none (.loc 0) },
      { op := .mv (.slot 1) },
      { op := .call 16 [(false, .loc 1), (false, .loc 2)] [] },
      { op := .mv (.loc 3) }], sets := [(1, 4)] }
def slaws_szWorld_r2 : Reg :=
  { id := 2, ops := [{ op := .mv (.slot 1) },
      { op := .bin .lss (.loc 0) (.con (.sc (.int .i64 0))) }], sets := [(4, 1)] }
def slaws_szWorld_r3 : Reg :=
  { id := 3, ops := [{ op := .mv (.con (.sc (.int .i64 (-1)))) }], sets := [(3, 0)], clr := [1, 2] }
def slaws_szWorld_r4 : Reg :=
  { id := 4, ops := [{ op := .fieldAddr (.slot 2) 1 },
      { op := .load none (.loc 0) },
      { op := .mv (.slot 1) },
      { op := .call 16 [(false, .loc 1), (false, .loc 2)] [] },
      { op := .mv (.loc 3) }], sets := [(1, 4)] }
def slaws_szWorld_r5 : Reg :=
  { id := 5, ops := [{ op := .mv (.slot 1) },
      { op := .bin .lss (.loc 0) (.con (.sc (.int .i64 0))) }], sets := [(5, 1)] }
def slaws_szWorld_r6 : Reg :=
  { id := 6, ops := [{ op := .mv (.con (.sc (.int .i64 (-1)))) }], sets := [(3, 0)], clr := [1, 2] }
def slaws_szWorld_r7 : Reg :=
  { id := 7, ops := [{ op := .fieldAddr (.slot 2) 3 },
      { op := .load none (.loc 0) },
      { op := .mv (.slot 1) },
      { op := .call 17 [(false, .loc 1), (false, .loc 2)] [] },
      { op := .mv (.loc 3) }], sets := [(1, 4)] }
def slaws_szWorld_r8 : Reg :=
  { id := 8, ops := [{ op := .mv (.slot 1) },
      { op := .bin .lss (.loc 0) (.con (.sc (.int .i64 0))) }], sets := [(6, 1)] }
def slaws_szWorld_r9 : Reg :=
  { id := 9, ops := [{ op := .mv (.con (.sc (.int .i64 (-1)))) }], sets := [(3, 0)], clr := [1, 2] }
def slaws_szWorld_r10 : Reg :=
  { id := 10, ops := [{ op := .fieldAddr (.slot 2) 4 },
      { op := .load (some 4) (.loc 0) },
      { op := .mv (.slot 1) },
      { op := .call 18 [(false, .loc 1), (false, .loc 2)] [] },
      { op := .mv (.loc 3) }], sets := [(1, 4)] }
def slaws_szWorld_r11 : Reg :=
  { id := 11, ops := [{ op := .mv (.slot 1) },
      { op := .bin .lss (.loc 0) (.con (.sc (.int .i64 0))) }], sets := [(7, 1)] }
def slaws_szWorld_r12 : Reg :=
  { id := 12, ops := [{ op := .mv (.con (.sc (.int .i64 (-1)))) }], sets := [(3, 0)], clr := [1, 2] }
def slaws_szWorld_r13 : Reg :=
  { id := 13, ops := [{ op := .fieldAddr (.slot 2) 10 },
      { op := .load none (.loc 0) },
      { op := .mv (.slot 1) },
      { op := .call 19 [(false, .loc 1), (false, .loc 2)] [] },
      { op := .mv (.loc 3) }], sets := [(1, 4)] }
def slaws_szWorld_r14 : Reg :=
  { id := 14, ops := [{ op := .mv (.slot 1) },
      { op := .bin .lss (.loc 0) (.con (.sc (.int .i64 0))) }], sets := [(8, 1)] }
def slaws_szWorld_r15 : Reg :=
  { id := 15, ops := [{ op := .mv (.con (.sc (.int .i64 (-1)))) }], sets := [(3, 0)], clr := [1, 2] }
def slaws_szWorld_r16 : Reg :=
  { id := 16, ops := [{ op := .fieldAddr (.slot 2) 11 },
      { op := .load none (.loc 0) },
      { op := .mv (.slot 1) },
      { op := .call 20 [(false, .loc 1), (false, .loc 2)] [] },
      { op := .mv (.loc 3) }], sets := [(1, 4)], clr := [2] }
def slaws_szWorld_r17 : Reg :=
  { id := 17, ops := [{ op := .mv (.slot 1) },
      { op := .bin .lss (.loc 0) (.con (.sc (.int .i64 0))) }], sets := [(9, 1)] }
def slaws_szWorld_r18 : Reg :=
  { id := 18, ops := [{ op := .mv (.con (.sc (.int .i64 (-1)))) }], sets := [(3, 0)], clr := [1] }
def slaws_szWorld_r19 : Reg :=
  { id := 19, ops := [{ op := .mv (.slot 1) },
      { op := .mv (.loc 0) }], sets := [(3, 1)], clr := [1] }
def slaws_szWorld_b : SC := .seq (.reg slaws_szWorld_r0) (.seq (.reg slaws_szWorld_r1) (.seq (.seq (.reg slaws_szWorld_r2) (.cond 4 (.seq (.reg slaws_szWorld_r3) (.ret)) (.skip))) (.seq (.reg slaws_szWorld_r4) (.seq (.seq (.reg slaws_szWorld_r5) (.cond 5 (.seq (.reg slaws_szWorld_r6) (.ret)) (.skip))) (.seq (.reg slaws_szWorld_r7) (.seq (.seq (.reg slaws_szWorld_r8) (.cond 6 (.seq (.reg slaws_szWorld_r9) (.ret)) (.skip))) (.seq (.reg slaws_szWorld_r10) (.seq (.seq (.reg slaws_szWorld_r11) (.cond 7 (.seq (.reg slaws_szWorld_r12) (.ret)) (.skip))) (.seq (.reg slaws_szWorld_r13) (.seq (.seq (.reg slaws_szWorld_r14) (.cond 8 (.seq (.reg slaws_szWorld_r15) (.ret)) (.skip))) (.seq (.reg slaws_szWorld_r16) (.seq (.seq (.reg slaws_szWorld_r17) (.cond 9 (.seq (.reg slaws_szWorld_r18) (.ret)) (.skip))) (.seq (.reg slaws_szWorld_r19) (.ret))))))))))))))
def slaws_szWorld : SFn := { nslots := 10, nobjs := 1, params := [0, 1], ngiven := 0, bor := false, takes := [], body := slaws_szWorld_b, results := [.slot 3] }
def slaws_szWorld_t : List Tmp := [0, 1, 2, 4, 10, 16, 22, 28, 34, 40]
attribute [simp] slaws_szWorld_r0 slaws_szWorld_r1 slaws_szWorld_r2 slaws_szWorld_r3 slaws_szWorld_r4 slaws_szWorld_r5 slaws_szWorld_r6 slaws_szWorld_r7 slaws_szWorld_r8 slaws_szWorld_r9 slaws_szWorld_r10 slaws_szWorld_r11 slaws_szWorld_r12 slaws_szWorld_r13 slaws_szWorld_r14 slaws_szWorld_r15 slaws_szWorld_r16 slaws_szWorld_r17 slaws_szWorld_r18 slaws_szWorld_r19 slaws_szWorld_b slaws_szWorld
def slaws_toWorld_r0 : Reg :=
  { id := 0, ops := [{ op := .box 0 (.slot 0) },
      { op := .alloc 1 [.nil 1, .nil 1, .sc (.int .i64 0), .nil 4, .sc (.int .i64 0), .nil 1, .sc (.int .i64 0), .sc (.bool false), .sc (.int .i64 0), .sc (.int .i64 0), .nil 5, .nil 8, .sc (.int .i64 0), .sc (.int .i64 0), .sc (.int .i64 0)] }], sets := [(1, 0), (2, 1)], clr := [0] }
def slaws_toWorld_r1 : Reg :=
  { id := 1, ops := [{ op := .alloc 2 [.nil 1, .nil 1, .sc (.int .i64 0), .nil 4, .sc (.int .i64 0), .nil 1, .sc (.int .i64 0), .sc (.bool false), .sc (.int .i64 0), .sc (.int .i64 0), .nil 5, .nil 8, .sc (.int .i64 0), .sc (.int .i64 0), .sc (.int .i64 0)] }], sets := [(3, 0)] }
def slaws_toWorld_r2 : Reg :=
  { id := 2, ops := [{ op := .fieldAddr (.slot 1) 0 },
      { op := .load none (.loc 0) },
      { op := .call 31 [(false, .loc 1)] [3] },
      { op := .fieldAddr (.slot 3) 0 },
      { op := .store 1 (.loc 3) (.loc 2) }] }
def slaws_toWorld_r3 : Reg :=
  { id := 3, ops := [{ op := .fieldAddr (.slot 1) 1 },
      { op := .load none (.loc 0) },
      { op := .call 31 [(false, .loc 1)] [4] },
      { op := .fieldAddr (.slot 3) 1 },
      { op := .store 1 (.loc 3) (.loc 2) }] }
def slaws_toWorld_r4 : Reg :=
  { id := 4, ops := [{ op := .fieldAddr (.slot 1) 2 },
      { op := .load none (.loc 0) },
      { op := .fieldAddr (.slot 3) 2 },
      { op := .store 1 (.loc 2) (.loc 1) }] }
def slaws_toWorld_r5 : Reg :=
  { id := 5, ops := [{ op := .fieldAddr (.slot 1) 3 },
      { op := .load none (.loc 0) },
      { op := .call 32 [(false, .loc 1)] [5] },
      { op := .fieldAddr (.slot 3) 3 },
      { op := .store 1 (.loc 3) (.loc 2) }] }
def slaws_toWorld_r6 : Reg :=
  { id := 6, ops := [{ op := .fieldAddr (.slot 1) 4 },
      { op := .load (some 4) (.loc 0) },
      { op := .call 33 [(false, .loc 1)] [6] },
      { op := .fieldAddr (.slot 3) 4 },
      { op := .store 4 (.loc 3) (.loc 2) }] }
def slaws_toWorld_r7 : Reg :=
  { id := 7, ops := [{ op := .fieldAddr (.slot 1) 8 },
      { op := .load none (.loc 0) },
      { op := .fieldAddr (.slot 3) 8 },
      { op := .store 1 (.loc 2) (.loc 1) }] }
def slaws_toWorld_r8 : Reg :=
  { id := 8, ops := [{ op := .fieldAddr (.slot 1) 9 },
      { op := .load none (.loc 0) },
      { op := .fieldAddr (.slot 3) 9 },
      { op := .store 1 (.loc 2) (.loc 1) }] }
def slaws_toWorld_r9 : Reg :=
  { id := 9, ops := [{ op := .fieldAddr (.slot 1) 10 },
      { op := .load none (.loc 0) },
      { op := .call 34 [(false, .loc 1)] [7] },
      { op := .fieldAddr (.slot 3) 10 },
      { op := .store 1 (.loc 3) (.loc 2) }] }
def slaws_toWorld_r10 : Reg :=
  { id := 10, ops := [{ op := .fieldAddr (.slot 1) 11 },
      { op := .load none (.loc 0) },
      { op := .call 35 [(false, .loc 1)] [8] },
      { op := .fieldAddr (.slot 3) 11 },
      { op := .store 1 (.loc 3) (.loc 2) }] }
def slaws_toWorld_r11 : Reg :=
  { id := 11, ops := [{ op := .fieldAddr (.slot 1) 12 },
      { op := .load none (.loc 0) },
      { op := .fieldAddr (.slot 3) 12 },
      { op := .store 1 (.loc 2) (.loc 1) }] }
def slaws_toWorld_r12 : Reg :=
  { id := 12, ops := [{ op := .fieldAddr (.slot 1) 13 },
      { op := .load none (.loc 0) },
      { op := .fieldAddr (.slot 3) 13 },
      { op := .store 1 (.loc 2) (.loc 1) }] }
def slaws_toWorld_r13 : Reg :=
  { id := 13, ops := [{ op := .fieldAddr (.slot 1) 14 },
      { op := .load none (.loc 0) },
      { op := .fieldAddr (.slot 3) 14 },
      { op := .store 1 (.loc 2) (.loc 1) }], clr := [1] }
def slaws_toWorld_r14 : Reg :=
  { id := 14, ops := [{ op := .load (some 15) (.slot 3) },
      { op := .store 15 (.slot 2) (.loc 0) }], clr := [3] }
def slaws_toWorld_b : SC := .seq (.reg slaws_toWorld_r0) (.seq (.reg slaws_toWorld_r1) (.seq (.reg slaws_toWorld_r2) (.seq (.reg slaws_toWorld_r3) (.seq (.reg slaws_toWorld_r4) (.seq (.reg slaws_toWorld_r5) (.seq (.reg slaws_toWorld_r6) (.seq (.reg slaws_toWorld_r7) (.seq (.reg slaws_toWorld_r8) (.seq (.reg slaws_toWorld_r9) (.seq (.reg slaws_toWorld_r10) (.seq (.reg slaws_toWorld_r11) (.seq (.reg slaws_toWorld_r12) (.seq (.reg slaws_toWorld_r13) (.seq (.reg slaws_toWorld_r14) (.ret)))))))))))))))
def slaws_toWorld : SFn := { nslots := 4, nobjs := 9, params := [0], ngiven := 0, bor := false, takes := [], body := slaws_toWorld_b, results := [.cell 2 (some 15)] }
def slaws_toWorld_t : List Tmp := [0, 1, 2, 3]
attribute [simp] slaws_toWorld_r0 slaws_toWorld_r1 slaws_toWorld_r2 slaws_toWorld_r3 slaws_toWorld_r4 slaws_toWorld_r5 slaws_toWorld_r6 slaws_toWorld_r7 slaws_toWorld_r8 slaws_toWorld_r9 slaws_toWorld_r10 slaws_toWorld_r11 slaws_toWorld_r12 slaws_toWorld_r13 slaws_toWorld_r14 slaws_toWorld_b slaws_toWorld
def slaws_eqWorld_r0 : Reg :=
  { id := 0, ops := [{ op := .box 0 (.slot 0) },
      { op := .box 1 (.slot 1) },
      { op := .mv (.con (.sc (.bool false))) }], sets := [(2, 0), (3, 1)], clr := [0, 1, 4] }
def slaws_eqWorld_r1 : Reg :=
  { id := 1, ops := [{ op := .fieldAddr (.slot 2) 0 },
      { op := .load none (.loc 0) },
      { op := .fieldAddr (.slot 3) 0 },
      { op := .load none (.loc 2) },
      { op := .call 47 [(false, .loc 1), (false, .loc 3)] [] },
      { op := .un .not (.loc 4) }], sets := [(5, 5)] }
def slaws_eqWorld_r2 : Reg :=
  { id := 2, ops := [{ op := .mv (.con (.sc (.bool false))) }], sets := [(4, 0)], clr := [2, 3] }
def slaws_eqWorld_r3 : Reg :=
  { id := 3, ops := [{ op := .fieldAddr (.slot 2) 1 },
      { op := .load none (.loc 0) },
      { op := .fieldAddr (.slot 3) 1 },
      { op := .load none (.loc 2) },
      { op := .call 47 [(false, .loc 1), (false, .loc 3)] [] },
      { op := .un .not (.loc 4) }], sets := [(6, 5)] }
def slaws_eqWorld_r4 : Reg :=
  { id := 4, ops := [{ op := .mv (.con (.sc (.bool false))) }], sets := [(4, 0)], clr := [2, 3] }
def slaws_eqWorld_r5 : Reg :=
  { id := 5, ops := [{ op := .fieldAddr (.slot 2) 2 },
      { op := .load none (.loc 0) },
      { op := .fieldAddr (.slot 3) 2 },
      { op := .load none (.loc 2) },
      { op := .bin .neq (.loc 1) (.loc 3) }], sets := [(7, 4)] }
def slaws_eqWorld_r6 : Reg :=
  { id := 6, ops := [{ op := .mv (.con (.sc (.bool false))) }], sets := [(4, 0)], clr := [2, 3] }
def slaws_eqWorld_r7 : Reg :=
  { id := 7, ops := [{ op := .fieldAddr (.slot 2) 3 },
      { op := .load none (.loc 0) },
      { op := .fieldAddr (.slot 3) 3 },
      { op := .load none (.loc 2) },
      { op := .call 48 [(false, .loc 1), (false, .loc 3)] [] },
      { op := .un .not (.loc 4) }], sets := [(8, 5)] }
def slaws_eqWorld_r8 : Reg :=
  { id := 8, ops := [{ op := .mv (.con (.sc (.bool false))) }], sets := [(4, 0)], clr := [2, 3] }
def slaws_eqWorld_r9 : Reg :=
  { id := 9, ops := [{ op := .fieldAddr (.slot 2) 4 },
      { op := .load (some 4) (.loc 0) },
      { op := .fieldAddr (.slot 3) 4 },
      { op := .load (some 4) (.loc 2) },
      { op := .call 49 [(false, .loc 1), (false, .loc 3)] [] },
      { op := .un .not (.loc 4) }], sets := [(9, 5)] }
def slaws_eqWorld_r10 : Reg :=
  { id := 10, ops := [{ op := .mv (.con (.sc (.bool false))) }], sets := [(4, 0)], clr := [2, 3] }
def slaws_eqWorld_r11 : Reg :=
  { id := 11, ops := [{ op := .fieldAddr (.slot 2) 8 },
      { op := .load none (.loc 0) },
      { op := .fieldAddr (.slot 3) 8 },
      { op := .load none (.loc 2) },
      { op := .bin .neq (.loc 1) (.loc 3) }], sets := [(10, 4)] }
def slaws_eqWorld_r12 : Reg :=
  { id := 12, ops := [{ op := .mv (.con (.sc (.bool false))) }], sets := [(4, 0)], clr := [2, 3] }
def slaws_eqWorld_r13 : Reg :=
  { id := 13, ops := [{ op := .fieldAddr (.slot 2) 9 },
      { op := .load none (.loc 0) },
      { op := .fieldAddr (.slot 3) 9 },
      { op := .load none (.loc 2) },
      { op := .bin .neq (.loc 1) (.loc 3) }], sets := [(11, 4)] }
def slaws_eqWorld_r14 : Reg :=
  { id := 14, ops := [{ op := .mv (.con (.sc (.bool false))) }], sets := [(4, 0)], clr := [2, 3] }
def slaws_eqWorld_r15 : Reg :=
  { id := 15, ops := [{ op := .fieldAddr (.slot 2) 10 },
      { op := .load none (.loc 0) },
      { op := .fieldAddr (.slot 3) 10 },
      { op := .load none (.loc 2) },
      { op := .call 50 [(false, .loc 1), (false, .loc 3)] [] },
      { op := .un .not (.loc 4) }], sets := [(12, 5)] }
def slaws_eqWorld_r16 : Reg :=
  { id := 16, ops := [{ op := .mv (.con (.sc (.bool false))) }], sets := [(4, 0)], clr := [2, 3] }
def slaws_eqWorld_r17 : Reg :=
  { id := 17, ops := [{ op := .fieldAddr (.slot 2) 11 },
      { op := .load none (.loc 0) },
      { op := .fieldAddr (.slot 3) 11 },
      { op := .load none (.loc 2) },
      { op := .call 51 [(false, .loc 1), (false, .loc 3)] [] },
      { op := .un .not (.loc 4) }], sets := [(13, 5)] }
def slaws_eqWorld_r18 : Reg :=
  { id := 18, ops := [{ op := .mv (.con (.sc (.bool false))) }], sets := [(4, 0)], clr := [2, 3] }
def slaws_eqWorld_r19 : Reg :=
  { id := 19, ops := [{ op := .fieldAddr (.slot 2) 12 },
      { op := .load none (.loc 0) },
      { op := .fieldAddr (.slot 3) 12 },
      { op := .load none (.loc 2) },
      { op := .bin .neq (.loc 1) (.loc 3) }], sets := [(14, 4)] }
def slaws_eqWorld_r20 : Reg :=
  { id := 20, ops := [{ op := .mv (.con (.sc (.bool false))) }], sets := [(4, 0)], clr := [2, 3] }
def slaws_eqWorld_r21 : Reg :=
  { id := 21, ops := [{ op := .fieldAddr (.slot 2) 13 },
      { op := .load none (.loc 0) },
      { op := .fieldAddr (.slot 3) 13 },
      { op := .load none (.loc 2) },
      { op := .bin .neq (.loc 1) (.loc 3) }], sets := [(15, 4)] }
def slaws_eqWorld_r22 : Reg :=
  { id := 22, ops := [{ op := .mv (.con (.sc (.bool false))) }], sets := [(4, 0)], clr := [2, 3] }
def slaws_eqWorld_r23 : Reg :=
  { id := 23, ops := [{ op := .fieldAddr (.slot 2) 14 },
      { op := .load none (.loc 0) },
      { op := .fieldAddr (.slot 3) 14 },
      { op := .load none (.loc 2) },
      { op := .bin .neq (.loc 1) (.loc 3) }], sets := [(16, 4)], clr := [2, 3] }
def slaws_eqWorld_r24 : Reg :=
  { id := 24, ops := [{ op := .mv (.con (.sc (.bool false))) }], sets := [(4, 0)] }
def slaws_eqWorld_r25 : Reg :=
  { id := 25, ops := [{ op := .mv (.con (.sc (.bool true))) }], sets := [(4, 0)] }
def slaws_eqWorld_b : SC := .seq (.reg slaws_eqWorld_r0) (.seq (.seq (.reg slaws_eqWorld_r1) (.cond 5 (.seq (.reg slaws_eqWorld_r2) (.ret)) (.skip))) (.seq (.seq (.reg slaws_eqWorld_r3) (.cond 6 (.seq (.reg slaws_eqWorld_r4) (.ret)) (.skip))) (.seq (.seq (.reg slaws_eqWorld_r5) (.cond 7 (.seq (.reg slaws_eqWorld_r6) (.ret)) (.skip))) (.seq (.seq (.reg slaws_eqWorld_r7) (.cond 8 (.seq (.reg slaws_eqWorld_r8) (.ret)) (.skip))) (.seq (.seq (.reg slaws_eqWorld_r9) (.cond 9 (.seq (.reg slaws_eqWorld_r10) (.ret)) (.skip))) (.seq (.seq (.reg slaws_eqWorld_r11) (.cond 10 (.seq (.reg slaws_eqWorld_r12) (.ret)) (.skip))) (.seq (.seq (.reg slaws_eqWorld_r13) (.cond 11 (.seq (.reg slaws_eqWorld_r14) (.ret)) (.skip))) (.seq (.seq (.reg slaws_eqWorld_r15) (.cond 12 (.seq (.reg slaws_eqWorld_r16) (.ret)) (.skip))) (.seq (.seq (.reg slaws_eqWorld_r17) (.cond 13 (.seq (.reg slaws_eqWorld_r18) (.ret)) (.skip))) (.seq (.seq (.reg slaws_eqWorld_r19) (.cond 14 (.seq (.reg slaws_eqWorld_r20) (.ret)) (.skip))) (.seq (.seq (.reg slaws_eqWorld_r21) (.cond 15 (.seq (.reg slaws_eqWorld_r22) (.ret)) (.skip))) (.seq (.seq (.reg slaws_eqWorld_r23) (.cond 16 (.seq (.reg slaws_eqWorld_r24) (.ret)) (.skip))) (.seq (.reg slaws_eqWorld_r25) (.ret))))))))))))))
def slaws_eqWorld : SFn := { nslots := 17, nobjs := 2, params := [0, 1], ngiven := 0, bor := false, takes := [], body := slaws_eqWorld_b, results := [.slot 4] }
def slaws_eqWorld_t : List Tmp := [0, 1, 2, 3, 4, 10, 16, 21, 27, 33, 38, 43, 49, 55, 60, 65, 70]
attribute [simp] slaws_eqWorld_r0 slaws_eqWorld_r1 slaws_eqWorld_r2 slaws_eqWorld_r3 slaws_eqWorld_r4 slaws_eqWorld_r5 slaws_eqWorld_r6 slaws_eqWorld_r7 slaws_eqWorld_r8 slaws_eqWorld_r9 slaws_eqWorld_r10 slaws_eqWorld_r11 slaws_eqWorld_r12 slaws_eqWorld_r13 slaws_eqWorld_r14 slaws_eqWorld_r15 slaws_eqWorld_r16 slaws_eqWorld_r17 slaws_eqWorld_r18 slaws_eqWorld_r19 slaws_eqWorld_r20 slaws_eqWorld_r21 slaws_eqWorld_r22 slaws_eqWorld_r23 slaws_eqWorld_r24 slaws_eqWorld_r25 slaws_eqWorld_b slaws_eqWorld
def slaws_szEndpointS_r0 : Reg :=
  { id := 0, ops := [{ op := .mv (.con (.sc (.int .i64 0))) }], clr := [2] }
def slaws_szEndpointS_r1 : Reg :=
  { id := 1, ops := [{ op := .mv (.slot 1) },
      { op := .mv (.slot 0) },
      { op := .len false (.loc 1) },
      { op := .bin .sub (.loc 0) (.loc 2) },
      { op := .mv (.loc 3) }], sets := [(1, 4)] }
def slaws_szEndpointS_r2 : Reg :=
  { id := 2, ops := [{ op := .mv (.slot 1) },
      { op := .bin .lss (.loc 0) (.con (.sc (.int .i64 0))) }], sets := [(4, 1)] }
def slaws_szEndpointS_r3 : Reg :=
  { id := 3, ops := [{ op := .mv (.con (.sc (.int .i64 (-1)))) }], sets := [(2, 0)], clr := [0, 1] }
def slaws_szEndpointS_r4 : Reg :=
  { id := 4, ops := [{ op := .mv (.con (.sc (.int .i64 0))) }], sets := [(3, 0)] }
def slaws_szEndpointS_r5 : Reg :=
  { id := 5, ops := [{ op := .mv (.slot 3) },
      { op := .mv (.slot 0) },
      { op := .len false (.loc 1) },
      { op := .bin .lss (.loc 0) (.loc 2) }], sets := [(5, 3)] }
def slaws_szEndpointS_r6 : Reg :=
  { id := 7, ops := [{ op := .mv (.slot 0) },
      { op := .mv (.slot 3) },
      { op := .indexAddr 4 (.loc 0) (.loc 1) },
      { op := .load (some 4) (.loc 2) },
      { op := .mv (.slot 1) },
      { op := .call 62 [(false, .loc 3), (false, .loc 4)] [] },
      { op := .mv (.loc 5) }], sets := [(1, 6)] }
def slaws_szEndpointS_r7 : Reg :=
  { id := 8, ops := [{ op := .mv (.slot 1) },
      { op := .bin .lss (.loc 0) (.con (.sc (.int .i64 0))) }], sets := [(6, 1)] }
def slaws_szEndpointS_r8 : Reg :=
  { id := 9, ops := [{ op := .mv (.con (.sc (.int .i64 (-1)))) }], sets := [(2, 0)], clr := [0, 1, 3] }
def slaws_szEndpointS_r9 : Reg :=
  { id := 6, ops := [{ op := .mv (.slot 3) },
      { op := .bin .add (.loc 0) (.con (.sc (.int .i64 1))) },
      { op := .mv (.loc 1) }], sets := [(3, 2)] }
def slaws_szEndpointS_r10 : Reg :=
  { id := 10, ops := [{ op := .mv (.slot 1) },
      { op := .mv (.loc 0) }], sets := [(2, 1)], clr := [0, 1, 3] }
def slaws_szEndpointS_b : SC := .seq (.reg slaws_szEndpointS_r0) (.seq (.reg slaws_szEndpointS_r1) (.seq (.seq (.reg slaws_szEndpointS_r2) (.cond 4 (.seq (.reg slaws_szEndpointS_r3) (.ret)) (.skip))) (.seq (.seq (.reg slaws_szEndpointS_r4) (.block 0 (.loop (.seq (.seq (.reg slaws_szEndpointS_r5) (.cond 5 (.skip) (.exit 0))) (.seq (.block 1 (.seq (.reg slaws_szEndpointS_r6) (.seq (.reg slaws_szEndpointS_r7) (.cond 6 (.seq (.reg slaws_szEndpointS_r8) (.ret)) (.skip))))) (.reg slaws_szEndpointS_r9)))))) (.seq (.reg slaws_szEndpointS_r10) (.ret)))))
def slaws_szEndpointS : SFn := { nslots := 7, nobjs := 0, params := [0, 1], ngiven := 0, bor := false, takes := [], body := slaws_szEndpointS_b, results := [.slot 2] }
def slaws_szEndpointS_t : List Tmp := [0, 1, 4, 5, 11, 15, 25]
attribute [simp] slaws_szEndpointS_r0 slaws_szEndpointS_r1 slaws_szEndpointS_r2 slaws_szEndpointS_r3 slaws_szEndpointS_r4 slaws_szEndpointS_r5 slaws_szEndpointS_r6 slaws_szEndpointS_r7 slaws_szEndpointS_r8 slaws_szEndpointS_r9 slaws_szEndpointS_r10 slaws_szEndpointS_b slaws_szEndpointS
def slaws_szRollout_r0 : Reg :=
  { id := 0, ops := [{ op := .box 0 (.slot 0) },
      { op := .mv (.con (.sc (.int .i64 0))) }], sets := [(2, 0)], clr := [0, 3] }
def slaws_szRollout_r1 : Reg :=
  { id := 1, ops := [{ op := .fieldAddr (.slot 2) 1 },
      { op := .load none (.loc 0) },
      { op := .mv (.slot 1) },
      { op := .call 16 [(false, .loc 1), (false, .loc 2)] [] },
      { op := .mv (.loc 3) }], sets := [(1, 4)], clr := [2] }
def slaws_szRollout_r2 : Reg :=
  { id := 2, ops := [{ op := .mv (.slot 1) },
      { op := .bin .lss (.loc 0) (.con (.sc (.int .i64 0))) }], sets := [(4, 1)] }
def slaws_szRollout_r3 : Reg :=
  { id := 3, ops := [{ op := .mv (.con (.sc (.int .i64 (-1)))) }], sets := [(3, 0)], clr := [1] }
def slaws_szRollout_r4 : Reg :=
  { id := 4, ops := [{ op := .mv (.slot 1) },
      { op := .mv (.loc 0) }], sets := [(3, 1)], clr := [1] }
def slaws_szRollout_b : SC := .seq (.reg slaws_szRollout_r0) (.seq (.reg slaws_szRollout_r1) (.seq (.seq (.reg slaws_szRollout_r2) (.cond 4 (.seq (.reg slaws_szRollout_r3) (.ret)) (.skip))) (.seq (.reg slaws_szRollout_r4) (.ret))))
def slaws_szRollout : SFn := { nslots := 5, nobjs := 1, params := [0, 1], ngiven := 0, bor := false, takes := [], body := slaws_szRollout_b, results := [.slot 3] }
def slaws_szRollout_t : List Tmp := [0, 1, 2, 4, 10]
attribute [simp] slaws_szRollout_r0 slaws_szRollout_r1 slaws_szRollout_r2 slaws_szRollout_r3 slaws_szRollout_r4 slaws_szRollout_b slaws_szRollout
def slaws_szDialedS_r0 : Reg :=
  { id := 0, ops := [{ op := .mv (.con (.sc (.int .i64 0))) }], clr := [2] }
def slaws_szDialedS_r1 : Reg :=
  { id := 1, ops := [{ op := .mv (.slot 1) },
      { op := .mv (.slot 0) },
      { op := .len false (.loc 1) },
      { op := .bin .sub (.loc 0) (.loc 2) },
      { op := .mv (.loc 3) }], sets := [(1, 4)] }
def slaws_szDialedS_r2 : Reg :=
  { id := 2, ops := [{ op := .mv (.slot 1) },
      { op := .bin .lss (.loc 0) (.con (.sc (.int .i64 0))) }], sets := [(4, 1)] }
def slaws_szDialedS_r3 : Reg :=
  { id := 3, ops := [{ op := .mv (.con (.sc (.int .i64 (-1)))) }], sets := [(2, 0)], clr := [0, 1] }
def slaws_szDialedS_r4 : Reg :=
  { id := 4, ops := [{ op := .mv (.con (.sc (.int .i64 0))) }], sets := [(3, 0)] }
def slaws_szDialedS_r5 : Reg :=
  { id := 5, ops := [{ op := .mv (.slot 3) },
      { op := .mv (.slot 0) },
      { op := .len false (.loc 1) },
      { op := .bin .lss (.loc 0) (.loc 2) }], sets := [(5, 3)] }
def slaws_szDialedS_r6 : Reg :=
  { id := 7, ops := [{ op := .mv (.slot 0) },
      { op := .mv (.slot 3) },
      { op := .indexAddr 5 (.loc 0) (.loc 1) },
      { op := .load (some 5) (.loc 2) },
      { op := .mv (.slot 1) },
      { op := .call 63 [(false, .loc 3), (false, .loc 4)] [] },
      { op := .mv (.loc 5) }], sets := [(1, 6)] }
def slaws_szDialedS_r7 : Reg :=
  { id := 8, ops := [{ op := .mv (.slot 1) },
      { op := .bin .lss (.loc 0) (.con (.sc (.int .i64 0))) }], sets := [(6, 1)] }
def slaws_szDialedS_r8 : Reg :=
  { id := 9, ops := [{ op := .mv (.con (.sc (.int .i64 (-1)))) }], sets := [(2, 0)], clr := [0, 1, 3] }
def slaws_szDialedS_r9 : Reg :=
  { id := 6, ops := [{ op := .mv (.slot 3) },
      { op := .bin .add (.loc 0) (.con (.sc (.int .i64 1))) },
      { op := .mv (.loc 1) }], sets := [(3, 2)] }
def slaws_szDialedS_r10 : Reg :=
  { id := 10, ops := [{ op := .mv (.slot 1) },
      { op := .mv (.loc 0) }], sets := [(2, 1)], clr := [0, 1, 3] }
def slaws_szDialedS_b : SC := .seq (.reg slaws_szDialedS_r0) (.seq (.reg slaws_szDialedS_r1) (.seq (.seq (.reg slaws_szDialedS_r2) (.cond 4 (.seq (.reg slaws_szDialedS_r3) (.ret)) (.skip))) (.seq (.seq (.reg slaws_szDialedS_r4) (.block 0 (.loop (.seq (.seq (.reg slaws_szDialedS_r5) (.cond 5 (.skip) (.exit 0))) (.seq (.block 1 (.seq (.reg slaws_szDialedS_r6) (.seq (.reg slaws_szDialedS_r7) (.cond 6 (.seq (.reg slaws_szDialedS_r8) (.ret)) (.skip))))) (.reg slaws_szDialedS_r9)))))) (.seq (.reg slaws_szDialedS_r10) (.ret)))))
def slaws_szDialedS : SFn := { nslots := 7, nobjs := 0, params := [0, 1], ngiven := 0, bor := false, takes := [], body := slaws_szDialedS_b, results := [.slot 2] }
def slaws_szDialedS_t : List Tmp := [0, 1, 4, 5, 11, 15, 25]
attribute [simp] slaws_szDialedS_r0 slaws_szDialedS_r1 slaws_szDialedS_r2 slaws_szDialedS_r3 slaws_szDialedS_r4 slaws_szDialedS_r5 slaws_szDialedS_r6 slaws_szDialedS_r7 slaws_szDialedS_r8 slaws_szDialedS_r9 slaws_szDialedS_r10 slaws_szDialedS_b slaws_szDialedS
def slaws_szLoggedS_r0 : Reg :=
  { id := 0, ops := [{ op := .mv (.con (.sc (.int .i64 0))) }], clr := [2] }
def slaws_szLoggedS_r1 : Reg :=
  { id := 1, ops := [{ op := .mv (.slot 1) },
      { op := .mv (.slot 0) },
      { op := .len false (.loc 1) },
      { op := .bin .sub (.loc 0) (.loc 2) },
      { op := .mv (.loc 3) }], sets := [(1, 4)] }
def slaws_szLoggedS_r2 : Reg :=
  { id := 2, ops := [{ op := .mv (.slot 1) },
      { op := .bin .lss (.loc 0) (.con (.sc (.int .i64 0))) }], sets := [(4, 1)] }
def slaws_szLoggedS_r3 : Reg :=
  { id := 3, ops := [{ op := .mv (.con (.sc (.int .i64 (-1)))) }], sets := [(2, 0)], clr := [0, 1] }
def slaws_szLoggedS_r4 : Reg :=
  { id := 4, ops := [{ op := .mv (.con (.sc (.int .i64 0))) }], sets := [(3, 0)] }
def slaws_szLoggedS_r5 : Reg :=
  { id := 5, ops := [{ op := .mv (.slot 3) },
      { op := .mv (.slot 0) },
      { op := .len false (.loc 1) },
      { op := .bin .lss (.loc 0) (.loc 2) }], sets := [(5, 3)] }
def slaws_szLoggedS_r6 : Reg :=
  { id := 7, ops := [{ op := .mv (.slot 0) },
      { op := .mv (.slot 3) },
      { op := .indexAddr 8 (.loc 0) (.loc 1) },
      { op := .load (some 8) (.loc 2) },
      { op := .mv (.slot 1) },
      { op := .call 64 [(false, .loc 3), (false, .loc 4)] [] },
      { op := .mv (.loc 5) }], sets := [(1, 6)] }
def slaws_szLoggedS_r7 : Reg :=
  { id := 8, ops := [{ op := .mv (.slot 1) },
      { op := .bin .lss (.loc 0) (.con (.sc (.int .i64 0))) }], sets := [(6, 1)] }
def slaws_szLoggedS_r8 : Reg :=
  { id := 9, ops := [{ op := .mv (.con (.sc (.int .i64 (-1)))) }], sets := [(2, 0)], clr := [0, 1, 3] }
def slaws_szLoggedS_r9 : Reg :=
  { id := 6, ops := [{ op := .mv (.slot 3) },
      { op := .bin .add (.loc 0) (.con (.sc (.int .i64 1))) },
      { op := .mv (.loc 1) }], sets := [(3, 2)] }
def slaws_szLoggedS_r10 : Reg :=
  { id := 10, ops := [{ op := .mv (.slot 1) },
      { op := .mv (.loc 0) }], sets := [(2, 1)], clr := [0, 1, 3] }
def slaws_szLoggedS_b : SC := .seq (.reg slaws_szLoggedS_r0) (.seq (.reg slaws_szLoggedS_r1) (.seq (.seq (.reg slaws_szLoggedS_r2) (.cond 4 (.seq (.reg slaws_szLoggedS_r3) (.ret)) (.skip))) (.seq (.seq (.reg slaws_szLoggedS_r4) (.block 0 (.loop (.seq (.seq (.reg slaws_szLoggedS_r5) (.cond 5 (.skip) (.exit 0))) (.seq (.block 1 (.seq (.reg slaws_szLoggedS_r6) (.seq (.reg slaws_szLoggedS_r7) (.cond 6 (.seq (.reg slaws_szLoggedS_r8) (.ret)) (.skip))))) (.reg slaws_szLoggedS_r9)))))) (.seq (.reg slaws_szLoggedS_r10) (.ret)))))
def slaws_szLoggedS : SFn := { nslots := 7, nobjs := 0, params := [0, 1], ngiven := 0, bor := false, takes := [], body := slaws_szLoggedS_b, results := [.slot 2] }
def slaws_szLoggedS_t : List Tmp := [0, 1, 4, 5, 11, 15, 25]
attribute [simp] slaws_szLoggedS_r0 slaws_szLoggedS_r1 slaws_szLoggedS_r2 slaws_szLoggedS_r3 slaws_szLoggedS_r4 slaws_szLoggedS_r5 slaws_szLoggedS_r6 slaws_szLoggedS_r7 slaws_szLoggedS_r8 slaws_szLoggedS_r9 slaws_szLoggedS_r10 slaws_szLoggedS_b slaws_szLoggedS
def slaws_toEndpointS_r0 : Reg :=
  { id := 0, ops := [{ op := .mv (.con (.nil 4)) }], clr := [1] }
def slaws_toEndpointS_r1 : Reg :=
  { id := 1, ops := [{ op := .mv (.slot 0) },
      { op := .len false (.loc 0) },
      { op := .makeSlice 0 4 80 [.sl 0 1 0 [], .sl 0 1 0 [], .sl 0 4 0 [], .sc (.int .i64 0)] (.loc 1) },
      { op := .mv (.loc 2) }], sets := [(2, 3)] }
def slaws_toEndpointS_r2 : Reg :=
  { id := 2, ops := [{ op := .mv (.con (.sc (.int .i64 0))) }], sets := [(3, 0)] }
def slaws_toEndpointS_r3 : Reg :=
  { id := 3, ops := [{ op := .mv (.slot 3) },
      { op := .mv (.slot 0) },
      { op := .len false (.loc 1) },
      { op := .bin .lss (.loc 0) (.loc 2) }], sets := [(4, 3)] }
def slaws_toEndpointS_r4 : Reg :=
  { id := 5, fresh := [1, 2, 3], ops := [{ op := .mv (.slot 2) },
      { op := .mv (.slot 3) },
      { op := .mv (.slot 0) },
      { op := .mv (.slot 3) },
      { op := .indexAddr 4 (.loc 2) (.loc 3) },
      { op := .load (some 4) (.loc 4) },
      { op := .call 98 [(false, .loc 5)] [1, 2, 3] },
      { op := .indexAddr 4 (.loc 0) (.loc 1) },
      { op := .store 4 (.loc 7) (.loc 6) }] }
def slaws_toEndpointS_r5 : Reg :=
  { id := 4, ops := [{ op := .mv (.slot 3) },
      { op := .bin .add (.loc 0) (.con (.sc (.int .i64 1))) },
      { op := .mv (.loc 1) }], sets := [(3, 2)] }
def slaws_toEndpointS_r6 : Reg :=
  { id := 6, ops := [{ op := .mv (.slot 2) },
      { op := .mv (.loc 0) }], sets := [(1, 1)], clr := [0, 2, 3] }
def slaws_toEndpointS_b : SC := .seq (.reg slaws_toEndpointS_r0) (.seq (.reg slaws_toEndpointS_r1) (.seq (.seq (.reg slaws_toEndpointS_r2) (.block 0 (.loop (.seq (.seq (.reg slaws_toEndpointS_r3) (.cond 4 (.skip) (.exit 0))) (.seq (.block 1 (.reg slaws_toEndpointS_r4)) (.reg slaws_toEndpointS_r5)))))) (.seq (.reg slaws_toEndpointS_r6) (.ret))))
def slaws_toEndpointS : SFn := { nslots := 5, nobjs := 4, params := [0], ngiven := 0, bor := false, takes := [], body := slaws_toEndpointS_b, results := [.slot 1] }
def slaws_toEndpointS_t : List Tmp := [0, 2, 3, 4, 11]
attribute [simp] slaws_toEndpointS_r0 slaws_toEndpointS_r1 slaws_toEndpointS_r2 slaws_toEndpointS_r3 slaws_toEndpointS_r4 slaws_toEndpointS_r5 slaws_toEndpointS_r6 slaws_toEndpointS_b slaws_toEndpointS
def slaws_toRollout_r0 : Reg :=
  { id := 0, ops := [{ op := .box 0 (.slot 0) },
      { op := .alloc 1 [.sc (.int .i64 0), .nil 1, .sc (.int .i64 0), .sc (.bool false)] }], sets := [(1, 0), (2, 1)], clr := [0] }
def slaws_toRollout_r1 : Reg :=
  { id := 1, ops := [{ op := .alloc 2 [.sc (.int .i64 0), .nil 1, .sc (.int .i64 0), .sc (.bool false)] }], sets := [(3, 0)] }
def slaws_toRollout_r2 : Reg :=
  { id := 2, ops := [{ op := .fieldAddr (.slot 1) 0 },
      { op := .load none (.loc 0) },
      { op := .fieldAddr (.slot 3) 0 },
      { op := .store 1 (.loc 2) (.loc 1) }] }
def slaws_toRollout_r3 : Reg :=
  { id := 3, ops := [{ op := .fieldAddr (.slot 1) 1 },
      { op := .load none (.loc 0) },
      { op := .call 31 [(false, .loc 1)] [3] },
      { op := .fieldAddr (.slot 3) 1 },
      { op := .store 1 (.loc 3) (.loc 2) }] }
def slaws_toRollout_r4 : Reg :=
  { id := 4, ops := [{ op := .fieldAddr (.slot 1) 2 },
      { op := .load none (.loc 0) },
      { op := .fieldAddr (.slot 3) 2 },
      { op := .store 1 (.loc 2) (.loc 1) }] }
def slaws_toRollout_r5 : Reg :=
  { id := 5, ops := [{ op := .fieldAddr (.slot 1) 3 },
      { op := .load none (.loc 0) },
      { op := .fieldAddr (.slot 3) 3 },
      { op := .store 1 (.loc 2) (.loc 1) }], clr := [1] }
def slaws_toRollout_r6 : Reg :=
  { id := 6, ops := [{ op := .load (some 4) (.slot 3) },
      { op := .store 4 (.slot 2) (.loc 0) }], clr := [3] }
def slaws_toRollout_b : SC := .seq (.reg slaws_toRollout_r0) (.seq (.reg slaws_toRollout_r1) (.seq (.reg slaws_toRollout_r2) (.seq (.reg slaws_toRollout_r3) (.seq (.reg slaws_toRollout_r4) (.seq (.reg slaws_toRollout_r5) (.seq (.reg slaws_toRollout_r6) (.ret)))))))
def slaws_toRollout : SFn := { nslots := 4, nobjs := 4, params := [0], ngiven := 0, bor := false, takes := [], body := slaws_toRollout_b, results := [.cell 2 (some 4)] }
def slaws_toRollout_t : List Tmp := [0, 1, 2, 3]
attribute [simp] slaws_toRollout_r0 slaws_toRollout_r1 slaws_toRollout_r2 slaws_toRollout_r3 slaws_toRollout_r4 slaws_toRollout_r5 slaws_toRollout_r6 slaws_toRollout_b slaws_toRollout
def slaws_toDialedS_r0 : Reg :=
  { id := 0, ops := [{ op := .mv (.con (.nil 5)) }], clr := [1] }
def slaws_toDialedS_r1 : Reg :=
  { id := 1, ops := [{ op := .mv (.slot 0) },
      { op := .len false (.loc 0) },
      { op := .makeSlice 0 5 72 [.sc (.bool false), .sc (.int .i64 0), .sl 0 1 0 [], .sc (.int .i64 0), .sl 0 1 0 []] (.loc 1) },
      { op := .mv (.loc 2) }], sets := [(2, 3)] }
def slaws_toDialedS_r2 : Reg :=
  { id := 2, ops := [{ op := .mv (.con (.sc (.int .i64 0))) }], sets := [(3, 0)] }
def slaws_toDialedS_r3 : Reg :=
  { id := 3, ops := [{ op := .mv (.slot 3) },
      { op := .mv (.slot 0) },
      { op := .len false (.loc 1) },
      { op := .bin .lss (.loc 0) (.loc 2) }], sets := [(4, 3)] }
def slaws_toDialedS_r4 : Reg :=
  { id := 5, fresh := [1, 2], ops := [{ op := .mv (.slot 2) },
      { op := .mv (.slot 3) },
      { op := .mv (.slot 0) },
      { op := .mv (.slot 3) },
      { op := .indexAddr 5 (.loc 2) (.loc 3) },
      { op := .load (some 5) (.loc 4) },
      { op := .call 99 [(false, .loc 5)] [1, 2] },
      { op := .indexAddr 5 (.loc 0) (.loc 1) },
      { op := .store 5 (.loc 7) (.loc 6) }] }
def slaws_toDialedS_r5 : Reg :=
  { id := 4, ops := [{ op := .mv (.slot 3) },
      { op := .bin .add (.loc 0) (.con (.sc (.int .i64 1))) },
      { op := .mv (.loc 1) }], sets := [(3, 2)] }
def slaws_toDialedS_r6 : Reg :=
  { id := 6, ops := [{ op := .mv (.slot 2) },
      { op := .mv (.loc 0) }], sets := [(1, 1)], clr := [0, 2, 3] }
def slaws_toDialedS_b : SC := .seq (.reg slaws_toDialedS_r0) (.seq (.reg slaws_toDialedS_r1) (.seq (.seq (.reg slaws_toDialedS_r2) (.block 0 (.loop (.seq (.seq (.reg slaws_toDialedS_r3) (.cond 4 (.skip) (.exit 0))) (.seq (.block 1 (.reg slaws_toDialedS_r4)) (.reg slaws_toDialedS_r5)))))) (.seq (.reg slaws_toDialedS_r6) (.ret))))
def slaws_toDialedS : SFn := { nslots := 5, nobjs := 3, params := [0], ngiven := 0, bor := false, takes := [], body := slaws_toDialedS_b, results := [.slot 1] }
def slaws_toDialedS_t : List Tmp := [0, 2, 3, 4, 11]
attribute [simp] slaws_toDialedS_r0 slaws_toDialedS_r1 slaws_toDialedS_r2 slaws_toDialedS_r3 slaws_toDialedS_r4 slaws_toDialedS_r5 slaws_toDialedS_r6 slaws_toDialedS_b slaws_toDialedS
def slaws_toLoggedS_r0 : Reg :=
  { id := 0, ops := [{ op := .mv (.con (.nil 8)) }], clr := [1] }
def slaws_toLoggedS_r1 : Reg :=
  { id := 1, ops := [{ op := .mv (.slot 0) },
      { op := .len false (.loc 0) },
      { op := .makeSlice 0 8 96 [.sc (.int .i64 0), .sc (.int .i64 0), .sc (.bool false), .sc (.bool false), .sc (.int .i64 0), .sl 0 1 0 [], .sc (.int .i64 0), .sl 0 1 0 []] (.loc 1) },
      { op := .mv (.loc 2) }], sets := [(2, 3)] }
def slaws_toLoggedS_r2 : Reg :=
  { id := 2, ops := [{ op := .mv (.con (.sc (.int .i64 0))) }], sets := [(3, 0)] }
def slaws_toLoggedS_r3 : Reg :=
  { id := 3, ops := [{ op := .mv (.slot 3) },
      { op := .mv (.slot 0) },
      { op := .len false (.loc 1) },
      { op := .bin .lss (.loc 0) (.loc 2) }], sets := [(4, 3)] }
def slaws_toLoggedS_r4 : Reg :=
  { id := 5, fresh := [1, 2], ops := [{ op := .mv (.slot 2) },
      { op := .mv (.slot 3) },
      { op := .mv (.slot 0) },
      { op := .mv (.slot 3) },
      { op := .indexAddr 8 (.loc 2) (.loc 3) },
      { op := .load (some 8) (.loc 4) },
      { op := .call 100 [(false, .loc 5)] [1, 2] },
      { op := .indexAddr 8 (.loc 0) (.loc 1) },
      { op := .store 8 (.loc 7) (.loc 6) }] }
def slaws_toLoggedS_r5 : Reg :=
  { id := 4, ops := [{ op := .mv (.slot 3) },
      { op := .bin .add (.loc 0) (.con (.sc (.int .i64 1))) },
      { op := .mv (.loc 1) }], sets := [(3, 2)] }
def slaws_toLoggedS_r6 : Reg :=
  { id := 6, ops := [{ op := .mv (.slot 2) },
      { op := .mv (.loc 0) }], sets := [(1, 1)], clr := [0, 2, 3] }
def slaws_toLoggedS_b : SC := .seq (.reg slaws_toLoggedS_r0) (.seq (.reg slaws_toLoggedS_r1) (.seq (.seq (.reg slaws_toLoggedS_r2) (.block 0 (.loop (.seq (.seq (.reg slaws_toLoggedS_r3) (.cond 4 (.skip) (.exit 0))) (.seq (.block 1 (.reg slaws_toLoggedS_r4)) (.reg slaws_toLoggedS_r5)))))) (.seq (.reg slaws_toLoggedS_r6) (.ret))))
def slaws_toLoggedS : SFn := { nslots := 5, nobjs := 3, params := [0], ngiven := 0, bor := false, takes := [], body := slaws_toLoggedS_b, results := [.slot 1] }
def slaws_toLoggedS_t : List Tmp := [0, 2, 3, 4, 11]
attribute [simp] slaws_toLoggedS_r0 slaws_toLoggedS_r1 slaws_toLoggedS_r2 slaws_toLoggedS_r3 slaws_toLoggedS_r4 slaws_toLoggedS_r5 slaws_toLoggedS_r6 slaws_toLoggedS_b slaws_toLoggedS
def slaws_eqRollout_r0 : Reg :=
  { id := 0, ops := [{ op := .box 0 (.slot 0) },
      { op := .box 1 (.slot 1) },
      { op := .mv (.con (.sc (.bool false))) }], sets := [(2, 0), (3, 1)], clr := [0, 1, 4] }
def slaws_eqRollout_r1 : Reg :=
  { id := 1, ops := [{ op := .fieldAddr (.slot 2) 0 },
      { op := .load none (.loc 0) },
      { op := .fieldAddr (.slot 3) 0 },
      { op := .load none (.loc 2) },
      { op := .bin .neq (.loc 1) (.loc 3) }], sets := [(5, 4)] }
def slaws_eqRollout_r2 : Reg :=
  { id := 2, ops := [{ op := .mv (.con (.sc (.bool false))) }], sets := [(4, 0)], clr := [2, 3] }
def slaws_eqRollout_r3 : Reg :=
  { id := 3, ops := [{ op := .fieldAddr (.slot 2) 1 },
      { op := .load none (.loc 0) },
      { op := .fieldAddr (.slot 3) 1 },
      { op := .load none (.loc 2) },
      { op := .call 47 [(false, .loc 1), (false, .loc 3)] [] },
      { op := .un .not (.loc 4) }], sets := [(6, 5)] }
def slaws_eqRollout_r4 : Reg :=
  { id := 4, ops := [{ op := .mv (.con (.sc (.bool false))) }], sets := [(4, 0)], clr := [2, 3] }
def slaws_eqRollout_r5 : Reg :=
  { id := 5, ops := [{ op := .fieldAddr (.slot 2) 2 },
      { op := .load none (.loc 0) },
      { op := .fieldAddr (.slot 3) 2 },
      { op := .load none (.loc 2) },
      { op := .bin .neq (.loc 1) (.loc 3) }], sets := [(7, 4)] }
def slaws_eqRollout_r6 : Reg :=
  { id := 6, ops := [{ op := .mv (.con (.sc (.bool false))) }], sets := [(4, 0)], clr := [2, 3] }
def slaws_eqRollout_r7 : Reg :=
  { id := 7, ops := [{ op := .fieldAddr (.slot 2) 3 },
      { op := .load none (.loc 0) },
      { op := .fieldAddr (.slot 3) 3 },
      { op := .load none (.loc 2) },
      { op := .beq true (.loc 1) (.loc 3) }], sets := [(8, 4)], clr := [2, 3] }
def slaws_eqRollout_r8 : Reg :=
  { id := 8, ops := [{ op := .mv (.con (.sc (.bool false))) }], sets := [(4, 0)] }
def slaws_eqRollout_r9 : Reg :=
  { id := 9, ops := [{ op := .mv (.con (.sc (.bool true))) }], sets := [(4, 0)] }
def slaws_eqRollout_b : SC := .seq (.reg slaws_eqRollout_r0) (.seq (.seq (.reg slaws_eqRollout_r1) (.cond 5 (.seq (.reg slaws_eqRollout_r2) (.ret)) (.skip))) (.seq (.seq (.reg slaws_eqRollout_r3) (.cond 6 (.seq (.reg slaws_eqRollout_r4) (.ret)) (.skip))) (.seq (.seq (.reg slaws_eqRollout_r5) (.cond 7 (.seq (.reg slaws_eqRollout_r6) (.ret)) (.skip))) (.seq (.seq (.reg slaws_eqRollout_r7) (.cond 8 (.seq (.reg slaws_eqRollout_r8) (.ret)) (.skip))) (.seq (.reg slaws_eqRollout_r9) (.ret))))))
def slaws_eqRollout : SFn := { nslots := 9, nobjs := 2, params := [0, 1], ngiven := 0, bor := false, takes := [], body := slaws_eqRollout_b, results := [.slot 4] }
def slaws_eqRollout_t : List Tmp := [0, 1, 2, 3, 4, 9, 15, 20, 25]
attribute [simp] slaws_eqRollout_r0 slaws_eqRollout_r1 slaws_eqRollout_r2 slaws_eqRollout_r3 slaws_eqRollout_r4 slaws_eqRollout_r5 slaws_eqRollout_r6 slaws_eqRollout_r7 slaws_eqRollout_r8 slaws_eqRollout_r9 slaws_eqRollout_b slaws_eqRollout
def slaws_eqDialedS_r0 : Reg :=
  { id := 0, ops := [{ op := .mv (.con (.sc (.bool false))) }], clr := [2] }
def slaws_eqDialedS_r1 : Reg :=
  { id := 1, ops := [{ op := .mv (.slot 0) },
      { op := .len false (.loc 0) },
      { op := .mv (.slot 1) },
      { op := .len false (.loc 2) },
      { op := .bin .neq (.loc 1) (.loc 3) }], sets := [(4, 4)] }
def slaws_eqDialedS_r2 : Reg :=
  { id := 2, ops := [{ op := .mv (.con (.sc (.bool false))) }], sets := [(2, 0)], clr := [0, 1] }
def slaws_eqDialedS_r3 : Reg :=
  { id := 3, ops := [{ op := .mv (.con (.sc (.int .i64 0))) }], sets := [(3, 0)] }
def slaws_eqDialedS_r4 : Reg :=
  { id := 4, ops := [{ op := .mv (.slot 3) },
      { op := .mv (.slot 0) },
      { op := .len false (.loc 1) },
      { op := .bin .lss (.loc 0) (.loc 2) }], sets := [(5, 3)] }
def slaws_eqDialedS_r5 : Reg :=
  { id := 6, draw := true, ops := [{ op := .mv (.slot 0), tau := some [], om := [] },
      { op := .mv (.slot 3), tau := some [], om := [] },
      { op := .indexAddr 5 (.loc 0) (.loc 1), tau := some [], om := [] },
      { op := .load (some 5) (.loc 2), tau := some [], om := [] },
      { op := .mv (.slot 1), tau := some [], om := [] },
      { op := .mv (.slot 3), tau := some [], om := [] },
      { op := .indexAddr 5 (.loc 4) (.loc 5), tau := some [], om := [] },
      { op := .load (some 5) (.loc 6), tau := some [], om := [] },
      { op := .call 135 [(false, .loc 3), (false, .loc 7)] [], tau := some [], om := [] },
      { op := .un .not (.loc 8), tau := some [], om := [] }], sets := [(6, 9)] }
def slaws_eqDialedS_r6 : Reg :=
  { id := 7, ops := [{ op := .mv (.con (.sc (.bool false))) }], sets := [(2, 0)], clr := [0, 1, 3] }
def slaws_eqDialedS_r7 : Reg :=
  { id := 5, ops := [{ op := .mv (.slot 3) },
      { op := .bin .add (.loc 0) (.con (.sc (.int .i64 1))) },
      { op := .mv (.loc 1) }], sets := [(3, 2)] }
def slaws_eqDialedS_r8 : Reg :=
  { id := 8, ops := [{ op := .mv (.con (.sc (.bool true))) }], sets := [(2, 0)], clr := [0, 1, 3] }
def slaws_eqDialedS_b : SC := .seq (.reg slaws_eqDialedS_r0) (.seq (.seq (.reg slaws_eqDialedS_r1) (.cond 4 (.seq (.reg slaws_eqDialedS_r2) (.ret)) (.skip))) (.seq (.seq (.reg slaws_eqDialedS_r3) (.block 0 (.loop (.seq (.seq (.reg slaws_eqDialedS_r4) (.cond 5 (.skip) (.exit 0))) (.seq (.block 1 (.seq (.reg slaws_eqDialedS_r5) (.cond 6 (.seq (.reg slaws_eqDialedS_r6) (.ret)) (.skip)))) (.reg slaws_eqDialedS_r7)))))) (.seq (.reg slaws_eqDialedS_r8) (.ret))))
def slaws_eqDialedS : SFn := { nslots := 7, nobjs := 0, params := [0, 1], ngiven := 0, bor := false, takes := [], body := slaws_eqDialedS_b, results := [.slot 2] }
def slaws_eqDialedS_t : List Tmp := [0, 1, 4, 5, 10, 14, 26]
attribute [simp] slaws_eqDialedS_r0 slaws_eqDialedS_r1 slaws_eqDialedS_r2 slaws_eqDialedS_r3 slaws_eqDialedS_r4 slaws_eqDialedS_r5 slaws_eqDialedS_r6 slaws_eqDialedS_r7 slaws_eqDialedS_r8 slaws_eqDialedS_b slaws_eqDialedS
def slaws_eqLoggedS_r0 : Reg :=
  { id := 0, ops := [{ op := .mv (.con (.sc (.bool false))) }], clr := [2] }
def slaws_eqLoggedS_r1 : Reg :=
  { id := 1, ops := [{ op := .mv (.slot 0) },
      { op := .len false (.loc 0) },
      { op := .mv (.slot 1) },
      { op := .len false (.loc 2) },
      { op := .bin .neq (.loc 1) (.loc 3) }], sets := [(4, 4)] }
def slaws_eqLoggedS_r2 : Reg :=
  { id := 2, ops := [{ op := .mv (.con (.sc (.bool false))) }], sets := [(2, 0)], clr := [0, 1] }
def slaws_eqLoggedS_r3 : Reg :=
  { id := 3, ops := [{ op := .mv (.con (.sc (.int .i64 0))) }], sets := [(3, 0)] }
def slaws_eqLoggedS_r4 : Reg :=
  { id := 4, ops := [{ op := .mv (.slot 3) },
      { op := .mv (.slot 0) },
      { op := .len false (.loc 1) },
      { op := .bin .lss (.loc 0) (.loc 2) }], sets := [(5, 3)] }
def slaws_eqLoggedS_r5 : Reg :=
  { id := 6, draw := true, ops := [{ op := .mv (.slot 0), tau := some [], om := [] },
      { op := .mv (.slot 3), tau := some [], om := [] },
      { op := .indexAddr 8 (.loc 0) (.loc 1), tau := some [], om := [] },
      { op := .load (some 8) (.loc 2), tau := some [], om := [] },
      { op := .mv (.slot 1), tau := some [], om := [] },
      { op := .mv (.slot 3), tau := some [], om := [] },
      { op := .indexAddr 8 (.loc 4) (.loc 5), tau := some [], om := [] },
      { op := .load (some 8) (.loc 6), tau := some [], om := [] },
      { op := .call 136 [(false, .loc 3), (false, .loc 7)] [], tau := some [], om := [] },
      { op := .un .not (.loc 8), tau := some [], om := [] }], sets := [(6, 9)] }
def slaws_eqLoggedS_r6 : Reg :=
  { id := 7, ops := [{ op := .mv (.con (.sc (.bool false))) }], sets := [(2, 0)], clr := [0, 1, 3] }
def slaws_eqLoggedS_r7 : Reg :=
  { id := 5, ops := [{ op := .mv (.slot 3) },
      { op := .bin .add (.loc 0) (.con (.sc (.int .i64 1))) },
      { op := .mv (.loc 1) }], sets := [(3, 2)] }
def slaws_eqLoggedS_r8 : Reg :=
  { id := 8, ops := [{ op := .mv (.con (.sc (.bool true))) }], sets := [(2, 0)], clr := [0, 1, 3] }
def slaws_eqLoggedS_b : SC := .seq (.reg slaws_eqLoggedS_r0) (.seq (.seq (.reg slaws_eqLoggedS_r1) (.cond 4 (.seq (.reg slaws_eqLoggedS_r2) (.ret)) (.skip))) (.seq (.seq (.reg slaws_eqLoggedS_r3) (.block 0 (.loop (.seq (.seq (.reg slaws_eqLoggedS_r4) (.cond 5 (.skip) (.exit 0))) (.seq (.block 1 (.seq (.reg slaws_eqLoggedS_r5) (.cond 6 (.seq (.reg slaws_eqLoggedS_r6) (.ret)) (.skip)))) (.reg slaws_eqLoggedS_r7)))))) (.seq (.reg slaws_eqLoggedS_r8) (.ret))))
def slaws_eqLoggedS : SFn := { nslots := 7, nobjs := 0, params := [0, 1], ngiven := 0, bor := false, takes := [], body := slaws_eqLoggedS_b, results := [.slot 2] }
def slaws_eqLoggedS_t : List Tmp := [0, 1, 4, 5, 10, 14, 26]
attribute [simp] slaws_eqLoggedS_r0 slaws_eqLoggedS_r1 slaws_eqLoggedS_r2 slaws_eqLoggedS_r3 slaws_eqLoggedS_r4 slaws_eqLoggedS_r5 slaws_eqLoggedS_r6 slaws_eqLoggedS_r7 slaws_eqLoggedS_r8 slaws_eqLoggedS_b slaws_eqLoggedS
def slaws_szEndpoint_r0 : Reg :=
  { id := 0, ops := [{ op := .box 0 (.slot 0) },
      { op := .mv (.con (.sc (.int .i64 0))) }], sets := [(2, 0)], clr := [0, 3] }
def slaws_szEndpoint_r1 : Reg :=
  { id := 1, ops := [{ op := .fieldAddr (.slot 2) 0 },
      { op := .load none (.loc 0) },
      { op := .mv (.slot 1) },
      { op := .call 16 [(false, .loc 1), (false, .loc 2)] [] },
      { op := .mv (.loc 3) }], sets := [(1, 4)] }
def slaws_szEndpoint_r2 : Reg :=
  { id := 2, ops := [{ op := .mv (.slot 1) },
      { op := .bin .lss (.loc 0) (.con (.sc (.int .i64 0))) }], sets := [(4, 1)] }
def slaws_szEndpoint_r3 : Reg :=
  { id := 3, ops := [{ op := .mv (.con (.sc (.int .i64 (-1)))) }], sets := [(3, 0)], clr := [1, 2] }
def slaws_szEndpoint_r4 : Reg :=
  { id := 4, ops := [{ op := .fieldAddr (.slot 2) 1 },
      { op := .load none (.loc 0) },
      { op := .mv (.slot 1) },
      { op := .call 16 [(false, .loc 1), (false, .loc 2)] [] },
      { op := .mv (.loc 3) }], sets := [(1, 4)] }
def slaws_szEndpoint_r5 : Reg :=
  { id := 5, ops := [{ op := .mv (.slot 1) },
      { op := .bin .lss (.loc 0) (.con (.sc (.int .i64 0))) }], sets := [(5, 1)] }
def slaws_szEndpoint_r6 : Reg :=
  { id := 6, ops := [{ op := .mv (.con (.sc (.int .i64 (-1)))) }], sets := [(3, 0)], clr := [1, 2] }
def slaws_szEndpoint_r7 : Reg :=
  { id := 7, ops := [{ op := .fieldAddr (.slot 2) 2 },
      { op := .load none (.loc 0) },
      { op := .mv (.slot 1) },
      { op := .call 139 [(false, .loc 1), (false, .loc 2)] [] },
      { op := .mv (.loc 3) }], sets := [(1, 4)], clr := [2] }
def slaws_szEndpoint_r8 : Reg :=
  { id := 8, ops := [{ op := .mv (.slot 1) },
      { op := .bin .lss (.loc 0) (.con (.sc (.int .i64 0))) }], sets := [(6, 1)] }
def slaws_szEndpoint_r9 : Reg :=
  { id := 9, ops := [{ op := .mv (.con (.sc (.int .i64 (-1)))) }], sets := [(3, 0)], clr := [1] }
def slaws_szEndpoint_r10 : Reg :=
  { id := 10, ops := [{ op := .mv (.slot 1) },
      { op := .mv (.loc 0) }], sets := [(3, 1)], clr := [1] }
def slaws_szEndpoint_b : SC := .seq (.reg slaws_szEndpoint_r0) (.seq (.reg slaws_szEndpoint_r1) (.seq (.seq (.reg slaws_szEndpoint_r2) (.cond 4 (.seq (.reg slaws_szEndpoint_r3) (.ret)) (.skip))) (.seq (.reg slaws_szEndpoint_r4) (.seq (.seq (.reg slaws_szEndpoint_r5) (.cond 5 (.seq (.reg slaws_szEndpoint_r6) (.ret)) (.skip))) (.seq (.reg slaws_szEndpoint_r7) (.seq (.seq (.reg slaws_szEndpoint_r8) (.cond 6 (.seq (.reg slaws_szEndpoint_r9) (.ret)) (.skip))) (.seq (.reg slaws_szEndpoint_r10) (.ret))))))))
def slaws_szEndpoint : SFn := { nslots := 7, nobjs := 1, params := [0, 1], ngiven := 0, bor := false, takes := [], body := slaws_szEndpoint_b, results := [.slot 3] }
def slaws_szEndpoint_t : List Tmp := [0, 1, 2, 4, 10, 16, 22]
attribute [simp] slaws_szEndpoint_r0 slaws_szEndpoint_r1 slaws_szEndpoint_r2 slaws_szEndpoint_r3 slaws_szEndpoint_r4 slaws_szEndpoint_r5 slaws_szEndpoint_r6 slaws_szEndpoint_r7 slaws_szEndpoint_r8 slaws_szEndpoint_r9 slaws_szEndpoint_r10 slaws_szEndpoint_b slaws_szEndpoint
def slaws_szLogged_r0 : Reg :=
  { id := 0, ops := [{ op := .box 0 (.slot 0) },
      { op := .mv (.con (.sc (.int .i64 0))) }], sets := [(2, 0)], clr := [0, 3] }
def slaws_szLogged_r1 : Reg :=
  { id := 1, ops := [{ op := .fieldAddr (.slot 2) 3 },
      { op := .load (some 5) (.loc 0) },
      { op := .mv (.slot 1) },
      { op := .call 63 [(false, .loc 1), (false, .loc 2)] [] },
      { op := .mv (.loc 3) }], sets := [(1, 4)], clr := [2] }
def slaws_szLogged_r2 : Reg :=
  { id := 2, ops := [{ op := .mv (.slot 1) },
      { op := .bin .lss (.loc 0) (.con (.sc (.int .i64 0))) }], sets := [(4, 1)] }
def slaws_szLogged_r3 : Reg :=
  { id := 3, ops := [{ op := .mv (.con (.sc (.int .i64 (-1)))) }], sets := [(3, 0)], clr := [1] }
def slaws_szLogged_r4 : Reg :=
  { id := 4, ops := [{ op := .mv (.slot 1) },
      { op := .mv (.loc 0) }], sets := [(3, 1)], clr := [1] }
def slaws_szLogged_b : SC := .seq (.reg slaws_szLogged_r0) (.seq (.reg slaws_szLogged_r1) (.seq (.seq (.reg slaws_szLogged_r2) (.cond 4 (.seq (.reg slaws_szLogged_r3) (.ret)) (.skip))) (.seq (.reg slaws_szLogged_r4) (.ret))))
def slaws_szLogged : SFn := { nslots := 5, nobjs := 1, params := [0, 1], ngiven := 0, bor := false, takes := [], body := slaws_szLogged_b, results := [.slot 3] }
def slaws_szLogged_t : List Tmp := [0, 1, 2, 4, 10]
attribute [simp] slaws_szLogged_r0 slaws_szLogged_r1 slaws_szLogged_r2 slaws_szLogged_r3 slaws_szLogged_r4 slaws_szLogged_b slaws_szLogged
def slaws_toEndpoint_r0 : Reg :=
  { id := 0, ops := [{ op := .box 0 (.slot 0) },
      { op := .alloc 1 [.nil 1, .nil 1, .nil 4, .sc (.int .i64 0)] }], sets := [(1, 0), (2, 1)], clr := [0] }
def slaws_toEndpoint_r1 : Reg :=
  { id := 1, ops := [{ op := .alloc 2 [.nil 1, .nil 1, .nil 4, .sc (.int .i64 0)] }], sets := [(3, 0)] }
def slaws_toEndpoint_r2 : Reg :=
  { id := 2, ops := [{ op := .fieldAddr (.slot 1) 0 },
      { op := .load none (.loc 0) },
      { op := .call 31 [(false, .loc 1)] [3] },
      { op := .fieldAddr (.slot 3) 0 },
      { op := .store 1 (.loc 3) (.loc 2) }] }
def slaws_toEndpoint_r3 : Reg :=
  { id := 3, ops := [{ op := .fieldAddr (.slot 1) 1 },
      { op := .load none (.loc 0) },
      { op := .call 31 [(false, .loc 1)] [4] },
      { op := .fieldAddr (.slot 3) 1 },
      { op := .store 1 (.loc 3) (.loc 2) }] }
def slaws_toEndpoint_r4 : Reg :=
  { id := 4, ops := [{ op := .fieldAddr (.slot 1) 2 },
      { op := .load none (.loc 0) },
      { op := .call 170 [(false, .loc 1)] [5] },
      { op := .fieldAddr (.slot 3) 2 },
      { op := .store 1 (.loc 3) (.loc 2) }] }
def slaws_toEndpoint_r5 : Reg :=
  { id := 5, ops := [{ op := .fieldAddr (.slot 1) 3 },
      { op := .load none (.loc 0) },
      { op := .fieldAddr (.slot 3) 3 },
      { op := .store 1 (.loc 2) (.loc 1) }], clr := [1] }
def slaws_toEndpoint_r6 : Reg :=
  { id := 6, ops := [{ op := .load (some 4) (.slot 3) },
      { op := .store 4 (.slot 2) (.loc 0) }], clr := [3] }
def slaws_toEndpoint_b : SC := .seq (.reg slaws_toEndpoint_r0) (.seq (.reg slaws_toEndpoint_r1) (.seq (.reg slaws_toEndpoint_r2) (.seq (.reg slaws_toEndpoint_r3) (.seq (.reg slaws_toEndpoint_r4) (.seq (.reg slaws_toEndpoint_r5) (.seq (.reg slaws_toEndpoint_r6) (.ret)))))))
def slaws_toEndpoint : SFn := { nslots := 4, nobjs := 6, params := [0], ngiven := 0, bor := false, takes := [], body := slaws_toEndpoint_b, results := [.cell 2 (some 4)] }
def slaws_toEndpoint_t : List Tmp := [0, 1, 2, 3]
attribute [simp] slaws_toEndpoint_r0 slaws_toEndpoint_r1 slaws_toEndpoint_r2 slaws_toEndpoint_r3 slaws_toEndpoint_r4 slaws_toEndpoint_r5 slaws_toEndpoint_r6 slaws_toEndpoint_b slaws_toEndpoint
def slaws_toLogged_r0 : Reg :=
  { id := 0, ops := [{ op := .box 0 (.slot 0) },
      { op := .alloc 1 [.sc (.int .i64 0), .sc (.int .i64 0), .sc (.bool false), .sc (.bool false), .sc (.int .i64 0), .nil 1, .sc (.int .i64 0), .nil 1] }], sets := [(1, 0), (2, 1)], clr := [0] }
def slaws_toLogged_r1 : Reg :=
  { id := 1, ops := [{ op := .alloc 2 [.sc (.int .i64 0), .sc (.int .i64 0), .sc (.bool false), .sc (.bool false), .sc (.int .i64 0), .nil 1, .sc (.int .i64 0), .nil 1] }], sets := [(3, 0)] }
def slaws_toLogged_r2 : Reg :=
  { id := 2, ops := [{ op := .fieldAddr (.slot 1) 0 },
      { op := .load none (.loc 0) },
      { op := .fieldAddr (.slot 3) 0 },
      { op := .store 1 (.loc 2) (.loc 1) }] }
def slaws_toLogged_r3 : Reg :=
  { id := 3, ops := [{ op := .fieldAddr (.slot 1) 1 },
      { op := .load none (.loc 0) },
      { op := .fieldAddr (.slot 3) 1 },
      { op := .store 1 (.loc 2) (.loc 1) }] }
def slaws_toLogged_r4 : Reg :=
  { id := 4, ops := [{ op := .fieldAddr (.slot 1) 2 },
      { op := .load none (.loc 0) },
      { op := .fieldAddr (.slot 3) 2 },
      { op := .store 1 (.loc 2) (.loc 1) }] }
def slaws_toLogged_r5 : Reg :=
  { id := 5, ops := [{ op := .fieldAddr (.slot 1) 3 },
      { op := .load (some 5) (.loc 0) },
      { op := .call 99 [(false, .loc 1)] [3, 4] },
      { op := .fieldAddr (.slot 3) 3 },
      { op := .store 5 (.loc 3) (.loc 2) }], clr := [1] }
def slaws_toLogged_r6 : Reg :=
  { id := 6, ops := [{ op := .load (some 8) (.slot 3) },
      { op := .store 8 (.slot 2) (.loc 0) }], clr := [3] }
def slaws_toLogged_b : SC := .seq (.reg slaws_toLogged_r0) (.seq (.reg slaws_toLogged_r1) (.seq (.reg slaws_toLogged_r2) (.seq (.reg slaws_toLogged_r3) (.seq (.reg slaws_toLogged_r4) (.seq (.reg slaws_toLogged_r5) (.seq (.reg slaws_toLogged_r6) (.ret)))))))
def slaws_toLogged : SFn := { nslots := 4, nobjs := 5, params := [0], ngiven := 0, bor := false, takes := [], body := slaws_toLogged_b, results := [.cell 2 (some 8)] }
def slaws_toLogged_t : List Tmp := [0, 1, 2, 3]
attribute [simp] slaws_toLogged_r0 slaws_toLogged_r1 slaws_toLogged_r2 slaws_toLogged_r3 slaws_toLogged_r4 slaws_toLogged_r5 slaws_toLogged_r6 slaws_toLogged_b slaws_toLogged
def slaws_eqLogged_r0 : Reg :=
  { id := 0, ops := [{ op := .box 0 (.slot 0) },
      { op := .box 1 (.slot 1) },
      { op := .mv (.con (.sc (.bool false))) }], sets := [(2, 0), (3, 1)], clr := [0, 1, 4] }
def slaws_eqLogged_r1 : Reg :=
  { id := 1, ops := [{ op := .fieldAddr (.slot 2) 0 },
      { op := .load none (.loc 0) },
      { op := .fieldAddr (.slot 3) 0 },
      { op := .load none (.loc 2) },
      { op := .bin .neq (.loc 1) (.loc 3) }], sets := [(5, 4)] }
def slaws_eqLogged_r2 : Reg :=
  { id := 2, ops := [{ op := .mv (.con (.sc (.bool false))) }], sets := [(4, 0)], clr := [2, 3] }
def slaws_eqLogged_r3 : Reg :=
  { id := 3, ops := [{ op := .fieldAddr (.slot 2) 1 },
      { op := .load none (.loc 0) },
      { op := .fieldAddr (.slot 3) 1 },
      { op := .load none (.loc 2) },
      { op := .bin .neq (.loc 1) (.loc 3) }], sets := [(6, 4)] }
def slaws_eqLogged_r4 : Reg :=
  { id := 4, ops := [{ op := .mv (.con (.sc (.bool false))) }], sets := [(4, 0)], clr := [2, 3] }
def slaws_eqLogged_r5 : Reg :=
  { id := 5, ops := [{ op := .fieldAddr (.slot 2) 2 },
      { op := .load none (.loc 0) },
      { op := .fieldAddr (.slot 3) 2 },
      { op := .load none (.loc 2) },
      { op := .beq true (.loc 1) (.loc 3) }], sets := [(7, 4)] }
def slaws_eqLogged_r6 : Reg :=
  { id := 6, ops := [{ op := .mv (.con (.sc (.bool false))) }], sets := [(4, 0)], clr := [2, 3] }
def slaws_eqLogged_r7 : Reg :=
  { id := 7, ops := [{ op := .fieldAddr (.slot 2) 3 },
      { op := .load (some 5) (.loc 0) },
      { op := .fieldAddr (.slot 3) 3 },
      { op := .load (some 5) (.loc 2) },
      { op := .call 135 [(false, .loc 1), (false, .loc 3)] [] },
      { op := .un .not (.loc 4) }], sets := [(8, 5)], clr := [2, 3] }
def slaws_eqLogged_r8 : Reg :=
  { id := 8, ops := [{ op := .mv (.con (.sc (.bool false))) }], sets := [(4, 0)] }
def slaws_eqLogged_r9 : Reg :=
  { id := 9, ops := [{ op := .mv (.con (.sc (.bool true))) }], sets := [(4, 0)] }
def slaws_eqLogged_b : SC := .seq (.reg slaws_eqLogged_r0) (.seq (.seq (.reg slaws_eqLogged_r1) (.cond 5 (.seq (.reg slaws_eqLogged_r2) (.ret)) (.skip))) (.seq (.seq (.reg slaws_eqLogged_r3) (.cond 6 (.seq (.reg slaws_eqLogged_r4) (.ret)) (.skip))) (.seq (.seq (.reg slaws_eqLogged_r5) (.cond 7 (.seq (.reg slaws_eqLogged_r6) (.ret)) (.skip))) (.seq (.seq (.reg slaws_eqLogged_r7) (.cond 8 (.seq (.reg slaws_eqLogged_r8) (.ret)) (.skip))) (.seq (.reg slaws_eqLogged_r9) (.ret))))))
def slaws_eqLogged : SFn := { nslots := 9, nobjs := 2, params := [0, 1], ngiven := 0, bor := false, takes := [], body := slaws_eqLogged_b, results := [.slot 4] }
def slaws_eqLogged_t : List Tmp := [0, 1, 2, 3, 4, 9, 14, 19, 25]
attribute [simp] slaws_eqLogged_r0 slaws_eqLogged_r1 slaws_eqLogged_r2 slaws_eqLogged_r3 slaws_eqLogged_r4 slaws_eqLogged_r5 slaws_eqLogged_r6 slaws_eqLogged_r7 slaws_eqLogged_r8 slaws_eqLogged_r9 slaws_eqLogged_b slaws_eqLogged
def slaws_szBoxS_r0 : Reg :=
  { id := 0, ops := [{ op := .mv (.con (.sc (.int .i64 0))) }], clr := [2] }
def slaws_szBoxS_r1 : Reg :=
  { id := 1, ops := [{ op := .mv (.slot 1) },
      { op := .mv (.slot 0) },
      { op := .len false (.loc 1) },
      { op := .bin .sub (.loc 0) (.loc 2) },
      { op := .mv (.loc 3) }], sets := [(1, 4)] }
def slaws_szBoxS_r2 : Reg :=
  { id := 2, ops := [{ op := .mv (.slot 1) },
      { op := .bin .lss (.loc 0) (.con (.sc (.int .i64 0))) }], sets := [(4, 1)] }
def slaws_szBoxS_r3 : Reg :=
  { id := 3, ops := [{ op := .mv (.con (.sc (.int .i64 (-1)))) }], sets := [(2, 0)], clr := [0, 1] }
def slaws_szBoxS_r4 : Reg :=
  { id := 4, ops := [{ op := .mv (.con (.sc (.int .i64 0))) }], sets := [(3, 0)] }
def slaws_szBoxS_r5 : Reg :=
  { id := 5, ops := [{ op := .mv (.slot 3) },
      { op := .mv (.slot 0) },
      { op := .len false (.loc 1) },
      { op := .bin .lss (.loc 0) (.loc 2) }], sets := [(5, 3)] }
def slaws_szBoxS_r6 : Reg :=
  { id := 7, ops := [{ op := .mv (.slot 0) },
      { op := .mv (.slot 3) },
      { op := .indexAddr 4 (.loc 0) (.loc 1) },
      { op := .load (some 4) (.loc 2) },
      { op := .mv (.slot 1) },
      { op := .call 206 [(false, .loc 3), (false, .loc 4)] [] },
      { op := .mv (.loc 5) }], sets := [(1, 6)] }
def slaws_szBoxS_r7 : Reg :=
  { id := 8, ops := [{ op := .mv (.slot 1) },
      { op := .bin .lss (.loc 0) (.con (.sc (.int .i64 0))) }], sets := [(6, 1)] }
def slaws_szBoxS_r8 : Reg :=
  { id := 9, ops := [{ op := .mv (.con (.sc (.int .i64 (-1)))) }], sets := [(2, 0)], clr := [0, 1, 3] }
def slaws_szBoxS_r9 : Reg :=
  { id := 6, ops := [{ op := .mv (.slot 3) },
      { op := .bin .add (.loc 0) (.con (.sc (.int .i64 1))) },
      { op := .mv (.loc 1) }], sets := [(3, 2)] }
def slaws_szBoxS_r10 : Reg :=
  { id := 10, ops := [{ op := .mv (.slot 1) },
      { op := .mv (.loc 0) }], sets := [(2, 1)], clr := [0, 1, 3] }
def slaws_szBoxS_b : SC := .seq (.reg slaws_szBoxS_r0) (.seq (.reg slaws_szBoxS_r1) (.seq (.seq (.reg slaws_szBoxS_r2) (.cond 4 (.seq (.reg slaws_szBoxS_r3) (.ret)) (.skip))) (.seq (.seq (.reg slaws_szBoxS_r4) (.block 0 (.loop (.seq (.seq (.reg slaws_szBoxS_r5) (.cond 5 (.skip) (.exit 0))) (.seq (.block 1 (.seq (.reg slaws_szBoxS_r6) (.seq (.reg slaws_szBoxS_r7) (.cond 6 (.seq (.reg slaws_szBoxS_r8) (.ret)) (.skip))))) (.reg slaws_szBoxS_r9)))))) (.seq (.reg slaws_szBoxS_r10) (.ret)))))
def slaws_szBoxS : SFn := { nslots := 7, nobjs := 0, params := [0, 1], ngiven := 0, bor := false, takes := [], body := slaws_szBoxS_b, results := [.slot 2] }
def slaws_szBoxS_t : List Tmp := [0, 1, 4, 5, 11, 15, 25]
attribute [simp] slaws_szBoxS_r0 slaws_szBoxS_r1 slaws_szBoxS_r2 slaws_szBoxS_r3 slaws_szBoxS_r4 slaws_szBoxS_r5 slaws_szBoxS_r6 slaws_szBoxS_r7 slaws_szBoxS_r8 slaws_szBoxS_r9 slaws_szBoxS_r10 slaws_szBoxS_b slaws_szBoxS
def slaws_toBoxS_r0 : Reg :=
  { id := 0, ops := [{ op := .mv (.con (.nil 4)) }], clr := [1] }
def slaws_toBoxS_r1 : Reg :=
  { id := 1, ops := [{ op := .mv (.slot 0) },
      { op := .len false (.loc 0) },
      { op := .makeSlice 0 4 64 [.sc (.int .i64 0), .sl 0 1 0 [], .sl 0 1 0 [], .sc (.bool false)] (.loc 1) },
      { op := .mv (.loc 2) }], sets := [(2, 3)] }
def slaws_toBoxS_r2 : Reg :=
  { id := 2, ops := [{ op := .mv (.con (.sc (.int .i64 0))) }], sets := [(3, 0)] }
def slaws_toBoxS_r3 : Reg :=
  { id := 3, ops := [{ op := .mv (.slot 3) },
      { op := .mv (.slot 0) },
      { op := .len false (.loc 1) },
      { op := .bin .lss (.loc 0) (.loc 2) }], sets := [(4, 3)] }
def slaws_toBoxS_r4 : Reg :=
  { id := 5, fresh := [1, 2], ops := [{ op := .mv (.slot 2) },
      { op := .mv (.slot 3) },
      { op := .mv (.slot 0) },
      { op := .mv (.slot 3) },
      { op := .indexAddr 4 (.loc 2) (.loc 3) },
      { op := .load (some 4) (.loc 4) },
      { op := .call 226 [(false, .loc 5)] [1, 2] },
      { op := .indexAddr 4 (.loc 0) (.loc 1) },
      { op := .store 4 (.loc 7) (.loc 6) }] }
def slaws_toBoxS_r5 : Reg :=
  { id := 4, ops := [{ op := .mv (.slot 3) },
      { op := .bin .add (.loc 0) (.con (.sc (.int .i64 1))) },
      { op := .mv (.loc 1) }], sets := [(3, 2)] }
def slaws_toBoxS_r6 : Reg :=
  { id := 6, ops := [{ op := .mv (.slot 2) },
      { op := .mv (.loc 0) }], sets := [(1, 1)], clr := [0, 2, 3] }
def slaws_toBoxS_b : SC := .seq (.reg slaws_toBoxS_r0) (.seq (.reg slaws_toBoxS_r1) (.seq (.seq (.reg slaws_toBoxS_r2) (.block 0 (.loop (.seq (.seq (.reg slaws_toBoxS_r3) (.cond 4 (.skip) (.exit 0))) (.seq (.block 1 (.reg slaws_toBoxS_r4)) (.reg slaws_toBoxS_r5)))))) (.seq (.reg slaws_toBoxS_r6) (.ret))))
def slaws_toBoxS : SFn := { nslots := 5, nobjs := 3, params := [0], ngiven := 0, bor := false, takes := [], body := slaws_toBoxS_b, results := [.slot 1] }
def slaws_toBoxS_t : List Tmp := [0, 2, 3, 4, 11]
attribute [simp] slaws_toBoxS_r0 slaws_toBoxS_r1 slaws_toBoxS_r2 slaws_toBoxS_r3 slaws_toBoxS_r4 slaws_toBoxS_r5 slaws_toBoxS_r6 slaws_toBoxS_b slaws_toBoxS
def slaws_markWorld_r0 : Reg :=
  { id := 0, ops := [{ op := .box 6 (.slot 0) },
      { op := .mv (.con (.sc (.int .i64 0))) }], sets := [(2, 0)], clr := [0, 3] }
def slaws_markWorld_r1 : Reg :=
  { id := 1, ops := [{ op := .fieldAddr (.slot 2) 0 },
      { op := .load none (.loc 0) },
      { op := .mv (.slot 1) },
      { op := .call 52 [(true, .loc 1), (false, .loc 2)] [] },
      { op := .mv (.loc 3) }], sets := [(1, 4)] }
def slaws_markWorld_r2 : Reg :=
  { id := 2, ops := [{ op := .fieldAddr (.slot 2) 1 },
      { op := .load none (.loc 0) },
      { op := .mv (.slot 1) },
      { op := .call 52 [(true, .loc 1), (false, .loc 2)] [] },
      { op := .mv (.loc 3) }], sets := [(1, 4)] }
def slaws_markWorld_r3 : Reg :=
  { id := 3, ops := [{ op := .fieldAddr (.slot 2) 3 },
      { op := .load none (.loc 0) },
      { op := .mv (.slot 1) },
      { op := .call 53 [(true, .loc 1), (false, .loc 2)] [] },
      { op := .mv (.loc 3) }], sets := [(1, 4)] }
def slaws_markWorld_r4 : Reg :=
  { id := 4, ops := [{ op := .fieldAddr (.slot 2) 4 },
      { op := .load (some 4) (.loc 0) },
      { op := .mv (.slot 1) },
      { op := .call 54 [(true, .loc 1), (false, .loc 2)] [] },
      { op := .mv (.loc 3) }], sets := [(1, 4)] }
def slaws_markWorld_r5 : Reg :=
  { id := 5, ops := [{ op := .fieldAddr (.slot 2) 10 },
      { op := .load none (.loc 0) },
      { op := .mv (.slot 1) },
      { op := .call 55 [(true, .loc 1), (false, .loc 2)] [] },
      { op := .mv (.loc 3) }], sets := [(1, 4)] }
def slaws_markWorld_r6 : Reg :=
  { id := 6, ops := [{ op := .fieldAddr (.slot 2) 11 },
      { op := .load none (.loc 0) },
      { op := .mv (.slot 1) },
      { op := .call 56 [(true, .loc 1), (false, .loc 2)] [] },
      { op := .mv (.loc 3) }], sets := [(1, 4)], clr := [2] }
def slaws_markWorld_r7 : Reg :=
  { id := 7, ops := [{ op := .mv (.slot 1) },
      { op := .mv (.loc 0) }], sets := [(3, 1)], clr := [1] }
def slaws_markWorld_b : SC := .seq (.reg slaws_markWorld_r0) (.seq (.reg slaws_markWorld_r1) (.seq (.reg slaws_markWorld_r2) (.seq (.reg slaws_markWorld_r3) (.seq (.reg slaws_markWorld_r4) (.seq (.reg slaws_markWorld_r5) (.seq (.reg slaws_markWorld_r6) (.seq (.reg slaws_markWorld_r7) (.ret))))))))
def slaws_markWorld : SFn := { nslots := 4, nobjs := 7, params := [0, 1], ngiven := 6, bor := false, takes := [], body := slaws_markWorld_b, results := [.slot 3] }
def slaws_markWorld_t : List Tmp := [0, 1, 2, 4]
attribute [simp] slaws_markWorld_r0 slaws_markWorld_r1 slaws_markWorld_r2 slaws_markWorld_r3 slaws_markWorld_r4 slaws_markWorld_r5 slaws_markWorld_r6 slaws_markWorld_r7 slaws_markWorld_b slaws_markWorld
def simpl_hasEnd_r0 : Reg :=
  { id := 0, ops := [{ op := .box 0 (.slot 0) },
      { op := .mv (.con (.sc (.bool false))) }], sets := [(2, 0)], clr := [0, 3] }
def simpl_hasEnd_r1 : Reg :=
  { id := 1, ops := [{ op := .mv (.slot 1) },
      { op := .fieldAddr (.slot 2) 3 },
      { op := .load none (.loc 1) },
      { op := .len false (.loc 2) },
      { op := .bin .sub (.loc 3) (.con (.sc (.int .i64 1))) },
      { op := .call 114 [(false, .loc 0), (false, .con (.sc (.int .i64 0))), (false, .loc 4)] [] },
      { op := .mv (.loc 5) }], sets := [(3, 6)], clr := [1, 2] }
def simpl_hasEnd_b : SC := .seq (.reg simpl_hasEnd_r0) (.seq (.reg simpl_hasEnd_r1) (.ret))
def simpl_hasEnd : SFn := { nslots := 4, nobjs := 1, params := [0, 1], ngiven := 0, bor := false, takes := [], body := simpl_hasEnd_b, results := [.slot 3] }
def simpl_hasEnd_t : List Tmp := [0, 1, 2, 4]
attribute [simp] simpl_hasEnd_r0 simpl_hasEnd_r1 simpl_hasEnd_b simpl_hasEnd
def slaws_markRollout_r0 : Reg :=
  { id := 0, ops := [{ op := .box 1 (.slot 0) },
      { op := .mv (.con (.sc (.int .i64 0))) }], sets := [(2, 0)], clr := [0, 3] }
def slaws_markRollout_r1 : Reg :=
  { id := 1, ops := [{ op := .fieldAddr (.slot 2) 1 },
      { op := .load none (.loc 0) },
      { op := .mv (.slot 1) },
      { op := .call 52 [(true, .loc 1), (false, .loc 2)] [] },
      { op := .mv (.loc 3) }], sets := [(1, 4)], clr := [2] }
def slaws_markRollout_r2 : Reg :=
  { id := 2, ops := [{ op := .mv (.slot 1) },
      { op := .mv (.loc 0) }], sets := [(3, 1)], clr := [1] }
def slaws_markRollout_b : SC := .seq (.reg slaws_markRollout_r0) (.seq (.reg slaws_markRollout_r1) (.seq (.reg slaws_markRollout_r2) (.ret)))
def slaws_markRollout : SFn := { nslots := 4, nobjs := 2, params := [0, 1], ngiven := 1, bor := false, takes := [], body := slaws_markRollout_b, results := [.slot 3] }
def slaws_markRollout_t : List Tmp := [0, 1, 2, 4]
attribute [simp] slaws_markRollout_r0 slaws_markRollout_r1 slaws_markRollout_r2 slaws_markRollout_b slaws_markRollout
def slaws_markDialedS_r0 : Reg :=
  { id := 0, ops := [{ op := .mv (.con (.sc (.int .i64 0))) }], clr := [2] }
def slaws_markDialedS_r1 : Reg :=
  { id := 1, ops := [{ op := .mv (.con (.sc (.int .i64 0))) }], sets := [(3, 0)] }
def slaws_markDialedS_r2 : Reg :=
  { id := 2, ops := [{ op := .mv (.slot 3) },
      { op := .mv (.slot 0) },
      { op := .len false (.loc 1) },
      { op := .bin .lss (.loc 0) (.loc 2) }], sets := [(4, 3)] }
def slaws_markDialedS_r3 : Reg :=
  { id := 4, ops := [{ op := .mv (.slot 0) },
      { op := .mv (.slot 3) },
      { op := .mv (.slot 1) },
      { op := .bin .rem (.loc 2) (.con (.sc (.int .i64 3))) },
      { op := .bin .eql (.loc 3) (.con (.sc (.int .i64 0))) },
      { op := .indexAddr 5 (.loc 0) (.loc 1) },
      { op := .fieldAddr (.loc 5) 0 },
      { op := .fieldAddr (.loc 6) 0 },
      { op := .store 1 (.loc 7) (.loc 4) }] }
def slaws_markDialedS_r4 : Reg :=
  { id := 5, ops := [{ op := .mv (.slot 1) },
      { op := .bin .add (.loc 0) (.con (.sc (.int .i64 1))) },
      { op := .mv (.loc 1) }], sets := [(1, 2)] }
def slaws_markDialedS_r5 : Reg :=
  { id := 6, ops := [{ op := .mv (.slot 0) },
      { op := .mv (.slot 3) },
      { op := .mv (.slot 1) },
      { op := .indexAddr 5 (.loc 0) (.loc 1) },
      { op := .fieldAddr (.loc 3) 0 },
      { op := .fieldAddr (.loc 4) 1 },
      { op := .store 1 (.loc 5) (.loc 2) }] }
def slaws_markDialedS_r6 : Reg :=
  { id := 7, ops := [{ op := .mv (.slot 1) },
      { op := .bin .add (.loc 0) (.con (.sc (.int .i64 1))) },
      { op := .mv (.loc 1) }], sets := [(1, 2)] }
def slaws_markDialedS_r7 : Reg :=
  { id := 8, fresh := [1], ops := [{ op := .mv (.slot 0) },
      { op := .mv (.slot 3) },
      { op := .indexAddr 5 (.loc 0) (.loc 1) },
      { op := .fieldAddr (.loc 2) 0 },
      { op := .fieldAddr (.loc 3) 2 },
      { op := .take 1 (.loc 4) },
      { op := .mv (.slot 1) },
      { op := .call 52 [(true, .loc 5), (false, .loc 6)] [] },
      { op := .mv (.loc 7) }], sets := [(1, 8)], ghosts := [.untake 1] }
def slaws_markDialedS_r8 : Reg :=
  { id := 9, ops := [{ op := .mv (.slot 0) },
      { op := .mv (.slot 3) },
      { op := .mv (.slot 1) },
      { op := .indexAddr 5 (.loc 0) (.loc 1) },
      { op := .fieldAddr (.loc 3) 3 },
      { op := .store 1 (.loc 4) (.loc 2) }] }
def slaws_markDialedS_r9 : Reg :=
  { id := 10, ops := [{ op := .mv (.slot 1) },
      { op := .bin .add (.loc 0) (.con (.sc (.int .i64 1))) },
      { op := .mv (.loc 1) }], sets := [(1, 2)] }
def slaws_markDialedS_r10 : Reg :=
  { id := 11, fresh := [2], ops := [{ op := .mv (.slot 0) },
      { op := .mv (.slot 3) },
      { op := .indexAddr 5 (.loc 0) (.loc 1) },
      { op := .fieldAddr (.loc 2) 4 },
      { op := .take 2 (.loc 3) },
      { op := .mv (.slot 1) },
      { op := .call 52 [(true, .loc 4), (false, .loc 5)] [] },
      { op := .mv (.loc 6) }], sets := [(1, 7)], ghosts := [.untake 2] }
def slaws_markDialedS_r11 : Reg :=
  { id := 3, ops := [{ op := .mv (.slot 3) },
      { op := .bin .add (.loc 0) (.con (.sc (.int .i64 1))) },
      { op := .mv (.loc 1) }], sets := [(3, 2)] }
def slaws_markDialedS_r12 : Reg :=
  { id := 12, ops := [{ op := .mv (.slot 1) },
      { op := .mv (.loc 0) }], sets := [(2, 1)], clr := [0, 1, 3] }
def slaws_markDialedS_b : SC := .seq (.reg slaws_markDialedS_r0) (.seq (.seq (.reg slaws_markDialedS_r1) (.block 0 (.loop (.seq (.seq (.reg slaws_markDialedS_r2) (.cond 4 (.skip) (.exit 0))) (.seq (.block 1 (.seq (.reg slaws_markDialedS_r3) (.seq (.reg slaws_markDialedS_r4) (.seq (.reg slaws_markDialedS_r5) (.seq (.reg slaws_markDialedS_r6) (.seq (.reg slaws_markDialedS_r7) (.seq (.reg slaws_markDialedS_r8) (.seq (.reg slaws_markDialedS_r9) (.reg slaws_markDialedS_r10))))))))) (.reg slaws_markDialedS_r11)))))) (.seq (.reg slaws_markDialedS_r12) (.ret)))
def slaws_markDialedS : SFn := { nslots := 5, nobjs := 3, params := [0, 1], ngiven := 1, bor := false, takes := [1, 2], body := slaws_markDialedS_b, results := [.slot 2] }
def slaws_markDialedS_t : List Tmp := [0, 1, 4, 5, 9]
attribute [simp] slaws_markDialedS_r0 slaws_markDialedS_r1 slaws_markDialedS_r2 slaws_markDialedS_r3 slaws_markDialedS_r4 slaws_markDialedS_r5 slaws_markDialedS_r6 slaws_markDialedS_r7 slaws_markDialedS_r8 slaws_markDialedS_r9 slaws_markDialedS_r10 slaws_markDialedS_r11 slaws_markDialedS_r12 slaws_markDialedS_b slaws_markDialedS
def slaws_markLoggedS_r0 : Reg :=
  { id := 0, ops := [{ op := .mv (.con (.sc (.int .i64 0))) }], clr := [2] }
def slaws_markLoggedS_r1 : Reg :=
  { id := 1, ops := [{ op := .mv (.con (.sc (.int .i64 0))) }], sets := [(3, 0)] }
def slaws_markLoggedS_r2 : Reg :=
  { id := 2, ops := [{ op := .mv (.slot 3) },
      { op := .mv (.slot 0) },
      { op := .len false (.loc 1) },
      { op := .bin .lss (.loc 0) (.loc 2) }], sets := [(4, 3)] }
def slaws_markLoggedS_r3 : Reg :=
  { id := 4, ops := [{ op := .mv (.slot 0) },
      { op := .mv (.slot 3) },
      { op := .mv (.slot 1) },
      { op := .indexAddr 8 (.loc 0) (.loc 1) },
      { op := .fieldAddr (.loc 3) 0 },
      { op := .store 1 (.loc 4) (.loc 2) }] }
def slaws_markLoggedS_r4 : Reg :=
  { id := 5, ops := [{ op := .mv (.slot 1) },
      { op := .bin .add (.loc 0) (.con (.sc (.int .i64 1))) },
      { op := .mv (.loc 1) }], sets := [(1, 2)] }
def slaws_markLoggedS_r5 : Reg :=
  { id := 6, ops := [{ op := .mv (.slot 0) },
      { op := .mv (.slot 3) },
      { op := .mv (.slot 1) },
      { op := .indexAddr 8 (.loc 0) (.loc 1) },
      { op := .fieldAddr (.loc 3) 1 },
      { op := .store 1 (.loc 4) (.loc 2) }] }
def slaws_markLoggedS_r6 : Reg :=
  { id := 7, ops := [{ op := .mv (.slot 1) },
      { op := .bin .add (.loc 0) (.con (.sc (.int .i64 1))) },
      { op := .mv (.loc 1) }], sets := [(1, 2)] }
def slaws_markLoggedS_r7 : Reg :=
  { id := 8, ops := [{ op := .mv (.slot 0) },
      { op := .mv (.slot 3) },
      { op := .mv (.slot 1) },
      { op := .bin .rem (.loc 2) (.con (.sc (.int .i64 3))) },
      { op := .bin .eql (.loc 3) (.con (.sc (.int .i64 0))) },
      { op := .indexAddr 8 (.loc 0) (.loc 1) },
      { op := .fieldAddr (.loc 5) 2 },
      { op := .store 1 (.loc 6) (.loc 4) }] }
def slaws_markLoggedS_r8 : Reg :=
  { id := 9, ops := [{ op := .mv (.slot 1) },
      { op := .bin .add (.loc 0) (.con (.sc (.int .i64 1))) },
      { op := .mv (.loc 1) }], sets := [(1, 2)] }
def slaws_markLoggedS_r9 : Reg :=
  { id := 10, ops := [{ op := .mv (.slot 0) },
      { op := .mv (.slot 3) },
      { op := .mv (.slot 1) },
      { op := .bin .rem (.loc 2) (.con (.sc (.int .i64 3))) },
      { op := .bin .eql (.loc 3) (.con (.sc (.int .i64 0))) },
      { op := .indexAddr 8 (.loc 0) (.loc 1) },
      { op := .fieldAddr (.loc 5) 3 },
      { op := .fieldAddr (.loc 6) 0 },
      { op := .fieldAddr (.loc 7) 0 },
      { op := .store 1 (.loc 8) (.loc 4) }] }
def slaws_markLoggedS_r10 : Reg :=
  { id := 11, ops := [{ op := .mv (.slot 1) },
      { op := .bin .add (.loc 0) (.con (.sc (.int .i64 1))) },
      { op := .mv (.loc 1) }], sets := [(1, 2)] }
def slaws_markLoggedS_r11 : Reg :=
  { id := 12, ops := [{ op := .mv (.slot 0) },
      { op := .mv (.slot 3) },
      { op := .mv (.slot 1) },
      { op := .indexAddr 8 (.loc 0) (.loc 1) },
      { op := .fieldAddr (.loc 3) 3 },
      { op := .fieldAddr (.loc 4) 0 },
      { op := .fieldAddr (.loc 5) 1 },
      { op := .store 1 (.loc 6) (.loc 2) }] }
def slaws_markLoggedS_r12 : Reg :=
  { id := 13, ops := [{ op := .mv (.slot 1) },
      { op := .bin .add (.loc 0) (.con (.sc (.int .i64 1))) },
      { op := .mv (.loc 1) }], sets := [(1, 2)] }
def slaws_markLoggedS_r13 : Reg :=
  { id := 14, fresh := [1], ops := [{ op := .mv (.slot 0) },
      { op := .mv (.slot 3) },
      { op := .indexAddr 8 (.loc 0) (.loc 1) },
      { op := .fieldAddr (.loc 2) 3 },
      { op := .fieldAddr (.loc 3) 0 },
      { op := .fieldAddr (.loc 4) 2 },
      { op := .take 1 (.loc 5) },
      { op := .mv (.slot 1) },
      { op := .call 52 [(true, .loc 6), (false, .loc 7)] [] },
      { op := .mv (.loc 8) }], sets := [(1, 9)], ghosts := [.untake 1] }
def slaws_markLoggedS_r14 : Reg :=
  { id := 15, ops := [{ op := .mv (.slot 0) },
      { op := .mv (.slot 3) },
      { op := .mv (.slot 1) },
      { op := .indexAddr 8 (.loc 0) (.loc 1) },
      { op := .fieldAddr (.loc 3) 3 },
      { op := .fieldAddr (.loc 4) 3 },
      { op := .store 1 (.loc 5) (.loc 2) }] }
def slaws_markLoggedS_r15 : Reg :=
  { id := 16, ops := [{ op := .mv (.slot 1) },
      { op := .bin .add (.loc 0) (.con (.sc (.int .i64 1))) },
      { op := .mv (.loc 1) }], sets := [(1, 2)] }
def slaws_markLoggedS_r16 : Reg :=
  { id := 17, fresh := [2], ops := [{ op := .mv (.slot 0) },
      { op := .mv (.slot 3) },
      { op := .indexAddr 8 (.loc 0) (.loc 1) },
      { op := .fieldAddr (.loc 2) 3 },
      { op := .fieldAddr (.loc 3) 4 },
      { op := .take 2 (.loc 4) },
      { op := .mv (.slot 1) },
      { op := .call 52 [(true, .loc 5), (false, .loc 6)] [] },
      { op := .mv (.loc 7) }], sets := [(1, 8)], ghosts := [.untake 2] }
def slaws_markLoggedS_r17 : Reg :=
  { id := 3, ops := [{ op := .mv (.slot 3) },
      { op := .bin .add (.loc 0) (.con (.sc (.int .i64 1))) },
      { op := .mv (.loc 1) }], sets := [(3, 2)] }
def slaws_markLoggedS_r18 : Reg :=
  { id := 18, ops := [{ op := .mv (.slot 1) },
      { op := .mv (.loc 0) }], sets := [(2, 1)], clr := [0, 1, 3] }
def slaws_markLoggedS_b : SC := .seq (.reg slaws_markLoggedS_r0) (.seq (.seq (.reg slaws_markLoggedS_r1) (.block 0 (.loop (.seq (.seq (.reg slaws_markLoggedS_r2) (.cond 4 (.skip) (.exit 0))) (.seq (.block 1 (.seq (.reg slaws_markLoggedS_r3) (.seq (.reg slaws_markLoggedS_r4) (.seq (.reg slaws_markLoggedS_r5) (.seq (.reg slaws_markLoggedS_r6) (.seq (.reg slaws_markLoggedS_r7) (.seq (.reg slaws_markLoggedS_r8) (.seq (.reg slaws_markLoggedS_r9) (.seq (.reg slaws_markLoggedS_r10) (.seq (.reg slaws_markLoggedS_r11) (.seq (.reg slaws_markLoggedS_r12) (.seq (.reg slaws_markLoggedS_r13) (.seq (.reg slaws_markLoggedS_r14) (.seq (.reg slaws_markLoggedS_r15) (.reg slaws_markLoggedS_r16))))))))))))))) (.reg slaws_markLoggedS_r17)))))) (.seq (.reg slaws_markLoggedS_r18) (.ret)))
def slaws_markLoggedS : SFn := { nslots := 5, nobjs := 3, params := [0, 1], ngiven := 1, bor := false, takes := [1, 2], body := slaws_markLoggedS_b, results := [.slot 2] }
def slaws_markLoggedS_t : List Tmp := [0, 1, 4, 5, 9]
attribute [simp] slaws_markLoggedS_r0 slaws_markLoggedS_r1 slaws_markLoggedS_r2 slaws_markLoggedS_r3 slaws_markLoggedS_r4 slaws_markLoggedS_r5 slaws_markLoggedS_r6 slaws_markLoggedS_r7 slaws_markLoggedS_r8 slaws_markLoggedS_r9 slaws_markLoggedS_r10 slaws_markLoggedS_r11 slaws_markLoggedS_r12 slaws_markLoggedS_r13 slaws_markLoggedS_r14 slaws_markLoggedS_r15 slaws_markLoggedS_r16 slaws_markLoggedS_r17 slaws_markLoggedS_r18 slaws_markLoggedS_b slaws_markLoggedS
def slaws_FnExactStepClear_r0 : Reg :=
  { id := 0, ops := [{ op := .box 0 (.slot 0) },
      { op := .mv (.con (.sc (.bool false))) }], sets := [(2, 0)], clr := [0, 3] }
def slaws_FnExactStepClear_r1 : Reg :=
  { id := 1, ops := [{ op := .mv (.con (.sc (.int .i64 1048576))) }], sets := [(4, 0)] }
def slaws_FnExactStepClear_r2 : Reg :=
  { id := 2, ops := [{ op := .load (some 15) (.slot 2) },
      { op := .mv (.slot 4) },
      { op := .call 7 [(false, .loc 0), (false, .loc 1)] [] },
      { op := .mv (.loc 2) }], sets := [(4, 3)] }
def slaws_FnExactStepClear_r3 : Reg :=
  { id := 3, ops := [{ op := .mv (.slot 4) },
      { op := .bin .lss (.loc 0) (.con (.sc (.int .i64 0))) }], sets := [(15, 1)], clr := [4] }
def slaws_FnExactStepClear_r4 : Reg :=
  { id := 4, ops := [{ op := .mv (.con (.sc (.bool true))) }], sets := [(3, 0)], clr := [1, 2] }
def slaws_FnExactStepClear_r5 : Reg :=
  { id := 5, ops := [{ op := .load (some 15) (.slot 2) },
      { op := .call 8 [(false, .loc 0)] [1, 2, 3, 4, 5, 6] },
      { op := .mv (.slot 1) },
      { op := .call 79 [(false, .loc 1), (false, .loc 2)] [7, 8, 9, 10, 11, 12] },
      { op := .mv (.loc 3) },
      { op := .extract (.loc 4) 0 },
      { op := .extract (.loc 4) 1 },
      { op := .alloc 13 [.nil 1, .nil 1, .sc (.int .i64 0), .nil 4, .sc (.int .i64 0), .nil 1, .sc (.int .i64 0), .sc (.bool false), .sc (.int .i64 0), .sc (.int .i64 0), .nil 5, .nil 8, .sc (.int .i64 0), .sc (.int .i64 0), .sc (.int .i64 0)] },
      { op := .store 15 (.loc 7) (.loc 5) },
      { op := .mv (.loc 6) }], sets := [(5, 7), (6, 9)] }
def slaws_FnExactStepClear_r6 : Reg :=
  { id := 6, ops := [{ op := .load (some 15) (.slot 2) },
      { op := .call 8 [(false, .loc 0)] [14, 15, 16, 17, 18, 19] },
      { op := .alloc 20 [.nil 1, .nil 1, .sc (.int .i64 0), .nil 4, .sc (.int .i64 0), .nil 1, .sc (.int .i64 0), .sc (.bool false), .sc (.int .i64 0), .sc (.int .i64 0), .nil 5, .nil 8, .sc (.int .i64 0), .sc (.int .i64 0), .sc (.int .i64 0)] },
      { op := .store 15 (.loc 2) (.loc 1) }], sets := [(7, 2)] }
def slaws_FnExactStepClear_r7 : Reg :=
  { id := 7, ops := [{ op := .load (some 15) (.slot 7) },
      { op := .mv (.slot 1) },
      { op := .call 112 [(false, .loc 0), (false, .loc 1)] [21, 22, 23, 24, 25, 26] },
      { op := .mv (.loc 2) },
      { op := .extract (.loc 3) 0 },
      { op := .extract (.loc 3) 1 },
      { op := .alloc 27 [.nil 1, .nil 1, .sc (.int .i64 0), .nil 4, .sc (.int .i64 0), .nil 1, .sc (.int .i64 0), .sc (.bool false), .sc (.int .i64 0), .sc (.int .i64 0), .nil 5, .nil 8, .sc (.int .i64 0), .sc (.int .i64 0), .sc (.int .i64 0)] },
      { op := .store 15 (.loc 6) (.loc 4) },
      { op := .mv (.loc 5) }], sets := [(8, 6), (9, 8)] }
def slaws_FnExactStepClear_r8 : Reg :=
  { id := 8, ops := [{ op := .load (some 15) (.slot 8) },
      { op := .load (some 15) (.slot 5) },
      { op := .call 11 [(false, .loc 0), (false, .loc 1)] [] },
      { op := .un .not (.loc 2) },
      { op := .mv (.loc 3) },
      { op := .mv (.slot 9), guard := some (4, false) },
      { op := .mv (.slot 6), guard := some (4, false) },
      { op := .beq true (.loc 5) (.loc 6), guard := some (4, false) },
      { op := .pick (.loc 4) (.con (.sc (.bool true))) (.loc 7) }], sets := [(16, 8)] }
def slaws_FnExactStepClear_r9 : Reg :=
  { id := 9, ops := [{ op := .mv (.con (.sc (.bool false))) }], sets := [(3, 0)], clr := [1, 2, 5, 6, 7, 8, 9] }
def slaws_FnExactStepClear_r10 : Reg :=
  { id := 10, draw := true, ops := [{ op := .load (some 15) (.slot 7), tau := some [20], om := [] },
      { op := .load (some 15) (.slot 2), tau := some [0], om := [] },
      { op := .call 8 [(false, .loc 1)] [28, 29, 30, 31, 32, 33], tau := some [28, 29, 30, 31, 32, 33], om := [28, 29, 30, 31, 32, 33] },
      { op := .call 11 [(false, .loc 0), (false, .loc 2)] [], tau := some [14, 15, 16, 17, 18, 19, 28, 29, 30, 31, 32, 33], om := [] },
      { op := .un .not (.loc 3), tau := some [], om := [] }], sets := [(17, 4)] }
def slaws_FnExactStepClear_r11 : Reg :=
  { id := 11, ops := [{ op := .mv (.con (.sc (.bool false))) }], sets := [(3, 0)], clr := [1, 2, 5, 6, 7, 8, 9] }
def slaws_FnExactStepClear_r12 : Reg :=
  { id := 12, ops := [{ op := .mv (.con (.sc (.int .i64 1))) }], sets := [(10, 0)] }
def slaws_FnExactStepClear_r13 : Reg :=
  { id := 13, ops := [{ op := .load (some 15) (.slot 7) },
      { op := .mv (.slot 10) },
      { op := .call 12 [(true, .loc 0), (false, .loc 1)] [] },
      { op := .mv (.loc 2) }], sets := [(10, 3)], clr := [7] }
def slaws_FnExactStepClear_r14 : Reg :=
  { id := 14, ops := [{ op := .mv (.slot 10) },
      { op := .bin .lss (.loc 0) (.con (.sc (.int .i64 0))) },
      { op := .mv (.loc 1) },
      { op := .load (some 15) (.slot 8), guard := some (2, false) },
      { op := .load (some 15) (.slot 5), guard := some (2, false) },
      { op := .call 11 [(false, .loc 3), (false, .loc 4)] [], guard := some (2, false) },
      { op := .un .not (.loc 5), guard := some (2, false) },
      { op := .pick (.loc 2) (.con (.sc (.bool true))) (.loc 6) },
      { op := .mv (.loc 7) },
      { op := .mv (.slot 9), guard := some (8, false) },
      { op := .mv (.slot 6), guard := some (8, false) },
      { op := .beq true (.loc 9) (.loc 10), guard := some (8, false) },
      { op := .pick (.loc 8) (.con (.sc (.bool true))) (.loc 11) }], sets := [(18, 12)], clr := [9, 10] }
def slaws_FnExactStepClear_r15 : Reg :=
  { id := 15, ops := [{ op := .mv (.con (.sc (.bool false))) }], sets := [(3, 0)], clr := [1, 2, 5, 6, 8] }
def slaws_FnExactStepClear_r16 : Reg :=
  { id := 16, ops := [{ op := .mv (.con (.sc (.int .i64 1))) }], sets := [(11, 0)] }
def slaws_FnExactStepClear_r17 : Reg :=
  { id := 17, ops := [{ op := .load (some 15) (.slot 8) },
      { op := .mv (.slot 11) },
      { op := .call 12 [(true, .loc 0), (false, .loc 1)] [] },
      { op := .mv (.loc 2) }], sets := [(11, 3)] }
def slaws_FnExactStepClear_r18 : Reg :=
  { id := 18, ops := [{ op := .mv (.con (.sc (.int .i64 1))) }], sets := [(12, 0)] }
def slaws_FnExactStepClear_r19 : Reg :=
  { id := 19, ops := [{ op := .load (some 15) (.slot 8) },
      { op := .mv (.slot 12) },
      { op := .call 13 [(false, .loc 0), (false, .loc 1)] [] },
      { op := .mv (.loc 2) }], sets := [(12, 3)] }
def slaws_FnExactStepClear_r20 : Reg :=
  { id := 20, ops := [{ op := .mv (.slot 12) },
      { op := .bin .lss (.loc 0) (.con (.sc (.int .i64 0))) }], sets := [(19, 1)] }
def slaws_FnExactStepClear_r21 : Reg :=
  { id := 21, ops := [{ op := .mv (.con (.sc (.bool false))) }], sets := [(3, 0)], clr := [1, 2, 5, 6, 8, 11, 12] }
def slaws_FnExactStepClear_r22 : Reg :=
  { id := 22, ops := [{ op := .mv (.slot 12) },
      { op := .mv (.slot 11) },
      { op := .bin .neq (.loc 0) (.loc 1) }], sets := [(20, 2)], clr := [12] }
def slaws_FnExactStepClear_r23 : Reg :=
  { id := 23, ops := [{ op := .mv (.con (.sc (.bool false))) }], sets := [(3, 0)], clr := [1, 2, 5, 6, 8, 11] }
def slaws_FnExactStepClear_r24 : Reg :=
  { id := 24, ops := [{ op := .load (some 15) (.slot 2) },
      { op := .call 8 [(false, .loc 0)] [34, 35, 36, 37, 38, 39] },
      { op := .mv (.slot 1) },
      { op := .call 112 [(false, .loc 1), (false, .loc 2)] [40, 41, 42, 43, 44, 45] },
      { op := .mv (.loc 3) },
      { op := .extract (.loc 4) 0 },
      { op := .extract (.loc 4) 1 },
      { op := .alloc 46 [.nil 1, .nil 1, .sc (.int .i64 0), .nil 4, .sc (.int .i64 0), .nil 1, .sc (.int .i64 0), .sc (.bool false), .sc (.int .i64 0), .sc (.int .i64 0), .nil 5, .nil 8, .sc (.int .i64 0), .sc (.int .i64 0), .sc (.int .i64 0)] },
      { op := .store 15 (.loc 7) (.loc 5) },
      { op := .mv (.loc 6) }], sets := [(13, 7), (14, 9)], clr := [1, 2] }
def slaws_FnExactStepClear_r25 : Reg :=
  { id := 25, ops := [{ op := .load (some 15) (.slot 13) },
      { op := .load (some 15) (.slot 5) },
      { op := .call 11 [(false, .loc 0), (false, .loc 1)] [] },
      { op := .un .not (.loc 2) },
      { op := .mv (.loc 3) },
      { op := .mv (.slot 14), guard := some (4, false) },
      { op := .mv (.slot 6), guard := some (4, false) },
      { op := .beq true (.loc 5) (.loc 6), guard := some (4, false) },
      { op := .pick (.loc 4) (.con (.sc (.bool true))) (.loc 7) }], sets := [(21, 8)], clr := [5, 6, 13, 14] }
def slaws_FnExactStepClear_r26 : Reg :=
  { id := 26, ops := [{ op := .mv (.con (.sc (.bool false))) }], sets := [(3, 0)], clr := [8, 11] }
def slaws_FnExactStepClear_r27 : Reg :=
  { id := 27, ops := [{ op := .mv (.con (.sc (.int .i64 1))) }], sets := [(12, 0)] }
def slaws_FnExactStepClear_r28 : Reg :=
  { id := 28, ops := [{ op := .load (some 15) (.slot 8) },
      { op := .mv (.slot 12) },
      { op := .call 13 [(false, .loc 0), (false, .loc 1)] [] },
      { op := .mv (.loc 2) }], sets := [(12, 3)], clr := [8] }
def slaws_FnExactStepClear_r29 : Reg :=
  { id := 29, ops := [{ op := .mv (.slot 12) },
      { op := .bin .lss (.loc 0) (.con (.sc (.int .i64 0))) }], sets := [(22, 1)] }
def slaws_FnExactStepClear_r30 : Reg :=
  { id := 30, ops := [{ op := .mv (.con (.sc (.bool false))) }], sets := [(3, 0)], clr := [11, 12] }
def slaws_FnExactStepClear_r31 : Reg :=
  { id := 31, ops := [{ op := .mv (.slot 12) },
      { op := .mv (.slot 11) },
      { op := .bin .neq (.loc 0) (.loc 1) }], sets := [(23, 2)], clr := [11, 12] }
def slaws_FnExactStepClear_r32 : Reg :=
  { id := 32, ops := [{ op := .mv (.con (.sc (.bool false))) }], sets := [(3, 0)] }
def slaws_FnExactStepClear_r33 : Reg :=
  { id := 33, ops := [{ op := .mv (.con (.sc (.bool true))) }], sets := [(3, 0)] }
def slaws_FnExactStepClear_b : SC := .seq (.reg slaws_FnExactStepClear_r0) (.seq (.reg slaws_FnExactStepClear_r1) (.seq (.reg slaws_FnExactStepClear_r2) (.seq (.seq (.reg slaws_FnExactStepClear_r3) (.cond 15 (.seq (.reg slaws_FnExactStepClear_r4) (.ret)) (.skip))) (.seq (.reg slaws_FnExactStepClear_r5) (.seq (.reg slaws_FnExactStepClear_r6) (.seq (.reg slaws_FnExactStepClear_r7) (.seq (.seq (.reg slaws_FnExactStepClear_r8) (.cond 16 (.seq (.reg slaws_FnExactStepClear_r9) (.ret)) (.skip))) (.seq (.seq (.reg slaws_FnExactStepClear_r10) (.cond 17 (.seq (.reg slaws_FnExactStepClear_r11) (.ret)) (.skip))) (.seq (.reg slaws_FnExactStepClear_r12) (.seq (.reg slaws_FnExactStepClear_r13) (.seq (.seq (.reg slaws_FnExactStepClear_r14) (.cond 18 (.seq (.reg slaws_FnExactStepClear_r15) (.ret)) (.skip))) (.seq (.reg slaws_FnExactStepClear_r16) (.seq (.reg slaws_FnExactStepClear_r17) (.seq (.reg slaws_FnExactStepClear_r18) (.seq (.reg slaws_FnExactStepClear_r19) (.seq (.seq (.reg slaws_FnExactStepClear_r20) (.cond 19 (.seq (.reg slaws_FnExactStepClear_r21) (.ret)) (.skip))) (.seq (.seq (.reg slaws_FnExactStepClear_r22) (.cond 20 (.seq (.reg slaws_FnExactStepClear_r23) (.ret)) (.skip))) (.seq (.reg slaws_FnExactStepClear_r24) (.seq (.seq (.reg slaws_FnExactStepClear_r25) (.cond 21 (.seq (.reg slaws_FnExactStepClear_r26) (.ret)) (.skip))) (.seq (.reg slaws_FnExactStepClear_r27) (.seq (.reg slaws_FnExactStepClear_r28) (.seq (.seq (.reg slaws_FnExactStepClear_r29) (.cond 22 (.seq (.reg slaws_FnExactStepClear_r30) (.ret)) (.skip))) (.seq (.seq (.reg slaws_FnExactStepClear_r31) (.cond 23 (.seq (.reg slaws_FnExactStepClear_r32) (.ret)) (.skip))) (.seq (.reg slaws_FnExactStepClear_r33) (.ret)))))))))))))))))))))))))
def slaws_FnExactStepClear : SFn := { nslots := 24, nobjs := 47, params := [0, 1], ngiven := 0, bor := false, takes := [], body := slaws_FnExactStepClear_b, results := [.slot 3] }
def slaws_FnExactStepClear_t : List Tmp := [0, 1, 2, 4, 5, 6, 7, 8, 9, 10, 11, 12, 13, 14, 15, 20, 44, 49, 65, 73, 76, 92, 97, 100]
attribute [simp] slaws_FnExactStepClear_r0 slaws_FnExactStepClear_r1 slaws_FnExactStepClear_r2 slaws_FnExactStepClear_r3 slaws_FnExactStepClear_r4 slaws_FnExactStepClear_r5 slaws_FnExactStepClear_r6 slaws_FnExactStepClear_r7 slaws_FnExactStepClear_r8 slaws_FnExactStepClear_r9 slaws_FnExactStepClear_r10 slaws_FnExactStepClear_r11 slaws_FnExactStepClear_r12 slaws_FnExactStepClear_r13 slaws_FnExactStepClear_r14 slaws_FnExactStepClear_r15 slaws_FnExactStepClear_r16 slaws_FnExactStepClear_r17 slaws_FnExactStepClear_r18 slaws_FnExactStepClear_r19 slaws_FnExactStepClear_r20 slaws_FnExactStepClear_r21 slaws_FnExactStepClear_r22 slaws_FnExactStepClear_r23 slaws_FnExactStepClear_r24 slaws_FnExactStepClear_r25 slaws_FnExactStepClear_r26 slaws_FnExactStepClear_r27 slaws_FnExactStepClear_r28 slaws_FnExactStepClear_r29 slaws_FnExactStepClear_r30 slaws_FnExactStepClear_r31 slaws_FnExactStepClear_r32 slaws_FnExactStepClear_r33 slaws_FnExactStepClear_b slaws_FnExactStepClear
def slaws_heldWorld_r0 : Reg :=
  { id := 0, ops := [{ op := .box 0 (.slot 0) },
      { op := .mv (.con (.sc (.int .i64 0))) }], sets := [(2, 0)], clr := [0, 3] }
def slaws_heldWorld_r1 : Reg :=
  { id := 1, ops := [{ op := .fieldAddr (.slot 2) 0 },
      { op := .load none (.loc 0) },
      { op := .mv (.slot 1) },
      { op := .call 57 [(false, .loc 1), (false, .loc 2)] [] },
      { op := .mv (.loc 3) }], sets := [(1, 4)] }
def slaws_heldWorld_r2 : Reg :=
  { id := 2, ops := [{ op := .mv (.slot 1) },
      { op := .bin .lss (.loc 0) (.con (.sc (.int .i64 0))) }], sets := [(4, 1)] }
def slaws_heldWorld_r3 : Reg :=
  { id := 3, ops := [{ op := .mv (.con (.sc (.int .i64 (-1)))) }], sets := [(3, 0)], clr := [1, 2] }
def slaws_heldWorld_r4 : Reg :=
  { id := 4, ops := [{ op := .fieldAddr (.slot 2) 1 },
      { op := .load none (.loc 0) },
      { op := .mv (.slot 1) },
      { op := .call 57 [(false, .loc 1), (false, .loc 2)] [] },
      { op := .mv (.loc 3) }], sets := [(1, 4)] }
def slaws_heldWorld_r5 : Reg :=
  { id := 5, ops := [{ op := .mv (.slot 1) },
      { op := .bin .lss (.loc 0) (.con (.sc (.int .i64 0))) }], sets := [(5, 1)] }
def slaws_heldWorld_r6 : Reg :=
  { id := 6, ops := [{ op := .mv (.con (.sc (.int .i64 (-1)))) }], sets := [(3, 0)], clr := [1, 2] }
def slaws_heldWorld_r7 : Reg :=
  { id := 7, ops := [{ op := .fieldAddr (.slot 2) 3 },
      { op := .load none (.loc 0) },
      { op := .mv (.slot 1) },
      { op := .call 58 [(false, .loc 1), (false, .loc 2)] [] },
      { op := .mv (.loc 3) }], sets := [(1, 4)] }
def slaws_heldWorld_r8 : Reg :=
  { id := 8, ops := [{ op := .mv (.slot 1) },
      { op := .bin .lss (.loc 0) (.con (.sc (.int .i64 0))) }], sets := [(6, 1)] }
def slaws_heldWorld_r9 : Reg :=
  { id := 9, ops := [{ op := .mv (.con (.sc (.int .i64 (-1)))) }], sets := [(3, 0)], clr := [1, 2] }
def slaws_heldWorld_r10 : Reg :=
  { id := 10, ops := [{ op := .fieldAddr (.slot 2) 4 },
      { op := .load (some 4) (.loc 0) },
      { op := .mv (.slot 1) },
      { op := .call 59 [(false, .loc 1), (false, .loc 2)] [] },
      { op := .mv (.loc 3) }], sets := [(1, 4)] }
def slaws_heldWorld_r11 : Reg :=
  { id := 11, ops := [{ op := .mv (.slot 1) },
      { op := .bin .lss (.loc 0) (.con (.sc (.int .i64 0))) }], sets := [(7, 1)] }
def slaws_heldWorld_r12 : Reg :=
  { id := 12, ops := [{ op := .mv (.con (.sc (.int .i64 (-1)))) }], sets := [(3, 0)], clr := [1, 2] }
def slaws_heldWorld_r13 : Reg :=
  { id := 13, ops := [{ op := .fieldAddr (.slot 2) 10 },
      { op := .load none (.loc 0) },
      { op := .mv (.slot 1) },
      { op := .call 60 [(false, .loc 1), (false, .loc 2)] [] },
      { op := .mv (.loc 3) }], sets := [(1, 4)] }
def slaws_heldWorld_r14 : Reg :=
  { id := 14, ops := [{ op := .mv (.slot 1) },
      { op := .bin .lss (.loc 0) (.con (.sc (.int .i64 0))) }], sets := [(8, 1)] }
def slaws_heldWorld_r15 : Reg :=
  { id := 15, ops := [{ op := .mv (.con (.sc (.int .i64 (-1)))) }], sets := [(3, 0)], clr := [1, 2] }
def slaws_heldWorld_r16 : Reg :=
  { id := 16, ops := [{ op := .fieldAddr (.slot 2) 11 },
      { op := .load none (.loc 0) },
      { op := .mv (.slot 1) },
      { op := .call 61 [(false, .loc 1), (false, .loc 2)] [] },
      { op := .mv (.loc 3) }], sets := [(1, 4)], clr := [2] }
def slaws_heldWorld_r17 : Reg :=
  { id := 17, ops := [{ op := .mv (.slot 1) },
      { op := .bin .lss (.loc 0) (.con (.sc (.int .i64 0))) }], sets := [(9, 1)] }
def slaws_heldWorld_r18 : Reg :=
  { id := 18, ops := [{ op := .mv (.con (.sc (.int .i64 (-1)))) }], sets := [(3, 0)], clr := [1] }
def slaws_heldWorld_r19 : Reg :=
  { id := 19, ops := [{ op := .mv (.slot 1) },
      { op := .mv (.loc 0) }], sets := [(3, 1)], clr := [1] }
def slaws_heldWorld_b : SC := .seq (.reg slaws_heldWorld_r0) (.seq (.reg slaws_heldWorld_r1) (.seq (.seq (.reg slaws_heldWorld_r2) (.cond 4 (.seq (.reg slaws_heldWorld_r3) (.ret)) (.skip))) (.seq (.reg slaws_heldWorld_r4) (.seq (.seq (.reg slaws_heldWorld_r5) (.cond 5 (.seq (.reg slaws_heldWorld_r6) (.ret)) (.skip))) (.seq (.reg slaws_heldWorld_r7) (.seq (.seq (.reg slaws_heldWorld_r8) (.cond 6 (.seq (.reg slaws_heldWorld_r9) (.ret)) (.skip))) (.seq (.reg slaws_heldWorld_r10) (.seq (.seq (.reg slaws_heldWorld_r11) (.cond 7 (.seq (.reg slaws_heldWorld_r12) (.ret)) (.skip))) (.seq (.reg slaws_heldWorld_r13) (.seq (.seq (.reg slaws_heldWorld_r14) (.cond 8 (.seq (.reg slaws_heldWorld_r15) (.ret)) (.skip))) (.seq (.reg slaws_heldWorld_r16) (.seq (.seq (.reg slaws_heldWorld_r17) (.cond 9 (.seq (.reg slaws_heldWorld_r18) (.ret)) (.skip))) (.seq (.reg slaws_heldWorld_r19) (.ret))))))))))))))
def slaws_heldWorld : SFn := { nslots := 10, nobjs := 1, params := [0, 1], ngiven := 0, bor := false, takes := [], body := slaws_heldWorld_b, results := [.slot 3] }
def slaws_heldWorld_t : List Tmp := [0, 1, 2, 4, 10, 16, 22, 28, 34, 40]
attribute [simp] slaws_heldWorld_r0 slaws_heldWorld_r1 slaws_heldWorld_r2 slaws_heldWorld_r3 slaws_heldWorld_r4 slaws_heldWorld_r5 slaws_heldWorld_r6 slaws_heldWorld_r7 slaws_heldWorld_r8 slaws_heldWorld_r9 slaws_heldWorld_r10 slaws_heldWorld_r11 slaws_heldWorld_r12 slaws_heldWorld_r13 slaws_heldWorld_r14 slaws_heldWorld_r15 slaws_heldWorld_r16 slaws_heldWorld_r17 slaws_heldWorld_r18 slaws_heldWorld_r19 slaws_heldWorld_b slaws_heldWorld
def sspec_StepClear_r0 : Reg :=
  { id := 0, ops := [{ op := .box 0 (.slot 0) },
      { op := .alloc 1 [.nil 1, .nil 1, .sc (.int .i64 0), .nil 4, .sc (.int .i64 0), .nil 1, .sc (.int .i64 0), .sc (.bool false), .sc (.int .i64 0), .sc (.int .i64 0), .nil 5, .nil 8, .sc (.int .i64 0), .sc (.int .i64 0), .sc (.int .i64 0)] },
      { op := .mv (.con (.sc (.bool false))) }], sets := [(2, 0), (3, 1)], clr := [0, 4] }
def sspec_StepClear_r1 : Reg :=
  { id := 1, ops := [{ op := .load (some 15) (.slot 2) },
      { op := .call 22 [(false, .loc 0)] [2, 3, 4, 5, 6, 7] },
      { op := .alloc 8 [.nil 1, .nil 1, .sc (.int .i64 0), .nil 4, .sc (.int .i64 0), .nil 1, .sc (.int .i64 0), .sc (.bool false), .sc (.int .i64 0), .sc (.int .i64 0), .nil 5, .nil 8, .sc (.int .i64 0), .sc (.int .i64 0), .sc (.int .i64 0)] },
      { op := .store 15 (.loc 2) (.loc 1) }], sets := [(5, 2)] }
def sspec_StepClear_r2 : Reg :=
  { id := 2, ops := [{ op := .mv (.slot 1) },
      { op := .fieldAddr (.slot 2) 3 },
      { op := .load none (.loc 1) },
      { op := .len false (.loc 2) },
      { op := .bin .sub (.loc 3) (.con (.sc (.int .i64 1))) },
      { op := .call 71 [(false, .loc 0), (false, .con (.sc (.int .i64 0))), (false, .loc 4)] [] },
      { op := .un .not (.loc 5) },
      { op := .mv (.loc 6) },
      { op := .fieldAddr (.slot 2) 3, guard := some (7, false) },
      { op := .load none (.loc 8), guard := some (7, false) },
      { op := .mv (.slot 1), guard := some (7, false) },
      { op := .indexAddr 4 (.loc 9) (.loc 10), guard := some (7, false) },
      { op := .fieldAddr (.loc 11) 2, guard := some (7, false) },
      { op := .load none (.loc 12), guard := some (7, false) },
      { op := .len false (.loc 13), guard := some (7, false) },
      { op := .bin .eql (.loc 14) (.con (.sc (.int .i64 0))), guard := some (7, false) },
      { op := .pick (.loc 7) (.con (.sc (.bool true))) (.loc 15) }], sets := [(6, 16)], clr := [2] }
def sspec_StepClear_r3 : Reg :=
  { id := 3, ops := [{ op := .load (some 15) (.slot 5) },
      { op := .store 15 (.slot 3) (.loc 0) },
      { op := .mv (.con (.sc (.bool false))) }], sets := [(4, 2)], clr := [1, 5] }
def sspec_StepClear_r4 : Reg :=
  { id := 4, ops := [{ op := .fieldAddr (.slot 5) 3 },
      { op := .load none (.loc 0) },
      { op := .mv (.slot 1) },
      { op := .buildSlice 9 4 0 [] },
      { op := .indexAddr 4 (.loc 1) (.loc 2) },
      { op := .fieldAddr (.loc 4) 2 },
      { op := .store 1 (.loc 5) (.loc 3) }], clr := [1] }
def sspec_StepClear_r5 : Reg :=
  { id := 5, ops := [{ op := .load (some 15) (.slot 5) },
      { op := .store 15 (.slot 3) (.loc 0) },
      { op := .mv (.con (.sc (.bool true))) }], sets := [(4, 2)], clr := [5] }
def sspec_StepClear_b : SC := .seq (.reg sspec_StepClear_r0) (.seq (.reg sspec_StepClear_r1) (.seq (.seq (.reg sspec_StepClear_r2) (.cond 6 (.seq (.reg sspec_StepClear_r3) (.ret)) (.skip))) (.seq (.reg sspec_StepClear_r4) (.seq (.reg sspec_StepClear_r5) (.ret)))))
def sspec_StepClear : SFn := { nslots := 7, nobjs := 10, params := [0, 1], ngiven := 0, bor := false, takes := [], body := sspec_StepClear_b, results := [.cell 3 (some 15), .slot 4] }
def sspec_StepClear_t : List Tmp := [0, 1, 2, 4, 5, 6, 25]
attribute [simp] sspec_StepClear_r0 sspec_StepClear_r1 sspec_StepClear_r2 sspec_StepClear_r3 sspec_StepClear_r4 sspec_StepClear_r5 sspec_StepClear_b sspec_StepClear
def simpl_StepClear_r0 : Reg :=
  { id := 0, ops := [{ op := .box 0 (.slot 0) },
      { op := .alloc 1 [.nil 1, .nil 1, .sc (.int .i64 0), .nil 4, .sc (.int .i64 0), .nil 1, .sc (.int .i64 0), .sc (.bool false), .sc (.int .i64 0), .sc (.int .i64 0), .nil 5, .nil 8, .sc (.int .i64 0), .sc (.int .i64 0), .sc (.int .i64 0)] },
      { op := .mv (.con (.sc (.bool false))) }], sets := [(2, 0), (3, 1)], clr := [0, 4] }
def simpl_StepClear_r1 : Reg :=
  { id := 1, ops := [{ op := .load (some 15) (.slot 2) },
      { op := .call 38 [(false, .loc 0)] [2, 3, 4, 5, 6, 7] },
      { op := .alloc 8 [.nil 1, .nil 1, .sc (.int .i64 0), .nil 4, .sc (.int .i64 0), .nil 1, .sc (.int .i64 0), .sc (.bool false), .sc (.int .i64 0), .sc (.int .i64 0), .nil 5, .nil 8, .sc (.int .i64 0), .sc (.int .i64 0), .sc (.int .i64 0)] },
      { op := .store 15 (.loc 2) (.loc 1) }], sets := [(5, 2)] }
def simpl_StepClear_r2 : Reg :=
  { id := 2, ops := [{ op := .load (some 15) (.slot 2) },
      { op := .mv (.slot 1) },
      { op := .call 117 [(false, .loc 0), (false, .loc 1)] [] },
      { op := .un .not (.loc 2) },
      { op := .mv (.loc 3) },
      { op := .fieldAddr (.slot 2) 3, guard := some (4, false) },
      { op := .load none (.loc 5), guard := some (4, false) },
      { op := .mv (.slot 1), guard := some (4, false) },
      { op := .indexAddr 4 (.loc 6) (.loc 7), guard := some (4, false) },
      { op := .fieldAddr (.loc 8) 2, guard := some (4, false) },
      { op := .load none (.loc 9), guard := some (4, false) },
      { op := .len false (.loc 10), guard := some (4, false) },
      { op := .bin .eql (.loc 11) (.con (.sc (.int .i64 0))), guard := some (4, false) },
      { op := .pick (.loc 4) (.con (.sc (.bool true))) (.loc 12) }], sets := [(6, 13)], clr := [2] }
def simpl_StepClear_r3 : Reg :=
  { id := 3, ops := [{ op := .load (some 15) (.slot 5) },
      { op := .store 15 (.slot 3) (.loc 0) },
      { op := .mv (.con (.sc (.bool false))) }], sets := [(4, 2)], clr := [1, 5] }
def simpl_StepClear_r4 : Reg :=
  { id := 4, ops := [{ op := .fieldAddr (.slot 5) 3 },
      { op := .load none (.loc 0) },
      { op := .mv (.slot 1) },
      { op := .indexAddr 4 (.loc 1) (.loc 2) },
      { op := .fieldAddr (.loc 3) 2 },
      { op := .store 1 (.loc 4) (.con (.nil 4)) }], clr := [1] }
def simpl_StepClear_r5 : Reg :=
  { id := 5, ops := [{ op := .load (some 15) (.slot 5) },
      { op := .store 15 (.slot 3) (.loc 0) },
      { op := .mv (.con (.sc (.bool true))) }], sets := [(4, 2)], clr := [5] }
def simpl_StepClear_b : SC := .seq (.reg simpl_StepClear_r0) (.seq (.reg simpl_StepClear_r1) (.seq (.seq (.reg simpl_StepClear_r2) (.cond 6 (.seq (.reg simpl_StepClear_r3) (.ret)) (.skip))) (.seq (.reg simpl_StepClear_r4) (.seq (.reg simpl_StepClear_r5) (.ret)))))
def simpl_StepClear : SFn := { nslots := 7, nobjs := 9, params := [0, 1], ngiven := 0, bor := false, takes := [], body := simpl_StepClear_b, results := [.cell 3 (some 15), .slot 4] }
def simpl_StepClear_t : List Tmp := [0, 1, 2, 4, 5, 6, 22]
attribute [simp] simpl_StepClear_r0 simpl_StepClear_r1 simpl_StepClear_r2 simpl_StepClear_r3 simpl_StepClear_r4 simpl_StepClear_r5 simpl_StepClear_b simpl_StepClear
def sspec_l32Copy_r0 : Reg :=
  { id := 0, ops := [{ op := .box 0 (.slot 0) },
      { op := .alloc 1 [.nil 1, .nil 1, .sc (.int .i64 0), .nil 4, .sc (.int .i64 0), .nil 1, .sc (.int .i64 0), .sc (.bool false), .sc (.int .i64 0), .sc (.int .i64 0), .nil 5, .nil 8, .sc (.int .i64 0), .sc (.int .i64 0), .sc (.int .i64 0)] }], sets := [(1, 0), (2, 1)], clr := [0] }
def sspec_l32Copy_r1 : Reg :=
  { id := 1, ops := [{ op := .load (some 15) (.slot 1) },
      { op := .alloc 2 [.nil 1, .nil 1, .sc (.int .i64 0), .nil 4, .sc (.int .i64 0), .nil 1, .sc (.int .i64 0), .sc (.bool false), .sc (.int .i64 0), .sc (.int .i64 0), .nil 5, .nil 8, .sc (.int .i64 0), .sc (.int .i64 0), .sc (.int .i64 0)] },
      { op := .store 15 (.loc 1) (.loc 0) }], sets := [(3, 1)] }
def sspec_l32Copy_r2 : Reg :=
  { id := 2, ops := [{ op := .buildSlice 3 1 0 [] },
      { op := .fieldAddr (.slot 1) 0 },
      { op := .load none (.loc 1) },
      { op := .append 4 1 8 false (.loc 0) (.loc 2) },
      { op := .fieldAddr (.slot 3) 0 },
      { op := .store 1 (.loc 4) (.loc 3) }] }
def sspec_l32Copy_r3 : Reg :=
  { id := 3, ops := [{ op := .buildSlice 5 1 0 [] },
      { op := .fieldAddr (.slot 1) 1 },
      { op := .load none (.loc 1) },
      { op := .append 6 1 8 false (.loc 0) (.loc 2) },
      { op := .fieldAddr (.slot 3) 1 },
      { op := .store 1 (.loc 4) (.loc 3) }] }
def sspec_l32Copy_r4 : Reg :=
  { id := 4, ops := [{ op := .buildSlice 7 4 0 [] },
      { op := .fieldAddr (.slot 3) 3 },
      { op := .store 1 (.loc 1) (.loc 0) }], ghosts := [.ren 7 24] }
def sspec_l32Copy_r5 : Reg :=
  { id := 5, ops := [{ op := .mv (.con (.sc (.int .i64 0))) }], sets := [(4, 0)] }
def sspec_l32Copy_r6 : Reg :=
  { id := 6, ops := [{ op := .mv (.slot 4) },
      { op := .fieldAddr (.slot 1) 3 },
      { op := .load none (.loc 1) },
      { op := .len false (.loc 2) },
      { op := .bin .lss (.loc 0) (.loc 3) }], sets := [(7, 4)] }
def sspec_l32Copy_r7 : Reg :=
  { id := 8, draw := true, fresh := [8, 9, 10, 11, 12], ops := [{ op := .fieldAddr (.slot 3) 3, tau := some [], om := [] },
      { op := .load none (.loc 0), tau := some [2], om := [] },
      { op := .fieldAddr (.slot 1) 3, tau := some [], om := [] },
      { op := .load none (.loc 2), tau := some [0], om := [] },
      { op := .mv (.slot 4), tau := some [], om := [] },
      { op := .indexAddr 4 (.loc 3) (.loc 4), tau := some [], om := [] },
      { op := .load (some 4) (.loc 5), tau := some [], om := [] },
      { op := .call 65 [(false, .loc 6)] [8, 9, 10], tau := some [8, 9, 10], om := [8, 9, 10] },
      { op := .buildSlice 11 4 1 [.loc 7], tau := some [8, 9, 10, 11], om := [8, 9, 10, 11] },
      { op := .append 12 4 80 true (.loc 1) (.loc 8), tau := some [11, 12, 24], om := [11, 12, 24] },
      { op := .fieldAddr (.slot 3) 3, tau := some [], om := [] },
      { op := .store 1 (.loc 10) (.loc 9), tau := some [2], om := [2] }], ghosts := [.ren 12 24] }
def sspec_l32Copy_r8 : Reg :=
  { id := 7, ops := [{ op := .mv (.slot 4) },
      { op := .bin .add (.loc 0) (.con (.sc (.int .i64 1))) },
      { op := .mv (.loc 1) }], sets := [(4, 2)] }
def sspec_l32Copy_r9 : Reg :=
  { id := 9, ops := [{ op := .fieldAddr (.slot 1) 4 },
      { op := .load (some 4) (.loc 0) },
      { op := .call 66 [(false, .loc 1)] [13] },
      { op := .fieldAddr (.slot 3) 4 },
      { op := .store 4 (.loc 3) (.loc 2) }], clr := [4] }
def sspec_l32Copy_r10 : Reg :=
  { id := 10, ops := [{ op := .buildSlice 14 5 0 [] },
      { op := .fieldAddr (.slot 3) 10 },
      { op := .store 1 (.loc 1) (.loc 0) }], ghosts := [.ren 14 25] }
def sspec_l32Copy_r11 : Reg :=
  { id := 11, ops := [{ op := .mv (.con (.sc (.int .i64 0))) }], sets := [(5, 0)] }
def sspec_l32Copy_r12 : Reg :=
  { id := 12, ops := [{ op := .mv (.slot 5) },
      { op := .fieldAddr (.slot 1) 10 },
      { op := .load none (.loc 1) },
      { op := .len false (.loc 2) },
      { op := .bin .lss (.loc 0) (.loc 3) }], sets := [(8, 4)] }
def sspec_l32Copy_r13 : Reg :=
  { id := 14, draw := true, fresh := [15, 16, 17, 18], ops := [{ op := .fieldAddr (.slot 3) 10, tau := some [], om := [] },
      { op := .load none (.loc 0), tau := some [2], om := [] },
      { op := .fieldAddr (.slot 1) 10, tau := some [], om := [] },
      { op := .load none (.loc 2), tau := some [0], om := [] },
      { op := .mv (.slot 5), tau := some [], om := [] },
      { op := .indexAddr 5 (.loc 3) (.loc 4), tau := some [], om := [] },
      { op := .load (some 5) (.loc 5), tau := some [], om := [] },
      { op := .call 67 [(false, .loc 6)] [15, 16], tau := some [15, 16], om := [15, 16] },
      { op := .buildSlice 17 5 1 [.loc 7], tau := some [15, 16, 17], om := [15, 16, 17] },
      { op := .append 18 5 72 true (.loc 1) (.loc 8), tau := some [17, 18, 25], om := [17, 18, 25] },
      { op := .fieldAddr (.slot 3) 10, tau := some [], om := [] },
      { op := .store 1 (.loc 10) (.loc 9), tau := some [2], om := [2] }], ghosts := [.ren 18 25] }
def sspec_l32Copy_r14 : Reg :=
  { id := 13, ops := [{ op := .mv (.slot 5) },
      { op := .bin .add (.loc 0) (.con (.sc (.int .i64 1))) },
      { op := .mv (.loc 1) }], sets := [(5, 2)] }
def sspec_l32Copy_r15 : Reg :=
  { id := 15, ops := [{ op := .buildSlice 19 8 0 [] },
      { op := .fieldAddr (.slot 3) 11 },
      { op := .store 1 (.loc 1) (.loc 0) }], ghosts := [.ren 19 26], clr := [5] }
def sspec_l32Copy_r16 : Reg :=
  { id := 16, ops := [{ op := .mv (.con (.sc (.int .i64 0))) }], sets := [(6, 0)] }
def sspec_l32Copy_r17 : Reg :=
  { id := 17, ops := [{ op := .mv (.slot 6) },
      { op := .fieldAddr (.slot 1) 11 },
      { op := .load none (.loc 1) },
      { op := .len false (.loc 2) },
      { op := .bin .lss (.loc 0) (.loc 3) }], sets := [(9, 4)] }
def sspec_l32Copy_r18 : Reg :=
  { id := 19, draw := true, fresh := [20, 21, 22, 23], ops := [{ op := .fieldAddr (.slot 3) 11, tau := some [], om := [] },
      { op := .load none (.loc 0), tau := some [2], om := [] },
      { op := .fieldAddr (.slot 1) 11, tau := some [], om := [] },
      { op := .load none (.loc 2), tau := some [0], om := [] },
      { op := .mv (.slot 6), tau := some [], om := [] },
      { op := .indexAddr 8 (.loc 3) (.loc 4), tau := some [], om := [] },
      { op := .fieldAddr (.loc 5) 0, tau := some [], om := [] },
      { op := .load none (.loc 6), tau := some [], om := [] },
      { op := .fieldAddr (.slot 1) 11, tau := some [], om := [] },
      { op := .load none (.loc 8), tau := some [0], om := [] },
      { op := .mv (.slot 6), tau := some [], om := [] },
      { op := .indexAddr 8 (.loc 9) (.loc 10), tau := some [], om := [] },
      { op := .fieldAddr (.loc 11) 1, tau := some [], om := [] },
      { op := .load none (.loc 12), tau := some [], om := [] },
      { op := .fieldAddr (.slot 1) 11, tau := some [], om := [] },
      { op := .load none (.loc 14), tau := some [0], om := [] },
      { op := .mv (.slot 6), tau := some [], om := [] },
      { op := .indexAddr 8 (.loc 15) (.loc 16), tau := some [], om := [] },
      { op := .fieldAddr (.loc 17) 2, tau := some [], om := [] },
      { op := .load none (.loc 18), tau := some [], om := [] },
      { op := .fieldAddr (.slot 1) 11, tau := some [], om := [] },
      { op := .load none (.loc 20), tau := some [0], om := [] },
      { op := .mv (.slot 6), tau := some [], om := [] },
      { op := .indexAddr 8 (.loc 21) (.loc 22), tau := some [], om := [] },
      { op := .fieldAddr (.loc 23) 3, tau := some [], om := [] },
      { op := .load (some 5) (.loc 24), tau := some [], om := [] },
      { op := .call 67 [(false, .loc 25)] [20, 21], tau := some [20, 21], om := [20, 21] },
      { op := .build [.sc (.int .i64 0), .sc (.int .i64 0), .sc (.bool false), .sc (.bool false), .sc (.int .i64 0), .nil 1, .sc (.int .i64 0), .nil 1] [(0, 1, .loc 7), (1, 1, .loc 13), (2, 1, .loc 19), (3, 5, .loc 26)], tau := some [], om := [] },
      { op := .buildSlice 22 8 1 [.loc 27], tau := some [20, 21, 22], om := [20, 21, 22] },
      { op := .append 23 8 96 true (.loc 1) (.loc 28), tau := some [22, 23, 26], om := [22, 23, 26] },
      { op := .fieldAddr (.slot 3) 11, tau := some [], om := [] },
      { op := .store 1 (.loc 30) (.loc 29), tau := some [2], om := [2] }], ghosts := [.ren 23 26] }
def sspec_l32Copy_r19 : Reg :=
  { id := 18, ops := [{ op := .mv (.slot 6) },
      { op := .bin .add (.loc 0) (.con (.sc (.int .i64 1))) },
      { op := .mv (.loc 1) }], sets := [(6, 2)] }
def sspec_l32Copy_r20 : Reg :=
  { id := 20, ops := [{ op := .load (some 15) (.slot 3) },
      { op := .store 15 (.slot 2) (.loc 0) }], clr := [1, 3, 6] }
def sspec_l32Copy_b : SC := .seq (.reg sspec_l32Copy_r0) (.seq (.reg sspec_l32Copy_r1) (.seq (.reg sspec_l32Copy_r2) (.seq (.reg sspec_l32Copy_r3) (.seq (.reg sspec_l32Copy_r4) (.seq (.seq (.reg sspec_l32Copy_r5) (.block 0 (.loop (.seq (.seq (.reg sspec_l32Copy_r6) (.cond 7 (.skip) (.exit 0))) (.seq (.block 1 (.reg sspec_l32Copy_r7)) (.reg sspec_l32Copy_r8)))))) (.seq (.reg sspec_l32Copy_r9) (.seq (.reg sspec_l32Copy_r10) (.seq (.seq (.reg sspec_l32Copy_r11) (.block 2 (.loop (.seq (.seq (.reg sspec_l32Copy_r12) (.cond 8 (.skip) (.exit 2))) (.seq (.block 3 (.reg sspec_l32Copy_r13)) (.reg sspec_l32Copy_r14)))))) (.seq (.reg sspec_l32Copy_r15) (.seq (.seq (.reg sspec_l32Copy_r16) (.block 4 (.loop (.seq (.seq (.reg sspec_l32Copy_r17) (.cond 9 (.skip) (.exit 4))) (.seq (.block 5 (.reg sspec_l32Copy_r18)) (.reg sspec_l32Copy_r19)))))) (.seq (.reg sspec_l32Copy_r20) (.ret))))))))))))
def sspec_l32Copy : SFn := { nslots := 10, nobjs := 27, params := [0], ngiven := 0, bor := false, takes := [], body := sspec_l32Copy_b, results := [.cell 2 (some 15)] }
def sspec_l32Copy_t : List Tmp := [0, 1, 2, 3, 4, 5, 6, 24, 48, 68]
attribute [simp] sspec_l32Copy_r0 sspec_l32Copy_r1 sspec_l32Copy_r2 sspec_l32Copy_r3 sspec_l32Copy_r4 sspec_l32Copy_r5 sspec_l32Copy_r6 sspec_l32Copy_r7 sspec_l32Copy_r8 sspec_l32Copy_r9 sspec_l32Copy_r10 sspec_l32Copy_r11 sspec_l32Copy_r12 sspec_l32Copy_r13 sspec_l32Copy_r14 sspec_l32Copy_r15 sspec_l32Copy_r16 sspec_l32Copy_r17 sspec_l32Copy_r18 sspec_l32Copy_r19 sspec_l32Copy_r20 sspec_l32Copy_b sspec_l32Copy
def simpl_copyWorld_r0 : Reg :=
  { id := 0, ops := [{ op := .box 0 (.slot 0) },
      { op := .alloc 1 [.nil 1, .nil 1, .sc (.int .i64 0), .nil 4, .sc (.int .i64 0), .nil 1, .sc (.int .i64 0), .sc (.bool false), .sc (.int .i64 0), .sc (.int .i64 0), .nil 5, .nil 8, .sc (.int .i64 0), .sc (.int .i64 0), .sc (.int .i64 0)] }], sets := [(1, 0), (2, 1)], clr := [0] }
def simpl_copyWorld_r1 : Reg :=
  { id := 1, ops := [{ op := .load (some 15) (.slot 1) },
      { op := .alloc 2 [.nil 1, .nil 1, .sc (.int .i64 0), .nil 4, .sc (.int .i64 0), .nil 1, .sc (.int .i64 0), .sc (.bool false), .sc (.int .i64 0), .sc (.int .i64 0), .nil 5, .nil 8, .sc (.int .i64 0), .sc (.int .i64 0), .sc (.int .i64 0)] },
      { op := .store 15 (.loc 1) (.loc 0) }], sets := [(3, 1)] }
def simpl_copyWorld_r2 : Reg :=
  { id := 2, draw := true, ops := [{ op := .buildSlice 3 1 0 [], tau := some [3], om := [3] },
      { op := .fieldAddr (.slot 1) 0, tau := some [], om := [] },
      { op := .load none (.loc 1), tau := some [0], om := [] },
      { op := .append 4 1 8 false (.loc 0) (.loc 2), tau := some [3, 4], om := [3, 4] },
      { op := .buildSlice 5 1 0 [], tau := some [5], om := [5] },
      { op := .fieldAddr (.slot 1) 1, tau := some [], om := [] },
      { op := .load none (.loc 5), tau := some [0], om := [] },
      { op := .append 6 1 8 false (.loc 4) (.loc 6), tau := some [5, 6], om := [5, 6] },
      { op := .fieldAddr (.slot 1) 4, tau := some [], om := [] },
      { op := .load (some 4) (.loc 8), tau := some [0], om := [] },
      { op := .call 101 [(false, .loc 9)] [7], tau := some [7], om := [7] },
      { op := .fieldAddr (.slot 3) 0, tau := some [], om := [] },
      { op := .store 1 (.loc 11) (.loc 3), tau := some [2], om := [2] },
      { op := .fieldAddr (.slot 3) 1, tau := some [], om := [] },
      { op := .store 1 (.loc 13) (.loc 7), tau := some [2], om := [2] },
      { op := .fieldAddr (.slot 3) 4, tau := some [], om := [] },
      { op := .store 4 (.loc 15) (.loc 10), tau := some [2], om := [2] }] }
def simpl_copyWorld_r3 : Reg :=
  { id := 3, ops := [{ op := .fieldAddr (.slot 3) 3 },
      { op := .store 1 (.loc 0) (.con (.nil 4)) },
      { op := .fieldAddr (.slot 3) 10 },
      { op := .store 1 (.loc 2) (.con (.nil 5)) },
      { op := .fieldAddr (.slot 3) 11 },
      { op := .store 1 (.loc 4) (.con (.nil 8)) }], ghosts := [.ownc 2 10 25, .ownc 2 11 26, .ownc 2 3 24] }
def simpl_copyWorld_r4 : Reg :=
  { id := 4, ops := [{ op := .fieldAddr (.slot 1) 3 },
      { op := .load none (.loc 0) },
      { op := .len false (.loc 1) },
      { op := .mv (.con (.sc (.int .i64 0))) }], sets := [(7, 1), (8, 2), (9, 3)] }
def simpl_copyWorld_r5 : Reg :=
  { id := 5, ops := [{ op := .bin .lss (.slot 9) (.slot 8) }], sets := [(10, 0)] }
def simpl_copyWorld_r6 : Reg :=
  { id := 6, fresh := [8], ops := [{ op := .indexAddr 4 (.slot 7) (.slot 9) },
      { op := .load (some 4) (.loc 0) },
      { op := .alloc 8 [.nil 1, .nil 1, .nil 4, .sc (.int .i64 0)] },
      { op := .store 4 (.loc 2) (.loc 1) }], sets := [(4, 2)] }
def simpl_copyWorld_r7 : Reg :=
  { id := 7, draw := true, fresh := [9, 10, 11, 12, 13], ops := [{ op := .fieldAddr (.slot 3) 3, tau := some [], om := [] },
      { op := .load none (.loc 0), tau := some [2], om := [] },
      { op := .load (some 4) (.slot 4), tau := some [8], om := [] },
      { op := .call 102 [(false, .loc 2)] [9, 10, 11], tau := some [9, 10, 11], om := [9, 10, 11] },
      { op := .buildSlice 12 4 1 [.loc 3], tau := some [9, 10, 11, 12], om := [9, 10, 11, 12] },
      { op := .append 13 4 80 true (.loc 1) (.loc 4), tau := some [12, 13, 24], om := [12, 13, 24] },
      { op := .fieldAddr (.slot 3) 3, tau := some [], om := [] },
      { op := .store 1 (.loc 6) (.loc 5), tau := some [2], om := [2] }], ghosts := [.ren 13 24], clr := [4] }
def simpl_copyWorld_r8 : Reg :=
  { id := 8, ops := [{ op := .bin .add (.slot 9) (.con (.sc (.int .i64 1))) },
      { op := .mv (.loc 0) }], sets := [(9, 1)] }
def simpl_copyWorld_r9 : Reg :=
  { id := 9, ops := [{ op := .fieldAddr (.slot 1) 10 },
      { op := .load none (.loc 0) },
      { op := .len false (.loc 1) },
      { op := .mv (.con (.sc (.int .i64 0))) }], sets := [(11, 1), (12, 2), (13, 3)], clr := [7, 8, 9] }
def simpl_copyWorld_r10 : Reg :=
  { id := 10, ops := [{ op := .bin .lss (.slot 13) (.slot 12) }], sets := [(14, 0)] }
def simpl_copyWorld_r11 : Reg :=
  { id := 11, fresh := [14], ops := [{ op := .indexAddr 5 (.slot 11) (.slot 13) },
      { op := .load (some 5) (.loc 0) },
      { op := .alloc 14 [.sc (.bool false), .sc (.int .i64 0), .nil 1, .sc (.int .i64 0), .nil 1] },
      { op := .store 5 (.loc 2) (.loc 1) }], sets := [(5, 2)] }
def simpl_copyWorld_r12 : Reg :=
  { id := 12, draw := true, fresh := [15, 16, 17, 18], ops := [{ op := .fieldAddr (.slot 3) 10, tau := some [], om := [] },
      { op := .load none (.loc 0), tau := some [2], om := [] },
      { op := .load (some 5) (.slot 5), tau := some [14], om := [] },
      { op := .call 103 [(false, .loc 2)] [15, 16], tau := some [15, 16], om := [15, 16] },
      { op := .buildSlice 17 5 1 [.loc 3], tau := some [15, 16, 17], om := [15, 16, 17] },
      { op := .append 18 5 72 true (.loc 1) (.loc 4), tau := some [17, 18, 25], om := [17, 18, 25] },
      { op := .fieldAddr (.slot 3) 10, tau := some [], om := [] },
      { op := .store 1 (.loc 6) (.loc 5), tau := some [2], om := [2] }], ghosts := [.ren 18 25], clr := [5] }
def simpl_copyWorld_r13 : Reg :=
  { id := 13, ops := [{ op := .bin .add (.slot 13) (.con (.sc (.int .i64 1))) },
      { op := .mv (.loc 0) }], sets := [(13, 1)] }
def simpl_copyWorld_r14 : Reg :=
  { id := 14, ops := [{ op := .fieldAddr (.slot 1) 11 },
      { op := .load none (.loc 0) },
      { op := .len false (.loc 1) },
      { op := .mv (.con (.sc (.int .i64 0))) }], sets := [(15, 1), (16, 2), (17, 3)], clr := [1, 11, 12, 13] }
def simpl_copyWorld_r15 : Reg :=
  { id := 15, ops := [{ op := .bin .lss (.slot 17) (.slot 16) }], sets := [(18, 0)] }
def simpl_copyWorld_r16 : Reg :=
  { id := 16, fresh := [19], ops := [{ op := .indexAddr 8 (.slot 15) (.slot 17) },
      { op := .load (some 8) (.loc 0) },
      { op := .alloc 19 [.sc (.int .i64 0), .sc (.int .i64 0), .sc (.bool false), .sc (.bool false), .sc (.int .i64 0), .nil 1, .sc (.int .i64 0), .nil 1] },
      { op := .store 8 (.loc 2) (.loc 1) }], sets := [(6, 2)] }
def simpl_copyWorld_r17 : Reg :=
  { id := 17, fresh := [20, 21], ops := [{ op := .fieldAddr (.slot 6) 3 },
      { op := .load (some 5) (.loc 0) },
      { op := .call 103 [(false, .loc 1)] [20, 21] },
      { op := .fieldAddr (.slot 6) 3 },
      { op := .store 5 (.loc 3) (.loc 2) }] }
def simpl_copyWorld_r18 : Reg :=
  { id := 18, fresh := [22, 23], ops := [{ op := .fieldAddr (.slot 3) 11 },
      { op := .load none (.loc 0) },
      { op := .load (some 8) (.slot 6) },
      { op := .buildSlice 22 8 1 [.loc 2] },
      { op := .append 23 8 96 true (.loc 1) (.loc 3) },
      { op := .fieldAddr (.slot 3) 11 },
      { op := .store 1 (.loc 5) (.loc 4) }], ghosts := [.ren 23 26], clr := [6] }
def simpl_copyWorld_r19 : Reg :=
  { id := 19, ops := [{ op := .bin .add (.slot 17) (.con (.sc (.int .i64 1))) },
      { op := .mv (.loc 0) }], sets := [(17, 1)] }
def simpl_copyWorld_r20 : Reg :=
  { id := 20, ops := [{ op := .load (some 15) (.slot 3) },
      { op := .store 15 (.slot 2) (.loc 0) }], clr := [3, 15, 16, 17] }
def simpl_copyWorld_b : SC := .seq (.reg simpl_copyWorld_r0) (.seq (.reg simpl_copyWorld_r1) (.seq (.reg simpl_copyWorld_r2) (.seq (.reg simpl_copyWorld_r3) (.seq (.seq (.reg simpl_copyWorld_r4) (.block 0 (.loop (.seq (.reg simpl_copyWorld_r5) (.seq (.cond 10 (.skip) (.exit 0)) (.seq (.block 1 (.seq (.reg simpl_copyWorld_r6) (.reg simpl_copyWorld_r7))) (.reg simpl_copyWorld_r8))))))) (.seq (.seq (.reg simpl_copyWorld_r9) (.block 2 (.loop (.seq (.reg simpl_copyWorld_r10) (.seq (.cond 14 (.skip) (.exit 2)) (.seq (.block 3 (.seq (.reg simpl_copyWorld_r11) (.reg simpl_copyWorld_r12))) (.reg simpl_copyWorld_r13))))))) (.seq (.seq (.reg simpl_copyWorld_r14) (.block 4 (.loop (.seq (.reg simpl_copyWorld_r15) (.seq (.cond 18 (.skip) (.exit 4)) (.seq (.block 5 (.seq (.reg simpl_copyWorld_r16) (.seq (.reg simpl_copyWorld_r17) (.reg simpl_copyWorld_r18)))) (.reg simpl_copyWorld_r19))))))) (.seq (.reg simpl_copyWorld_r20) (.ret))))))))
def simpl_copyWorld : SFn := { nslots := 19, nobjs := 27, params := [0], ngiven := 0, bor := false, takes := [], body := simpl_copyWorld_b, results := [.cell 2 (some 15)] }
def simpl_copyWorld_t : List Tmp := [0, 1, 2, 3, 5, 7, 9, 29, 30, 31, 32, 44, 45, 46, 47, 59, 60, 61, 62]
attribute [simp] simpl_copyWorld_r0 simpl_copyWorld_r1 simpl_copyWorld_r2 simpl_copyWorld_r3 simpl_copyWorld_r4 simpl_copyWorld_r5 simpl_copyWorld_r6 simpl_copyWorld_r7 simpl_copyWorld_r8 simpl_copyWorld_r9 simpl_copyWorld_r10 simpl_copyWorld_r11 simpl_copyWorld_r12 simpl_copyWorld_r13 simpl_copyWorld_r14 simpl_copyWorld_r15 simpl_copyWorld_r16 simpl_copyWorld_r17 simpl_copyWorld_r18 simpl_copyWorld_r19 simpl_copyWorld_r20 simpl_copyWorld_b simpl_copyWorld
def slaws_heldRollout_r0 : Reg :=
  { id := 0, ops := [{ op := .box 0 (.slot 0) },
      { op := .mv (.con (.sc (.int .i64 0))) }], sets := [(2, 0)], clr := [0, 3] }
def slaws_heldRollout_r1 : Reg :=
  { id := 1, ops := [{ op := .fieldAddr (.slot 2) 1 },
      { op := .load none (.loc 0) },
      { op := .mv (.slot 1) },
      { op := .call 57 [(false, .loc 1), (false, .loc 2)] [] },
      { op := .mv (.loc 3) }], sets := [(1, 4)], clr := [2] }
def slaws_heldRollout_r2 : Reg :=
  { id := 2, ops := [{ op := .mv (.slot 1) },
      { op := .bin .lss (.loc 0) (.con (.sc (.int .i64 0))) }], sets := [(4, 1)] }
def slaws_heldRollout_r3 : Reg :=
  { id := 3, ops := [{ op := .mv (.con (.sc (.int .i64 (-1)))) }], sets := [(3, 0)], clr := [1] }
def slaws_heldRollout_r4 : Reg :=
  { id := 4, ops := [{ op := .mv (.slot 1) },
      { op := .mv (.loc 0) }], sets := [(3, 1)], clr := [1] }
def slaws_heldRollout_b : SC := .seq (.reg slaws_heldRollout_r0) (.seq (.reg slaws_heldRollout_r1) (.seq (.seq (.reg slaws_heldRollout_r2) (.cond 4 (.seq (.reg slaws_heldRollout_r3) (.ret)) (.skip))) (.seq (.reg slaws_heldRollout_r4) (.ret))))
def slaws_heldRollout : SFn := { nslots := 5, nobjs := 1, params := [0, 1], ngiven := 0, bor := false, takes := [], body := slaws_heldRollout_b, results := [.slot 3] }
def slaws_heldRollout_t : List Tmp := [0, 1, 2, 4, 10]
attribute [simp] slaws_heldRollout_r0 slaws_heldRollout_r1 slaws_heldRollout_r2 slaws_heldRollout_r3 slaws_heldRollout_r4 slaws_heldRollout_b slaws_heldRollout
def slaws_heldDialedS_r0 : Reg :=
  { id := 0, ops := [{ op := .mv (.con (.sc (.int .i64 0))) }], clr := [2] }
def slaws_heldDialedS_r1 : Reg :=
  { id := 1, ops := [{ op := .mv (.con (.sc (.int .i64 0))) }], sets := [(3, 0)] }
def slaws_heldDialedS_r2 : Reg :=
  { id := 2, ops := [{ op := .mv (.slot 3) },
      { op := .mv (.slot 0) },
      { op := .len false (.loc 1) },
      { op := .bin .lss (.loc 0) (.loc 2) }], sets := [(4, 3)] }
def slaws_heldDialedS_r3 : Reg :=
  { id := 4, ops := [{ op := .mv (.slot 0) },
      { op := .mv (.slot 3) },
      { op := .indexAddr 5 (.loc 0) (.loc 1) },
      { op := .fieldAddr (.loc 2) 0 },
      { op := .fieldAddr (.loc 3) 0 },
      { op := .load none (.loc 4) },
      { op := .mv (.slot 1) },
      { op := .bin .rem (.loc 6) (.con (.sc (.int .i64 3))) },
      { op := .bin .eql (.loc 7) (.con (.sc (.int .i64 0))) },
      { op := .beq true (.loc 5) (.loc 8) }], sets := [(5, 9)] }
def slaws_heldDialedS_r4 : Reg :=
  { id := 5, ops := [{ op := .mv (.con (.sc (.int .i64 (-1)))) }], sets := [(2, 0)], clr := [0, 1, 3] }
def slaws_heldDialedS_r5 : Reg :=
  { id := 6, ops := [{ op := .mv (.slot 1) },
      { op := .bin .add (.loc 0) (.con (.sc (.int .i64 1))) },
      { op := .mv (.loc 1) }], sets := [(1, 2)] }
def slaws_heldDialedS_r6 : Reg :=
  { id := 7, ops := [{ op := .mv (.slot 0) },
      { op := .mv (.slot 3) },
      { op := .indexAddr 5 (.loc 0) (.loc 1) },
      { op := .fieldAddr (.loc 2) 0 },
      { op := .fieldAddr (.loc 3) 1 },
      { op := .load none (.loc 4) },
      { op := .mv (.slot 1) },
      { op := .bin .neq (.loc 5) (.loc 6) }], sets := [(6, 7)] }
def slaws_heldDialedS_r7 : Reg :=
  { id := 8, ops := [{ op := .mv (.con (.sc (.int .i64 (-1)))) }], sets := [(2, 0)], clr := [0, 1, 3] }
def slaws_heldDialedS_r8 : Reg :=
  { id := 9, ops := [{ op := .mv (.slot 1) },
      { op := .bin .add (.loc 0) (.con (.sc (.int .i64 1))) },
      { op := .mv (.loc 1) }], sets := [(1, 2)] }
def slaws_heldDialedS_r9 : Reg :=
  { id := 10, ops := [{ op := .mv (.slot 0) },
      { op := .mv (.slot 3) },
      { op := .indexAddr 5 (.loc 0) (.loc 1) },
      { op := .fieldAddr (.loc 2) 0 },
      { op := .fieldAddr (.loc 3) 2 },
      { op := .load none (.loc 4) },
      { op := .mv (.slot 1) },
      { op := .call 57 [(false, .loc 5), (false, .loc 6)] [] },
      { op := .mv (.loc 7) }], sets := [(1, 8)] }
def slaws_heldDialedS_r10 : Reg :=
  { id := 11, ops := [{ op := .mv (.slot 1) },
      { op := .bin .lss (.loc 0) (.con (.sc (.int .i64 0))) }], sets := [(7, 1)] }
def slaws_heldDialedS_r11 : Reg :=
  { id := 12, ops := [{ op := .mv (.con (.sc (.int .i64 (-1)))) }], sets := [(2, 0)], clr := [0, 1, 3] }
def slaws_heldDialedS_r12 : Reg :=
  { id := 13, ops := [{ op := .mv (.slot 0) },
      { op := .mv (.slot 3) },
      { op := .indexAddr 5 (.loc 0) (.loc 1) },
      { op := .fieldAddr (.loc 2) 3 },
      { op := .load none (.loc 3) },
      { op := .mv (.slot 1) },
      { op := .bin .neq (.loc 4) (.loc 5) }], sets := [(8, 6)] }
def slaws_heldDialedS_r13 : Reg :=
  { id := 14, ops := [{ op := .mv (.con (.sc (.int .i64 (-1)))) }], sets := [(2, 0)], clr := [0, 1, 3] }
def slaws_heldDialedS_r14 : Reg :=
  { id := 15, ops := [{ op := .mv (.slot 1) },
      { op := .bin .add (.loc 0) (.con (.sc (.int .i64 1))) },
      { op := .mv (.loc 1) }], sets := [(1, 2)] }
def slaws_heldDialedS_r15 : Reg :=
  { id := 16, ops := [{ op := .mv (.slot 0) },
      { op := .mv (.slot 3) },
      { op := .indexAddr 5 (.loc 0) (.loc 1) },
      { op := .fieldAddr (.loc 2) 4 },
      { op := .load none (.loc 3) },
      { op := .mv (.slot 1) },
      { op := .call 57 [(false, .loc 4), (false, .loc 5)] [] },
      { op := .mv (.loc 6) }], sets := [(1, 7)] }
def slaws_heldDialedS_r16 : Reg :=
  { id := 17, ops := [{ op := .mv (.slot 1) },
      { op := .bin .lss (.loc 0) (.con (.sc (.int .i64 0))) }], sets := [(9, 1)] }
def slaws_heldDialedS_r17 : Reg :=
  { id := 18, ops := [{ op := .mv (.con (.sc (.int .i64 (-1)))) }], sets := [(2, 0)], clr := [0, 1, 3] }
def slaws_heldDialedS_r18 : Reg :=
  { id := 3, ops := [{ op := .mv (.slot 3) },
      { op := .bin .add (.loc 0) (.con (.sc (.int .i64 1))) },
      { op := .mv (.loc 1) }], sets := [(3, 2)] }
def slaws_heldDialedS_r19 : Reg :=
  { id := 19, ops := [{ op := .mv (.slot 1) },
      { op := .mv (.loc 0) }], sets := [(2, 1)], clr := [0, 1, 3] }
def slaws_heldDialedS_b : SC := .seq (.reg slaws_heldDialedS_r0) (.seq (.seq (.reg slaws_heldDialedS_r1) (.block 0 (.loop (.seq (.seq (.reg slaws_heldDialedS_r2) (.cond 4 (.skip) (.exit 0))) (.seq (.block 1 (.seq (.seq (.reg slaws_heldDialedS_r3) (.cond 5 (.seq (.reg slaws_heldDialedS_r4) (.ret)) (.skip))) (.seq (.reg slaws_heldDialedS_r5) (.seq (.seq (.reg slaws_heldDialedS_r6) (.cond 6 (.seq (.reg slaws_heldDialedS_r7) (.ret)) (.skip))) (.seq (.reg slaws_heldDialedS_r8) (.seq (.reg slaws_heldDialedS_r9) (.seq (.seq (.reg slaws_heldDialedS_r10) (.cond 7 (.seq (.reg slaws_heldDialedS_r11) (.ret)) (.skip))) (.seq (.seq (.reg slaws_heldDialedS_r12) (.cond 8 (.seq (.reg slaws_heldDialedS_r13) (.ret)) (.skip))) (.seq (.reg slaws_heldDialedS_r14) (.seq (.reg slaws_heldDialedS_r15) (.seq (.reg slaws_heldDialedS_r16) (.cond 9 (.seq (.reg slaws_heldDialedS_r17) (.ret)) (.skip))))))))))))) (.reg slaws_heldDialedS_r18)))))) (.seq (.reg slaws_heldDialedS_r19) (.ret)))
def slaws_heldDialedS : SFn := { nslots := 10, nobjs := 0, params := [0, 1], ngiven := 0, bor := false, takes := [], body := slaws_heldDialedS_b, results := [.slot 2] }
def slaws_heldDialedS_t : List Tmp := [0, 1, 4, 5, 9, 21, 31, 43, 50, 61]
attribute [simp] slaws_heldDialedS_r0 slaws_heldDialedS_r1 slaws_heldDialedS_r2 slaws_heldDialedS_r3 slaws_heldDialedS_r4 slaws_heldDialedS_r5 slaws_heldDialedS_r6 slaws_heldDialedS_r7 slaws_heldDialedS_r8 slaws_heldDialedS_r9 slaws_heldDialedS_r10 slaws_heldDialedS_r11 slaws_heldDialedS_r12 slaws_heldDialedS_r13 slaws_heldDialedS_r14 slaws_heldDialedS_r15 slaws_heldDialedS_r16 slaws_heldDialedS_r17 slaws_heldDialedS_r18 slaws_heldDialedS_r19 slaws_heldDialedS_b slaws_heldDialedS
def slaws_heldLoggedS_r0 : Reg :=
  { id := 0, ops := [{ op := .mv (.con (.sc (.int .i64 0))) }], clr := [2] }
def slaws_heldLoggedS_r1 : Reg :=
  { id := 1, ops := [{ op := .mv (.con (.sc (.int .i64 0))) }], sets := [(3, 0)] }
def slaws_heldLoggedS_r2 : Reg :=
  { id := 2, ops := [{ op := .mv (.slot 3) },
      { op := .mv (.slot 0) },
      { op := .len false (.loc 1) },
      { op := .bin .lss (.loc 0) (.loc 2) }], sets := [(4, 3)] }
def slaws_heldLoggedS_r3 : Reg :=
  { id := 4, ops := [{ op := .mv (.slot 0) },
      { op := .mv (.slot 3) },
      { op := .indexAddr 8 (.loc 0) (.loc 1) },
      { op := .fieldAddr (.loc 2) 0 },
      { op := .load none (.loc 3) },
      { op := .mv (.slot 1) },
      { op := .bin .neq (.loc 4) (.loc 5) }], sets := [(5, 6)] }
def slaws_heldLoggedS_r4 : Reg :=
  { id := 5, ops := [{ op := .mv (.con (.sc (.int .i64 (-1)))) }], sets := [(2, 0)], clr := [0, 1, 3] }
def slaws_heldLoggedS_r5 : Reg :=
  { id := 6, ops := [{ op := .mv (.slot 1) },
      { op := .bin .add (.loc 0) (.con (.sc (.int .i64 1))) },
      { op := .mv (.loc 1) }], sets := [(1, 2)] }
def slaws_heldLoggedS_r6 : Reg :=
  { id := 7, ops := [{ op := .mv (.slot 0) },
      { op := .mv (.slot 3) },
      { op := .indexAddr 8 (.loc 0) (.loc 1) },
      { op := .fieldAddr (.loc 2) 1 },
      { op := .load none (.loc 3) },
      { op := .mv (.slot 1) },
      { op := .bin .neq (.loc 4) (.loc 5) }], sets := [(6, 6)] }
def slaws_heldLoggedS_r7 : Reg :=
  { id := 8, ops := [{ op := .mv (.con (.sc (.int .i64 (-1)))) }], sets := [(2, 0)], clr := [0, 1, 3] }
def slaws_heldLoggedS_r8 : Reg :=
  { id := 9, ops := [{ op := .mv (.slot 1) },
      { op := .bin .add (.loc 0) (.con (.sc (.int .i64 1))) },
      { op := .mv (.loc 1) }], sets := [(1, 2)] }
def slaws_heldLoggedS_r9 : Reg :=
  { id := 10, ops := [{ op := .mv (.slot 0) },
      { op := .mv (.slot 3) },
      { op := .indexAddr 8 (.loc 0) (.loc 1) },
      { op := .fieldAddr (.loc 2) 2 },
      { op := .load none (.loc 3) },
      { op := .mv (.slot 1) },
      { op := .bin .rem (.loc 5) (.con (.sc (.int .i64 3))) },
      { op := .bin .eql (.loc 6) (.con (.sc (.int .i64 0))) },
      { op := .beq true (.loc 4) (.loc 7) }], sets := [(7, 8)] }
def slaws_heldLoggedS_r10 : Reg :=
  { id := 11, ops := [{ op := .mv (.con (.sc (.int .i64 (-1)))) }], sets := [(2, 0)], clr := [0, 1, 3] }
def slaws_heldLoggedS_r11 : Reg :=
  { id := 12, ops := [{ op := .mv (.slot 1) },
      { op := .bin .add (.loc 0) (.con (.sc (.int .i64 1))) },
      { op := .mv (.loc 1) }], sets := [(1, 2)] }
def slaws_heldLoggedS_r12 : Reg :=
  { id := 13, ops := [{ op := .mv (.slot 0) },
      { op := .mv (.slot 3) },
      { op := .indexAddr 8 (.loc 0) (.loc 1) },
      { op := .fieldAddr (.loc 2) 3 },
      { op := .fieldAddr (.loc 3) 0 },
      { op := .fieldAddr (.loc 4) 0 },
      { op := .load none (.loc 5) },
      { op := .mv (.slot 1) },
      { op := .bin .rem (.loc 7) (.con (.sc (.int .i64 3))) },
      { op := .bin .eql (.loc 8) (.con (.sc (.int .i64 0))) },
      { op := .beq true (.loc 6) (.loc 9) }], sets := [(8, 10)] }
def slaws_heldLoggedS_r13 : Reg :=
  { id := 14, ops := [{ op := .mv (.con (.sc (.int .i64 (-1)))) }], sets := [(2, 0)], clr := [0, 1, 3] }
def slaws_heldLoggedS_r14 : Reg :=
  { id := 15, ops := [{ op := .mv (.slot 1) },
      { op := .bin .add (.loc 0) (.con (.sc (.int .i64 1))) },
      { op := .mv (.loc 1) }], sets := [(1, 2)] }
def slaws_heldLoggedS_r15 : Reg :=
  { id := 16, ops := [{ op := .mv (.slot 0) },
      { op := .mv (.slot 3) },
      { op := .indexAddr 8 (.loc 0) (.loc 1) },
      { op := .fieldAddr (.loc 2) 3 },
      { op := .fieldAddr (.loc 3) 0 },
      { op := .fieldAddr (.loc 4) 1 },
      { op := .load none (.loc 5) },
      { op := .mv (.slot 1) },
      { op := .bin .neq (.loc 6) (.loc 7) }], sets := [(9, 8)] }
def slaws_heldLoggedS_r16 : Reg :=
  { id := 17, ops := [{ op := .mv (.con (.sc (.int .i64 (-1)))) }], sets := [(2, 0)], clr := [0, 1, 3] }
def slaws_heldLoggedS_r17 : Reg :=
  { id := 18, ops := [{ op := .mv (.slot 1) },
      { op := .bin .add (.loc 0) (.con (.sc (.int .i64 1))) },
      { op := .mv (.loc 1) }], sets := [(1, 2)] }
def slaws_heldLoggedS_r18 : Reg :=
  { id := 19, ops := [{ op := .mv (.slot 0) },
      { op := .mv (.slot 3) },
      { op := .indexAddr 8 (.loc 0) (.loc 1) },
      { op := .fieldAddr (.loc 2) 3 },
      { op := .fieldAddr (.loc 3) 0 },
      { op := .fieldAddr (.loc 4) 2 },
      { op := .load none (.loc 5) },
      { op := .mv (.slot 1) },
      { op := .call 57 [(false, .loc 6), (false, .loc 7)] [] },
      { op := .mv (.loc 8) }], sets := [(1, 9)] }
def slaws_heldLoggedS_r19 : Reg :=
  { id := 20, ops := [{ op := .mv (.slot 1) },
      { op := .bin .lss (.loc 0) (.con (.sc (.int .i64 0))) }], sets := [(10, 1)] }
def slaws_heldLoggedS_r20 : Reg :=
  { id := 21, ops := [{ op := .mv (.con (.sc (.int .i64 (-1)))) }], sets := [(2, 0)], clr := [0, 1, 3] }
def slaws_heldLoggedS_r21 : Reg :=
  { id := 22, ops := [{ op := .mv (.slot 0) },
      { op := .mv (.slot 3) },
      { op := .indexAddr 8 (.loc 0) (.loc 1) },
      { op := .fieldAddr (.loc 2) 3 },
      { op := .fieldAddr (.loc 3) 3 },
      { op := .load none (.loc 4) },
      { op := .mv (.slot 1) },
      { op := .bin .neq (.loc 5) (.loc 6) }], sets := [(11, 7)] }
def slaws_heldLoggedS_r22 : Reg :=
  { id := 23, ops := [{ op := .mv (.con (.sc (.int .i64 (-1)))) }], sets := [(2, 0)], clr := [0, 1, 3] }
def slaws_heldLoggedS_r23 : Reg :=
  { id := 24, ops := [{ op := .mv (.slot 1) },
      { op := .bin .add (.loc 0) (.con (.sc (.int .i64 1))) },
      { op := .mv (.loc 1) }], sets := [(1, 2)] }
def slaws_heldLoggedS_r24 : Reg :=
  { id := 25, ops := [{ op := .mv (.slot 0) },
      { op := .mv (.slot 3) },
      { op := .indexAddr 8 (.loc 0) (.loc 1) },
      { op := .fieldAddr (.loc 2) 3 },
      { op := .fieldAddr (.loc 3) 4 },
      { op := .load none (.loc 4) },
      { op := .mv (.slot 1) },
      { op := .call 57 [(false, .loc 5), (false, .loc 6)] [] },
      { op := .mv (.loc 7) }], sets := [(1, 8)] }
def slaws_heldLoggedS_r25 : Reg :=
  { id := 26, ops := [{ op := .mv (.slot 1) },
      { op := .bin .lss (.loc 0) (.con (.sc (.int .i64 0))) }], sets := [(12, 1)] }
def slaws_heldLoggedS_r26 : Reg :=
  { id := 27, ops := [{ op := .mv (.con (.sc (.int .i64 (-1)))) }], sets := [(2, 0)], clr := [0, 1, 3] }
def slaws_heldLoggedS_r27 : Reg :=
  { id := 3, ops := [{ op := .mv (.slot 3) },
      { op := .bin .add (.loc 0) (.con (.sc (.int .i64 1))) },
      { op := .mv (.loc 1) }], sets := [(3, 2)] }
def slaws_heldLoggedS_r28 : Reg :=
  { id := 28, ops := [{ op := .mv (.slot 1) },
      { op := .mv (.loc 0) }], sets := [(2, 1)], clr := [0, 1, 3] }
def slaws_heldLoggedS_b : SC := .seq (.reg slaws_heldLoggedS_r0) (.seq (.seq (.reg slaws_heldLoggedS_r1) (.block 0 (.loop (.seq (.seq (.reg slaws_heldLoggedS_r2) (.cond 4 (.skip) (.exit 0))) (.seq (.block 1 (.seq (.seq (.reg slaws_heldLoggedS_r3) (.cond 5 (.seq (.reg slaws_heldLoggedS_r4) (.ret)) (.skip))) (.seq (.reg slaws_heldLoggedS_r5) (.seq (.seq (.reg slaws_heldLoggedS_r6) (.cond 6 (.seq (.reg slaws_heldLoggedS_r7) (.ret)) (.skip))) (.seq (.reg slaws_heldLoggedS_r8) (.seq (.seq (.reg slaws_heldLoggedS_r9) (.cond 7 (.seq (.reg slaws_heldLoggedS_r10) (.ret)) (.skip))) (.seq (.reg slaws_heldLoggedS_r11) (.seq (.seq (.reg slaws_heldLoggedS_r12) (.cond 8 (.seq (.reg slaws_heldLoggedS_r13) (.ret)) (.skip))) (.seq (.reg slaws_heldLoggedS_r14) (.seq (.seq (.reg slaws_heldLoggedS_r15) (.cond 9 (.seq (.reg slaws_heldLoggedS_r16) (.ret)) (.skip))) (.seq (.reg slaws_heldLoggedS_r17) (.seq (.reg slaws_heldLoggedS_r18) (.seq (.seq (.reg slaws_heldLoggedS_r19) (.cond 10 (.seq (.reg slaws_heldLoggedS_r20) (.ret)) (.skip))) (.seq (.seq (.reg slaws_heldLoggedS_r21) (.cond 11 (.seq (.reg slaws_heldLoggedS_r22) (.ret)) (.skip))) (.seq (.reg slaws_heldLoggedS_r23) (.seq (.reg slaws_heldLoggedS_r24) (.seq (.reg slaws_heldLoggedS_r25) (.cond 12 (.seq (.reg slaws_heldLoggedS_r26) (.ret)) (.skip))))))))))))))))))) (.reg slaws_heldLoggedS_r27)))))) (.seq (.reg slaws_heldLoggedS_r28) (.ret)))
def slaws_heldLoggedS : SFn := { nslots := 13, nobjs := 0, params := [0, 1], ngiven := 0, bor := false, takes := [], body := slaws_heldLoggedS_b, results := [.slot 2] }
def slaws_heldLoggedS_t : List Tmp := [0, 1, 4, 5, 9, 18, 27, 38, 51, 62, 75, 83, 95]
attribute [simp] slaws_heldLoggedS_r0 slaws_heldLoggedS_r1 slaws_heldLoggedS_r2 slaws_heldLoggedS_r3 slaws_heldLoggedS_r4 slaws_heldLoggedS_r5 slaws_heldLoggedS_r6 slaws_heldLoggedS_r7 slaws_heldLoggedS_r8 slaws_heldLoggedS_r9 slaws_heldLoggedS_r10 slaws_heldLoggedS_r11 slaws_heldLoggedS_r12 slaws_heldLoggedS_r13 slaws_heldLoggedS_r14 slaws_heldLoggedS_r15 slaws_heldLoggedS_r16 slaws_heldLoggedS_r17 slaws_heldLoggedS_r18 slaws_heldLoggedS_r19 slaws_heldLoggedS_r20 slaws_heldLoggedS_r21 slaws_heldLoggedS_r22 slaws_heldLoggedS_r23 slaws_heldLoggedS_r24 slaws_heldLoggedS_r25 slaws_heldLoggedS_r26 slaws_heldLoggedS_r27 slaws_heldLoggedS_r28 slaws_heldLoggedS_b slaws_heldLoggedS
def simpl_copyPath_r0 : Reg :=
  { id := 0, ops := [{ op := .mv (.con (.nil 4)) }], clr := [1] }
def simpl_copyPath_r1 : Reg :=
  { id := 1, ops := [{ op := .buildSlice 0 4 0 [] },
      { op := .mv (.loc 0) }], sets := [(2, 1)], ghosts := [.ren 0 8] }
def simpl_copyPath_r2 : Reg :=
  { id := 2, ops := [{ op := .mv (.slot 0) },
      { op := .len false (.loc 0) },
      { op := .mv (.con (.sc (.int .i64 0))) }], sets := [(4, 0), (5, 1), (6, 2)], clr := [0] }
def simpl_copyPath_r3 : Reg :=
  { id := 3, ops := [{ op := .bin .lss (.slot 6) (.slot 5) }], sets := [(7, 0)] }
def simpl_copyPath_r4 : Reg :=
  { id := 4, fresh := [1], ops := [{ op := .indexAddr 4 (.slot 4) (.slot 6) },
      { op := .load (some 4) (.loc 0) },
      { op := .alloc 1 [.sc (.int .i64 0), .nil 1, .nil 1, .sc (.bool false)] },
      { op := .store 4 (.loc 2) (.loc 1) }], sets := [(3, 2)] }
def simpl_copyPath_r5 : Reg :=
  { id := 5, draw := true, fresh := [2, 3, 4, 5, 6, 7], ops := [{ op := .mv (.slot 2), tau := some [], om := [] },
      { op := .fieldAddr (.slot 3) 0, tau := some [], om := [] },
      { op := .load none (.loc 1), tau := some [1], om := [] },
      { op := .buildSlice 2 1 0 [], tau := some [2], om := [2] },
      { op := .fieldAddr (.slot 3) 1, tau := some [], om := [] },
      { op := .load none (.loc 4), tau := some [1], om := [] },
      { op := .append 3 1 8 false (.loc 3) (.loc 5), tau := some [2, 3], om := [2, 3] },
      { op := .buildSlice 4 1 0 [], tau := some [4], om := [4] },
      { op := .fieldAddr (.slot 3) 2, tau := some [], om := [] },
      { op := .load none (.loc 8), tau := some [1], om := [] },
      { op := .append 5 1 8 false (.loc 7) (.loc 9), tau := some [4, 5], om := [4, 5] },
      { op := .fieldAddr (.slot 3) 3, tau := some [], om := [] },
      { op := .load none (.loc 11), tau := some [1], om := [] },
      { op := .build [.sc (.int .i64 0), .nil 1, .nil 1, .sc (.bool false)] [(0, 1, .loc 2), (1, 1, .loc 6), (2, 1, .loc 10), (3, 1, .loc 12)], tau := some [], om := [] },
      { op := .buildSlice 6 4 1 [.loc 13], tau := some [3, 5, 6], om := [3, 5, 6] },
      { op := .append 7 4 64 true (.loc 0) (.loc 14), tau := some [6, 7, 8], om := [6, 7, 8] },
      { op := .mv (.loc 15), tau := some [], om := [] }], sets := [(2, 16)], ghosts := [.ren 7 8], clr := [3] }
def simpl_copyPath_r6 : Reg :=
  { id := 6, ops := [{ op := .bin .add (.slot 6) (.con (.sc (.int .i64 1))) },
      { op := .mv (.loc 0) }], sets := [(6, 1)] }
def simpl_copyPath_r7 : Reg :=
  { id := 7, ops := [{ op := .mv (.slot 2) },
      { op := .mv (.loc 0) }], sets := [(1, 1)], clr := [2, 4, 5, 6] }
def simpl_copyPath_b : SC := .seq (.reg simpl_copyPath_r0) (.seq (.reg simpl_copyPath_r1) (.seq (.seq (.reg simpl_copyPath_r2) (.block 0 (.loop (.seq (.reg simpl_copyPath_r3) (.seq (.cond 7 (.skip) (.exit 0)) (.seq (.block 1 (.seq (.reg simpl_copyPath_r4) (.reg simpl_copyPath_r5))) (.reg simpl_copyPath_r6))))))) (.seq (.reg simpl_copyPath_r7) (.ret))))
def simpl_copyPath : SFn := { nslots := 8, nobjs := 9, params := [0], ngiven := 0, bor := false, takes := [], body := simpl_copyPath_b, results := [.slot 1] }
def simpl_copyPath_t : List Tmp := [0, 2, 3, 5, 7, 8, 9, 10]
attribute [simp] simpl_copyPath_r0 simpl_copyPath_r1 simpl_copyPath_r2 simpl_copyPath_r3 simpl_copyPath_r4 simpl_copyPath_r5 simpl_copyPath_r6 simpl_copyPath_r7 simpl_copyPath_b simpl_copyPath
def sspec_l32End_r0 : Reg :=
  { id := 0, ops := [{ op := .box 0 (.slot 0) },
      { op := .alloc 1 [.nil 1, .nil 1, .nil 4, .sc (.int .i64 0)] }], sets := [(1, 0), (2, 1)], clr := [0] }
def sspec_l32End_r1 : Reg :=
  { id := 1, draw := true, ops := [{ op := .buildSlice 2 1 0 [], tau := some [2], om := [2] },
      { op := .fieldAddr (.slot 1) 0, tau := some [], om := [] },
      { op := .load none (.loc 1), tau := some [0], om := [] },
      { op := .append 3 1 8 false (.loc 0) (.loc 2), tau := some [2, 3], om := [2, 3] },
      { op := .buildSlice 4 1 0 [], tau := some [4], om := [4] },
      { op := .fieldAddr (.slot 1) 1, tau := some [], om := [] },
      { op := .load none (.loc 5), tau := some [0], om := [] },
      { op := .append 5 1 8 false (.loc 4) (.loc 6), tau := some [4, 5], om := [4, 5] },
      { op := .fieldAddr (.slot 1) 3, tau := some [], om := [] },
      { op := .load none (.loc 8), tau := some [0], om := [] },
      { op := .build [.nil 1, .nil 1, .nil 4, .sc (.int .i64 0)] [(0, 1, .loc 3), (1, 1, .loc 7), (3, 1, .loc 9)], tau := some [], om := [] },
      { op := .alloc 6 [.nil 1, .nil 1, .nil 4, .sc (.int .i64 0)], tau := some [6], om := [6] },
      { op := .store 4 (.loc 11) (.loc 10), tau := some [6], om := [6] }], sets := [(3, 11)], ghosts := [.ownc 6 2 14] }
def sspec_l32End_r2 : Reg :=
  { id := 2, ops := [{ op := .mv (.con (.sc (.int .i64 0))) }], sets := [(4, 0)] }
def sspec_l32End_r3 : Reg :=
  { id := 3, ops := [{ op := .mv (.slot 4) },
      { op := .fieldAddr (.slot 1) 2 },
      { op := .load none (.loc 1) },
      { op := .len false (.loc 2) },
      { op := .bin .lss (.loc 0) (.loc 3) }], sets := [(6, 4)] }
def sspec_l32End_r4 : Reg :=
  { id := 5, fresh := [7], ops := [{ op := .fieldAddr (.slot 1) 2 },
      { op := .load none (.loc 0) },
      { op := .mv (.slot 4) },
      { op := .indexAddr 4 (.loc 1) (.loc 2) },
      { op := .load (some 4) (.loc 3) },
      { op := .alloc 7 [.sc (.int .i64 0), .nil 1, .nil 1, .sc (.bool false)] },
      { op := .store 4 (.loc 5) (.loc 4) }], sets := [(5, 5)] }
def sspec_l32End_r5 : Reg :=
  { id := 6, draw := true, fresh := [8, 9, 10, 11, 12, 13], ops := [{ op := .fieldAddr (.slot 3) 2, tau := some [], om := [] },
      { op := .load none (.loc 0), tau := some [6], om := [] },
      { op := .fieldAddr (.slot 5) 0, tau := some [], om := [] },
      { op := .load none (.loc 2), tau := some [7], om := [] },
      { op := .buildSlice 8 1 0 [], tau := some [8], om := [8] },
      { op := .fieldAddr (.slot 5) 1, tau := some [], om := [] },
      { op := .load none (.loc 5), tau := some [7], om := [] },
      { op := .append 9 1 8 false (.loc 4) (.loc 6), tau := some [8, 9], om := [8, 9] },
      { op := .buildSlice 10 1 0 [], tau := some [10], om := [10] },
      { op := .fieldAddr (.slot 5) 2, tau := some [], om := [] },
      { op := .load none (.loc 9), tau := some [7], om := [] },
      { op := .append 11 1 8 false (.loc 8) (.loc 10), tau := some [10, 11], om := [10, 11] },
      { op := .fieldAddr (.slot 5) 3, tau := some [], om := [] },
      { op := .load none (.loc 12), tau := some [7], om := [] },
      { op := .build [.sc (.int .i64 0), .nil 1, .nil 1, .sc (.bool false)] [(0, 1, .loc 3), (1, 1, .loc 7), (2, 1, .loc 11), (3, 1, .loc 13)], tau := some [], om := [] },
      { op := .buildSlice 12 4 1 [.loc 14], tau := some [9, 11, 12], om := [9, 11, 12] },
      { op := .append 13 4 64 true (.loc 1) (.loc 15), tau := some [12, 13, 14], om := [12, 13, 14] },
      { op := .fieldAddr (.slot 3) 2, tau := some [], om := [] },
      { op := .store 1 (.loc 17) (.loc 16), tau := some [6], om := [6] }], ghosts := [.ren 13 14], clr := [5] }
def sspec_l32End_r6 : Reg :=
  { id := 4, ops := [{ op := .mv (.slot 4) },
      { op := .bin .add (.loc 0) (.con (.sc (.int .i64 1))) },
      { op := .mv (.loc 1) }], sets := [(4, 2)] }
def sspec_l32End_r7 : Reg :=
  { id := 7, ops := [{ op := .load (some 4) (.slot 3) },
      { op := .store 4 (.slot 2) (.loc 0) }], clr := [1, 3, 4] }
def sspec_l32End_b : SC := .seq (.reg sspec_l32End_r0) (.seq (.reg sspec_l32End_r1) (.seq (.seq (.reg sspec_l32End_r2) (.block 0 (.loop (.seq (.seq (.reg sspec_l32End_r3) (.cond 6 (.skip) (.exit 0))) (.seq (.block 1 (.seq (.reg sspec_l32End_r4) (.reg sspec_l32End_r5))) (.reg sspec_l32End_r6)))))) (.seq (.reg sspec_l32End_r7) (.ret))))
def sspec_l32End : SFn := { nslots := 7, nobjs := 15, params := [0], ngiven := 0, bor := false, takes := [], body := sspec_l32End_b, results := [.cell 2 (some 4)] }
def sspec_l32End_t : List Tmp := [0, 1, 2, 3, 4, 5, 21]
attribute [simp] sspec_l32End_r0 sspec_l32End_r1 sspec_l32End_r2 sspec_l32End_r3 sspec_l32End_r4 sspec_l32End_r5 sspec_l32End_r6 sspec_l32End_r7 sspec_l32End_b sspec_l32End
def sspec_l26Copy_r0 : Reg :=
  { id := 0, ops := [{ op := .box 0 (.slot 0) },
      { op := .alloc 1 [.sc (.int .i64 0), .nil 1, .sc (.int .i64 0), .sc (.bool false)] }], sets := [(1, 0), (2, 1)], clr := [0] }
def sspec_l26Copy_r1 : Reg :=
  { id := 1, ops := [{ op := .buildSlice 2 1 0 [] },
      { op := .fieldAddr (.slot 1) 1 },
      { op := .load none (.loc 1) },
      { op := .append 3 1 8 false (.loc 0) (.loc 2) },
      { op := .fieldAddr (.slot 1) 1 },
      { op := .store 1 (.loc 4) (.loc 3) }] }
def sspec_l26Copy_r2 : Reg :=
  { id := 2, ops := [{ op := .load (some 4) (.slot 1) },
      { op := .store 4 (.slot 2) (.loc 0) }], clr := [1] }
def sspec_l26Copy_b : SC := .seq (.reg sspec_l26Copy_r0) (.seq (.reg sspec_l26Copy_r1) (.seq (.reg sspec_l26Copy_r2) (.ret)))
def sspec_l26Copy : SFn := { nslots := 3, nobjs := 4, params := [0], ngiven := 0, bor := false, takes := [], body := sspec_l26Copy_b, results := [.cell 2 (some 4)] }
def sspec_l26Copy_t : List Tmp := [0, 1, 2]
attribute [simp] sspec_l26Copy_r0 sspec_l26Copy_r1 sspec_l26Copy_r2 sspec_l26Copy_b sspec_l26Copy
def sspec_l32Dialed_r0 : Reg :=
  { id := 0, ops := [{ op := .box 0 (.slot 0) },
      { op := .alloc 1 [.sc (.bool false), .sc (.int .i64 0), .nil 1, .sc (.int .i64 0), .nil 1] }], sets := [(1, 0), (2, 1)], clr := [0] }
def sspec_l32Dialed_r1 : Reg :=
  { id := 1, ops := [{ op := .buildSlice 2 1 0 [] },
      { op := .fieldAddr (.slot 1) 0 },
      { op := .fieldAddr (.loc 1) 2 },
      { op := .load none (.loc 2) },
      { op := .append 3 1 8 false (.loc 0) (.loc 3) },
      { op := .fieldAddr (.slot 1) 0 },
      { op := .fieldAddr (.loc 5) 2 },
      { op := .store 1 (.loc 6) (.loc 4) }] }
def sspec_l32Dialed_r2 : Reg :=
  { id := 2, ops := [{ op := .buildSlice 4 1 0 [] },
      { op := .fieldAddr (.slot 1) 4 },
      { op := .load none (.loc 1) },
      { op := .append 5 1 8 false (.loc 0) (.loc 2) },
      { op := .fieldAddr (.slot 1) 4 },
      { op := .store 1 (.loc 4) (.loc 3) }] }
def sspec_l32Dialed_r3 : Reg :=
  { id := 3, ops := [{ op := .load (some 5) (.slot 1) },
      { op := .store 5 (.slot 2) (.loc 0) }], clr := [1] }
def sspec_l32Dialed_b : SC := .seq (.reg sspec_l32Dialed_r0) (.seq (.reg sspec_l32Dialed_r1) (.seq (.reg sspec_l32Dialed_r2) (.seq (.reg sspec_l32Dialed_r3) (.ret))))
def sspec_l32Dialed : SFn := { nslots := 3, nobjs := 6, params := [0], ngiven := 0, bor := false, takes := [], body := sspec_l32Dialed_b, results := [.cell 2 (some 5)] }
def sspec_l32Dialed_t : List Tmp := [0, 1, 2]
attribute [simp] sspec_l32Dialed_r0 sspec_l32Dialed_r1 sspec_l32Dialed_r2 sspec_l32Dialed_r3 sspec_l32Dialed_b sspec_l32Dialed
def simpl_copyRollout_r0 : Reg :=
  { id := 0, ops := [{ op := .box 0 (.slot 0) },
      { op := .alloc 1 [.sc (.int .i64 0), .nil 1, .sc (.int .i64 0), .sc (.bool false)] }], sets := [(1, 0), (2, 1)], clr := [0] }
def simpl_copyRollout_r1 : Reg :=
  { id := 1, ops := [{ op := .buildSlice 2 1 0 [] },
      { op := .fieldAddr (.slot 1) 1 },
      { op := .load none (.loc 1) },
      { op := .append 3 1 8 false (.loc 0) (.loc 2) },
      { op := .fieldAddr (.slot 1) 1 },
      { op := .store 1 (.loc 4) (.loc 3) }] }
def simpl_copyRollout_r2 : Reg :=
  { id := 2, ops := [{ op := .load (some 4) (.slot 1) },
      { op := .store 4 (.slot 2) (.loc 0) }], clr := [1] }
def simpl_copyRollout_b : SC := .seq (.reg simpl_copyRollout_r0) (.seq (.reg simpl_copyRollout_r1) (.seq (.reg simpl_copyRollout_r2) (.ret)))
def simpl_copyRollout : SFn := { nslots := 3, nobjs := 4, params := [0], ngiven := 0, bor := false, takes := [], body := simpl_copyRollout_b, results := [.cell 2 (some 4)] }
def simpl_copyRollout_t : List Tmp := [0, 1, 2]
attribute [simp] simpl_copyRollout_r0 simpl_copyRollout_r1 simpl_copyRollout_r2 simpl_copyRollout_b simpl_copyRollout
def simpl_copyEndpoint_r0 : Reg :=
  { id := 0, ops := [{ op := .box 0 (.slot 0) },
      { op := .alloc 1 [.nil 1, .nil 1, .nil 4, .sc (.int .i64 0)] }], sets := [(1, 0), (2, 1)], clr := [0] }
def simpl_copyEndpoint_r1 : Reg :=
  { id := 1, draw := true, ops := [{ op := .buildSlice 2 1 0 [], tau := some [2], om := [2] },
      { op := .fieldAddr (.slot 1) 0, tau := some [], om := [] },
      { op := .load none (.loc 1), tau := some [0], om := [] },
      { op := .append 3 1 8 false (.loc 0) (.loc 2), tau := some [2, 3], om := [2, 3] },
      { op := .buildSlice 4 1 0 [], tau := some [4], om := [4] },
      { op := .fieldAddr (.slot 1) 1, tau := some [], om := [] },
      { op := .load none (.loc 5), tau := some [0], om := [] },
      { op := .append 5 1 8 false (.loc 4) (.loc 6), tau := some [4, 5], om := [4, 5] },
      { op := .fieldAddr (.slot 1) 2, tau := some [], om := [] },
      { op := .load none (.loc 8), tau := some [0], om := [] },
      { op := .call 172 [(false, .loc 9)] [6], tau := some [6], om := [6] },
      { op := .fieldAddr (.slot 1) 3, tau := some [], om := [] },
      { op := .load none (.loc 11), tau := some [0], om := [] },
      { op := .build [.nil 1, .nil 1, .nil 4, .sc (.int .i64 0)] [(0, 1, .loc 3), (1, 1, .loc 7), (2, 1, .loc 10), (3, 1, .loc 12)], tau := some [], om := [] },
      { op := .store 4 (.slot 2) (.loc 13), tau := some [1], om := [1] }], clr := [1] }
def simpl_copyEndpoint_b : SC := .seq (.reg simpl_copyEndpoint_r0) (.seq (.reg simpl_copyEndpoint_r1) (.ret))
def simpl_copyEndpoint : SFn := { nslots := 3, nobjs := 7, params := [0], ngiven := 0, bor := false, takes := [], body := simpl_copyEndpoint_b, results := [.cell 2 (some 4)] }
def simpl_copyEndpoint_t : List Tmp := [0, 1, 2]
attribute [simp] simpl_copyEndpoint_r0 simpl_copyEndpoint_r1 simpl_copyEndpoint_b simpl_copyEndpoint
def simpl_copyDialed_r0 : Reg :=
  { id := 0, ops := [{ op := .box 0 (.slot 0) },
      { op := .alloc 1 [.sc (.bool false), .sc (.int .i64 0), .nil 1, .sc (.int .i64 0), .nil 1] }], sets := [(1, 0), (2, 1)], clr := [0] }
def simpl_copyDialed_r1 : Reg :=
  { id := 1, draw := true, ops := [{ op := .buildSlice 2 1 0 [], tau := some [2], om := [2] },
      { op := .fieldAddr (.slot 1) 0, tau := some [], om := [] },
      { op := .fieldAddr (.loc 1) 2, tau := some [], om := [] },
      { op := .load none (.loc 2), tau := some [0], om := [] },
      { op := .append 3 1 8 false (.loc 0) (.loc 3), tau := some [2, 3], om := [2, 3] },
      { op := .buildSlice 4 1 0 [], tau := some [4], om := [4] },
      { op := .fieldAddr (.slot 1) 4, tau := some [], om := [] },
      { op := .load none (.loc 6), tau := some [0], om := [] },
      { op := .append 5 1 8 false (.loc 5) (.loc 7), tau := some [4, 5], om := [4, 5] },
      { op := .fieldAddr (.slot 1) 0, tau := some [], om := [] },
      { op := .fieldAddr (.loc 9) 2, tau := some [], om := [] },
      { op := .store 1 (.loc 10) (.loc 4), tau := some [0], om := [0] },
      { op := .fieldAddr (.slot 1) 4, tau := some [], om := [] },
      { op := .store 1 (.loc 12) (.loc 8), tau := some [0], om := [0] }] }
def simpl_copyDialed_r2 : Reg :=
  { id := 2, ops := [{ op := .load (some 5) (.slot 1) },
      { op := .store 5 (.slot 2) (.loc 0) }], clr := [1] }
def simpl_copyDialed_b : SC := .seq (.reg simpl_copyDialed_r0) (.seq (.reg simpl_copyDialed_r1) (.seq (.reg simpl_copyDialed_r2) (.ret)))
def simpl_copyDialed : SFn := { nslots := 3, nobjs := 6, params := [0], ngiven := 0, bor := false, takes := [], body := simpl_copyDialed_b, results := [.cell 2 (some 5)] }
def simpl_copyDialed_t : List Tmp := [0, 1, 2]
attribute [simp] simpl_copyDialed_r0 simpl_copyDialed_r1 simpl_copyDialed_r2 simpl_copyDialed_b simpl_copyDialed
end Go.Eng.T

namespace Go.Eng.T
abbrev glaws_FnExactRunConsole : Nat := 0
abbrev gspec_RunConsole : Nat := 1
abbrev gimpl_RunConsole : Nat := 2
abbrev glaws_eqStringS : Nat := 3
abbrev glaws_markStringS : Nat := 4
abbrev glaws_heldStringS : Nat := 5
abbrev glaws_FnExactConsoleLine : Nat := 6
abbrev glaws_szWorld : Nat := 7
abbrev glaws_toWorld : Nat := 8
abbrev gspec_ConsoleLine : Nat := 9
abbrev gimpl_ConsoleLine : Nat := 10
abbrev glaws_eqWorld : Nat := 11
abbrev glaws_markWorld : Nat := 12
abbrev glaws_heldWorld : Nat := 13
abbrev gstrings_Split : Nat := 14
abbrev glaws_markText : Nat := 15
abbrev glaws_szIntS : Nat := 16
abbrev glaws_szEndpointS : Nat := 17
abbrev glaws_szRollout : Nat := 18
abbrev glaws_szDialedS : Nat := 19
abbrev glaws_szLoggedS : Nat := 20
abbrev gspec_l40Words : Nat := 21
abbrev gspec_l32Copy : Nat := 22
abbrev gspec_l40Nums : Nat := 23
abbrev gspec_l40World : Nat := 24
abbrev gspec_TryAll : Nat := 25
abbrev gspec_l40Event : Nat := 26
abbrev gspec_ApplyEvent : Nat := 27
abbrev gspec_l40Said : Nat := 28
abbrev gspec_l40None : Nat := 29
abbrev gspec_l40One : Nat := 30
abbrev glaws_toIntS : Nat := 31
abbrev glaws_toEndpointS : Nat := 32
abbrev glaws_toRollout : Nat := 33
abbrev glaws_toDialedS : Nat := 34
abbrev glaws_toLoggedS : Nat := 35
abbrev gimpl_ConsoleLine_1 : Nat := 36
abbrev gslices_DeleteFunc___string_string_ : Nat := 37
abbrev gimpl_copyWorld : Nat := 38
abbrev gimpl_numbersOf : Nat := 39
abbrev gimpl_eventOf : Nat := 40
abbrev gimpl_ApplyEvent : Nat := 41
abbrev gimpl_told : Nat := 42
abbrev gimpl_newWorldOf : Nat := 43
abbrev gimpl_TryAll : Nat := 44
abbrev gimpl_askNumber : Nat := 45
abbrev gimpl_ask : Nat := 46
abbrev glaws_eqIntS : Nat := 47
abbrev glaws_eqEndpointS : Nat := 48
abbrev glaws_eqRollout : Nat := 49
abbrev glaws_eqDialedS : Nat := 50
abbrev glaws_eqLoggedS : Nat := 51
abbrev glaws_markIntS : Nat := 52
abbrev glaws_markEndpointS : Nat := 53
abbrev glaws_markRollout : Nat := 54
abbrev glaws_markDialedS : Nat := 55
abbrev glaws_markLoggedS : Nat := 56
abbrev glaws_heldIntS : Nat := 57
abbrev glaws_heldEndpointS : Nat := 58
abbrev glaws_heldRollout : Nat := 59
abbrev glaws_heldDialedS : Nat := 60
abbrev glaws_heldLoggedS : Nat := 61
abbrev glaws_szEndpoint : Nat := 62
abbrev glaws_szDialed : Nat := 63
abbrev glaws_szLogged : Nat := 64
abbrev gspec_l32End : Nat := 65
abbrev gspec_l26Copy : Nat := 66
abbrev gspec_l32Dialed : Nat := 67
abbrev gspec_ParseInt : Nat := 68
abbrev gspec_ExampleEnds : Nat := 69
abbrev gspec_NewWorld : Nat := 70
abbrev gspec_l1In : Nat := 71
abbrev gspec_StepDial : Nat := 72
abbrev gspec_EventName : Nat := 73
abbrev gspec_StepStart : Nat := 74
abbrev gspec_StepStage : Nat := 75
abbrev gspec_StepRetire : Nat := 76
abbrev gspec_StepRevive : Nat := 77
abbrev gspec_StepBox : Nat := 78
abbrev gspec_StepClear : Nat := 79
abbrev gspec_StepTick : Nat := 80
abbrev gspec_FormatDialed : Nat := 81
abbrev gspec_SignalNow : Nat := 82
abbrev gspec_SignalName : Nat := 83
abbrev gspec_HardEnds : Nat := 84
abbrev gspec_FormatList : Nat := 85
abbrev gspec_VersionCounts : Nat := 86
abbrev gspec_HurtEnds : Nat := 87
abbrev gspec_FormatWorld : Nat := 88
abbrev gspec_FaultOf : Nat := 89
abbrev gspec_l40Or : Nat := 90
abbrev gspec_FormatEnd : Nat := 91
abbrev gspec_BestNow : Nat := 92
abbrev gspec_FormatInt : Nat := 93
abbrev gspec_HasVersion : Nat := 94
abbrev gspec_ListsOf : Nat := 95
abbrev gspec_Stranded : Nat := 96
abbrev gspec_ReportNow : Nat := 97
abbrev glaws_toEndpoint : Nat := 98
abbrev glaws_toDialed : Nat := 99
abbrev glaws_toLogged : Nat := 100
abbrev gimpl_copyRollout : Nat := 101
abbrev gimpl_copyEndpoint : Nat := 102
abbrev gimpl_copyDialed : Nat := 103
abbrev gimpl_ParseInt : Nat := 104
abbrev gslices_Index___string_string_ : Nat := 105
abbrev gimpl_StepDial : Nat := 106
abbrev gimpl_StepStart : Nat := 107
abbrev gimpl_StepStage : Nat := 108
abbrev gimpl_StepRetire : Nat := 109
abbrev gimpl_StepRevive : Nat := 110
abbrev gimpl_StepBox : Nat := 111
abbrev gimpl_StepClear : Nat := 112
abbrev gimpl_StepTick : Nat := 113
abbrev gimpl_InRange : Nat := 114
abbrev gimpl_ExampleEnds : Nat := 115
abbrev gimpl_NewWorld : Nat := 116
abbrev gimpl_hasEnd : Nat := 117
abbrev gimpl_FormatEnd : Nat := 118
abbrev gimpl_BestNow : Nat := 119
abbrev gimpl_FormatInt : Nat := 120
abbrev gimpl_HasVersion : Nat := 121
abbrev gimpl_FormatList : Nat := 122
abbrev gimpl_ListsOf : Nat := 123
abbrev gimpl_Stranded : Nat := 124
abbrev gimpl_ReportNow : Nat := 125
abbrev gimpl_FormatDialed : Nat := 126
abbrev gimpl_SignalNow : Nat := 127
abbrev gimpl_SignalName : Nat := 128
abbrev gimpl_HardEnds : Nat := 129
abbrev gimpl_VersionCounts : Nat := 130
abbrev gimpl_HurtEnds : Nat := 131
abbrev gimpl_FormatWorld : Nat := 132
abbrev gimpl_FaultOf : Nat := 133
abbrev glaws_eqEndpoint : Nat := 134
abbrev glaws_eqDialed : Nat := 135
abbrev glaws_eqLogged : Nat := 136
abbrev glaws_markBoxS : Nat := 137
abbrev glaws_heldBoxS : Nat := 138
abbrev glaws_szBoxS : Nat := 139
abbrev glaws_szDeal : Nat := 140
abbrev gspec_IsWorld : Nat := 141
abbrev gspec_DialOf : Nat := 142
abbrev gspec_IsOnNew : Nat := 143
abbrev gspec_IsBadDial : Nat := 144
abbrev gspec_IsRollout : Nat := 145
abbrev gspec_EnterStage : Nat := 146
abbrev gspec_NextStage : Nat := 147
abbrev gspec_BackStage : Nat := 148
abbrev gspec_LeaveRollout : Nat := 149
abbrev gspec_RetireVersion : Nat := 150
abbrev gspec_AddVersion : Nat := 151
abbrev gspec_IsBox : Nat := 152
abbrev gspec_FormatDeal : Nat := 153
abbrev gspec_l39Join : Nat := 154
abbrev gspec_MaskedBy : Nat := 155
abbrev gspec_SignalOf : Nat := 156
abbrev gspec_HardenedBoxes : Nat := 157
abbrev gspec_l37Bad : Nat := 158
abbrev gspec_l4Put : Nat := 159
abbrev gspec_FormatRollout : Nat := 160
abbrev gspec_IsBounded : Nat := 161
abbrev gspec_IsTogether : Nat := 162
abbrev gspec_IsCounted : Nat := 163
abbrev gspec_IsSober : Nat := 164
abbrev gspec_BestFor : Nat := 165
abbrev gspec_l9Has : Nat := 166
abbrev gspec_l12Without : Nat := 167
abbrev gspec_BestCommon : Nat := 168
abbrev gspec_HideSmall : Nat := 169
abbrev glaws_toBoxS : Nat := 170
abbrev glaws_toDeal : Nat := 171
abbrev gimpl_copyPath : Nat := 172
abbrev gimpl_DialOf : Nat := 173
abbrev gimpl_IsOnNew : Nat := 174
abbrev gimpl_IsBadDial : Nat := 175
abbrev gimpl_IsRollout : Nat := 176
abbrev gimpl_EnterStage : Nat := 177
abbrev gimpl_NextStage : Nat := 178
abbrev gimpl_BackStage : Nat := 179
abbrev gimpl_LeaveRollout : Nat := 180
abbrev gimpl_RetireVersion : Nat := 181
abbrev gimpl_AddVersion : Nat := 182
abbrev gimpl_IsBox : Nat := 183
abbrev gimpl_IsWorld : Nat := 184
abbrev gstrconv_Itoa : Nat := 185
abbrev gimpl_BestFor : Nat := 186
abbrev gimpl_joined : Nat := 187
abbrev gslices_Contains___int_int_ : Nat := 188
abbrev gimpl_without : Nat := 189
abbrev gimpl_BestCommon : Nat := 190
abbrev gimpl_HideSmall : Nat := 191
abbrev gimpl_FormatDeal : Nat := 192
abbrev gimpl_MaskedBy : Nat := 193
abbrev gimpl_SignalOf : Nat := 194
abbrev gimpl_HardenedBoxes : Nat := 195
abbrev gimpl_isHurt : Nat := 196
abbrev gslices_Sort___int_int_ : Nat := 197
abbrev gslices_Compact___int_int_ : Nat := 198
abbrev gimpl_FormatRollout : Nat := 199
abbrev gimpl_IsBounded : Nat := 200
abbrev gimpl_IsTogether : Nat := 201
abbrev gimpl_IsCounted : Nat := 202
abbrev gimpl_IsSober : Nat := 203
abbrev glaws_eqBoxS : Nat := 204
abbrev glaws_eqDeal : Nat := 205
abbrev glaws_szBox : Nat := 206
abbrev gspec_IsEndpoint : Nat := 207
abbrev gspec_AreVersions : Nat := 208
abbrev gspec_l32Tags : Nat := 209
abbrev gspec_IsValidKey : Nat := 210
abbrev gspec_AllReach : Nat := 211
abbrev gspec_l33Clip : Nat := 212
abbrev gspec_EndDial : Nat := 213
abbrev gspec_IsIn : Nat := 214
abbrev gspec_Max : Nat := 215
abbrev gspec_MayRetire : Nat := 216
abbrev gspec_l9Byte : Nat := 217
abbrev gspec_RefusesGrease : Nat := 218
abbrev gspec_MostHurt : Nat := 219
abbrev gspec_IsClearPath : Nat := 220
abbrev gspec_IsHardened : Nat := 221
abbrev gspec_LostVersions : Nat := 222
abbrev gspec_l21Left : Nat := 223
abbrev gspec_CommonOf : Nat := 224
abbrev gspec_AreCounts : Nat := 225
abbrev glaws_toBox : Nat := 226
abbrev gimpl_EndDial : Nat := 227
abbrev gimpl_IsIn : Nat := 228
abbrev gimpl_isBad : Nat := 229
abbrev gimpl_withVersion : Nat := 230
abbrev gimpl_MayRetire : Nat := 231
abbrev gimpl_AreVersions : Nat := 232
abbrev gimpl_areNumbers : Nat := 233
abbrev gimpl_AllReach : Nat := 234
abbrev gimpl_areTags : Nat := 235
abbrev gimpl_IsValidKey : Nat := 236
abbrev gimpl_IsWorld_1 : Nat := 237
abbrev gslices_ContainsFunc___impl_Endpoint_impl_Endpoint_ : Nat := 238
abbrev gimpl_IsEndpoint : Nat := 239
abbrev gimpl_LostVersions : Nat := 240
abbrev gstrings_Join : Nat := 241
abbrev gimpl_CommonOf : Nat := 242
abbrev gimpl_canHide : Nat := 243
abbrev gimpl_RefusesGrease : Nat := 244
abbrev gimpl_MostHurt : Nat := 245
abbrev gimpl_IsClearPath : Nat := 246
abbrev gimpl_IsSober_1 : Nat := 247
abbrev gslices_ContainsFunc___impl_Logged_impl_Logged_ : Nat := 248
abbrev glaws_eqBox : Nat := 249
abbrev gspec_IsReserved : Nat := 250
abbrev gspec_HelloOf : Nat := 251
abbrev gspec_Dial : Nat := 252
abbrev gspec_Min : Nat := 253
abbrev gspec_CountIn : Nat := 254
abbrev gspec_UseOf : Nat := 255
abbrev gspec_PlainHello : Nat := 256
abbrev gspec_l29One : Nat := 257
abbrev gspec_PassBox : Nat := 258
abbrev gspec_IsClear : Nat := 259
abbrev gspec_IsOpenPath : Nat := 260
abbrev gimpl_HelloOf : Nat := 261
abbrev gimpl_Dial : Nat := 262
abbrev gimpl_CountIn : Nat := 263
abbrev gslices_Insert___int_int_ : Nat := 264
abbrev gimpl_UseOf : Nat := 265
abbrev gimpl_areNumbers_1 : Nat := 266
abbrev gslices_ContainsFunc___int_int_ : Nat := 267
abbrev gimpl_AllReach_1 : Nat := 268
abbrev gslices_ContainsFunc_____int___int_ : Nat := 269
abbrev gimpl_IsHardened : Nat := 270
abbrev gimpl_IsEndpoint_1 : Nat := 271
abbrev gslices_ContainsFunc___impl_Box_impl_Box_ : Nat := 272
abbrev gimpl_PlainHello : Nat := 273
abbrev gimpl_PassPath : Nat := 274
abbrev gimpl_AreCounts : Nat := 275
abbrev gimpl_reservedTags : Nat := 276
abbrev gimpl_RefusesGrease_1 : Nat := 277
abbrev gimpl_IsClearPath_1 : Nat := 278
abbrev gimpl_IsReserved : Nat := 279
abbrev gspec_HelloFor : Nat := 280
abbrev gspec_DialOnce : Nat := 281
abbrev gspec_GivenUp : Nat := 282
abbrev gspec_AddGrease : Nat := 283
abbrev gspec_CeilDiv : Nat := 284
abbrev gspec_IsHello : Nat := 285
abbrev gspec_PassPath : Nat := 286
abbrev gimpl_HelloFor : Nat := 287
abbrev gimpl_DialOnce : Nat := 288
abbrev gimpl_GivenUp : Nat := 289
abbrev gimpl_AddGrease : Nat := 290
abbrev gimpl_CeilDiv : Nat := 291
abbrev gimpl_IsHello : Nat := 292
abbrev gimpl_copyHello : Nat := 293
abbrev gimpl_PassBox : Nat := 294
abbrev gimpl_loses : Nat := 295
abbrev gslices_Clone___int_int_ : Nat := 296
abbrev gimpl_PassBox_1 : Nat := 297
abbrev gimpl_keptExts : Nat := 298
abbrev gimpl_IsClear : Nat := 299
abbrev gspec_PassesWhole : Nat := 300
abbrev gspec_l18Hello : Nat := 301
abbrev gspec_FallbackHello : Nat := 302
abbrev gspec_ChooseAnswer : Nat := 303
abbrev gspec_FitsHello : Nat := 304
abbrev gspec_HelloBytes : Nat := 305
abbrev gspec_AnswerBytes : Nat := 306
abbrev gspec_FinishOf : Nat := 307
abbrev gspec_TagsOf : Nat := 308
abbrev gspec_ExtOf : Nat := 309
abbrev gspec_GreaseTag : Nat := 310
abbrev gspec_l11Copy : Nat := 311
abbrev gspec_AreExts : Nat := 312
abbrev gspec_PickOf : Nat := 313
abbrev gimpl_PassesWhole : Nat := 314
abbrev gimpl_FallbackHello : Nat := 315
abbrev gimpl_dealt : Nat := 316
abbrev gimpl_TagsOf : Nat := 317
abbrev gimpl_copyExts : Nat := 318
abbrev gimpl_GreaseTag : Nat := 319
abbrev gimpl_AreExts : Nat := 320
abbrev gimpl_ExtOf : Nat := 321
abbrev gimpl_PickOf : Nat := 322
abbrev gslices_Repeat___int_int_ : Nat := 323
abbrev gslices_Insert___impl_Ext_impl_Ext_ : Nat := 324
abbrev gslices_Max___int_int_ : Nat := 325
abbrev gimpl_loses_1 : Nat := 326
abbrev gslices_ContainsFunc___impl_Ext_impl_Ext_ : Nat := 327
abbrev gspec_EqualHellos : Nat := 328
abbrev gspec_LostTags : Nat := 329
abbrev gspec_PartHello : Nat := 330
abbrev gspec_KnownOf : Nat := 331
abbrev gspec_StripGrease : Nat := 332
abbrev gspec_IsAnswer : Nat := 333
abbrev gspec_IsTranscript : Nat := 334
abbrev gspec_TranscriptHash : Nat := 335
abbrev gspec_KeyedHash : Nat := 336
abbrev gspec_EncodeExts : Nat := 337
abbrev gspec_Hash : Nat := 338
abbrev gspec_Mod : Nat := 339
abbrev gimpl_EqualHellos : Nat := 340
abbrev gimpl_LostTags : Nat := 341
abbrev gimpl_PartHello : Nat := 342
abbrev gimpl_ChooseAnswer : Nat := 343
abbrev gimpl_EditAnswer : Nat := 344
abbrev gimpl_HelloBytes : Nat := 345
abbrev gimpl_AnswerBytes : Nat := 346
abbrev gimpl_FinishOf : Nat := 347
abbrev gimpl_FitsHello : Nat := 348
abbrev gimpl_ChecksOut : Nat := 349
abbrev gimpl_copyExts_1 : Nat := 350
abbrev gimpl_ExtOf_1 : Nat := 351
abbrev gslices_IndexFunc___impl_Ext_impl_Ext_ : Nat := 352
abbrev gimpl_Hash : Nat := 353
abbrev gimpl_Mod : Nat := 354
abbrev gspec_EqualInts : Nat := 355
abbrev gspec_EqualExts : Nat := 356
abbrev gslices_Equal___int_int_ : Nat := 357
abbrev gimpl_EqualExts : Nat := 358
abbrev gimpl_PartHello_1 : Nat := 359
abbrev gimpl_IsOpenPath : Nat := 360
abbrev gimpl_KnownOf : Nat := 361
abbrev gimpl_StripGrease : Nat := 362
abbrev gimpl_EditAnswer_1 : Nat := 363
abbrev gimpl_IsTranscript : Nat := 364
abbrev gimpl_TranscriptHash : Nat := 365
abbrev gimpl_KeyedHash : Nat := 366
abbrev gimpl_EncodeExts : Nat := 367
abbrev gslices_Concat___int_int_ : Nat := 368
abbrev gimpl_IsAnswer : Nat := 369
abbrev gimpl_HasGrease : Nat := 370
abbrev gimpl_equalExt : Nat := 371
abbrev gslices_EqualFunc___impl_Ext___impl_Ext_impl_Ext_impl_Ext_ : Nat := 372
abbrev gimpl_StripGrease_1 : Nat := 373
abbrev gimpl_KnownOf_1 : Nat := 374
abbrev gimpl_IsTranscript_1 : Nat := 375
abbrev glaws_FnExactEventName : Nat := 376
abbrev gimpl_EventName : Nat := 377
abbrev glaws_FnExactIsBadDial : Nat := 378
abbrev glaws_FnExactCountKind : Nat := 379
abbrev glaws_szEventS : Nat := 380
abbrev glaws_toEventS : Nat := 381
abbrev gspec_CountKind : Nat := 382
abbrev gimpl_CountKind : Nat := 383
abbrev glaws_eqEventS : Nat := 384
abbrev glaws_FnExactExampleEnds : Nat := 385
abbrev glaws_szEvent : Nat := 386
abbrev glaws_toEvent : Nat := 387
abbrev glaws_eqEvent : Nat := 388
abbrev gslices_Index___int_int_ : Nat := 389
abbrev gslices_IndexFunc___string_string_ : Nat := 390
abbrev gmath_bits_Len : Nat := 391
abbrev gslices_pdqsortOrdered_int_ : Nat := 392
abbrev gslices_IndexFunc___impl_Endpoint_impl_Endpoint_ : Nat := 393
abbrev gslices_insertionSortOrdered_int_ : Nat := 394
abbrev gslices_heapSortOrdered_int_ : Nat := 395
abbrev gslices_breakPatternsOrdered_int_ : Nat := 396
abbrev gslices_choosePivotOrdered_int_ : Nat := 397
abbrev gslices_reverseRangeOrdered_int_ : Nat := 398
abbrev gslices_partialInsertionSortOrdered_int_ : Nat := 399
abbrev gcmp_Less_int_ : Nat := 400
abbrev gslices_partitionEqualOrdered_int_ : Nat := 401
abbrev gslices_partitionOrdered_int_ : Nat := 402
abbrev gslices_IndexFunc___impl_Logged_impl_Logged_ : Nat := 403
abbrev gslices_IndexFunc___int_int_ : Nat := 404
abbrev gslices_IndexFunc_____int___int_ : Nat := 405
abbrev gslices_IndexFunc___impl_Box_impl_Box_ : Nat := 406
abbrev gslices_siftDownOrdered_int_ : Nat := 407
abbrev gslices_nextPowerOfTwo : Nat := 408
abbrev g__slices_xorshift__Next : Nat := 409
abbrev gslices_medianAdjacentOrdered_int_ : Nat := 410
abbrev gslices_medianOrdered_int_ : Nat := 411
abbrev gslices_rotateRight_int_ : Nat := 412
abbrev gslices_rotateLeft_int_ : Nat := 413
abbrev gslices_order2Ordered_int_ : Nat := 414
abbrev gslices_Reverse___int_int_ : Nat := 415
abbrev gslices_rotateRight_impl_Ext_ : Nat := 416
abbrev gslices_rotateLeft_impl_Ext_ : Nat := 417
abbrev gslices_Reverse___impl_Ext_impl_Ext_ : Nat := 418
abbrev gslices_Grow___int_int_ : Nat := 419
abbrev glaws_FnExactTriesOf : Nat := 420
abbrev gspec_TriesOf : Nat := 421
abbrev gimpl_TriesOf : Nat := 422
abbrev glaws_FnExactDialsBy : Nat := 423
abbrev gspec_DialsBy : Nat := 424
abbrev gimpl_DialsBy : Nat := 425
abbrev glaws_FnExactOkShare : Nat := 426
abbrev gspec_OkShare : Nat := 427
abbrev gimpl_OkShare : Nat := 428
abbrev glaws_FnExactIsSober : Nat := 429
abbrev glaws_FnExactIsCounted : Nat := 430
abbrev glaws_FnExactIsOnNew : Nat := 431
abbrev glaws_FnExactOnNewCount : Nat := 432
abbrev gspec_OnNewCount : Nat := 433
abbrev gimpl_OnNewCount : Nat := 434
abbrev glaws_FnExactSignalNow : Nat := 435
abbrev glaws_FnExactHasVersion : Nat := 436
abbrev glaws_FnExactHardEnds : Nat := 437
abbrev glaws_FnExactStepTick : Nat := 438
abbrev glaws_FnExactStepClear : Nat := 439
abbrev glaws_FnExactStepBox : Nat := 440
abbrev glaws_markBox : Nat := 441
abbrev glaws_FnExactNewWorld : Nat := 442
abbrev glaws_FnExactLeaveRollout : Nat := 443
abbrev glaws_FnExactStepRetire : Nat := 444
abbrev glaws_FnExactBestNow : Nat := 445
abbrev glaws_FnExactVersionCounts : Nat := 446
abbrev glaws_FnExactReportNow : Nat := 447
abbrev glaws_FnExactFormatDeal : Nat := 448
abbrev glaws_FnExactFormatDialed : Nat := 449
abbrev glaws_FnExactFormatEnd : Nat := 450
abbrev glaws_FnExactFormatWorld : Nat := 451
abbrev glaws_FnExactFormatList : Nat := 452
abbrev glaws_FnExactFormatRollout : Nat := 453
end Go.Eng.T

