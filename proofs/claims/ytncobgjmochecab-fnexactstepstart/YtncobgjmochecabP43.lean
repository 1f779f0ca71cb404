/- Own work: part 43 of the proof of FnExactStepStart. -/
import Derived.Test.YtncobgjmochecabEngAP
set_option linter.unusedSimpArgs false
set_option linter.unusedVariables false
namespace Go.Eng.T
def slaws_szDialed_r0 : Reg :=
  { id := 0, ops := [{ op := .box 0 (.slot 0) },
      { op := .mv (.con (.sc (.int .i64 0))) }], sets := [(2, 0)], clr := [0, 3] }
def slaws_szDialed_r1 : Reg :=
  { id := 1, ops := [{ op := .fieldAddr (.slot 2) 0 },
      { op := .load (some 3) (.loc 0) },
      { op := .mv (.slot 1) },
      { op := .call 140 [(false, .loc 1), (false, .loc 2)] [] },
      { op := .mv (.loc 3) }], sets := [(1, 4)] }
def slaws_szDialed_r2 : Reg :=
  { id := 2, ops := [{ op := .mv (.slot 1) },
      { op := .bin .lss (.loc 0) (.con (.sc (.int .i64 0))) }], sets := [(4, 1)] }
def slaws_szDialed_r3 : Reg :=
  { id := 3, ops := [{ op := .mv (.con (.sc (.int .i64 (-1)))) }], sets := [(3, 0)], clr := [1, 2] }
def slaws_szDialed_r4 : Reg :=
  { id := 4, ops := [{ op := .fieldAddr (.slot 2) 4 },
      { op := .load none (.loc 0) },
      { op := .mv (.slot 1) },
      { op := .call 16 [(false, .loc 1), (false, .loc 2)] [] },
      { op := .mv (.loc 3) }], sets := [(1, 4)], clr := [2] }
def slaws_szDialed_r5 : Reg :=
  { id := 5, ops := [{ op := .mv (.slot 1) },
      { op := .bin .lss (.loc 0) (.con (.sc (.int .i64 0))) }], sets := [(5, 1)] }
def slaws_szDialed_r6 : Reg :=
  { id := 6, ops := [{ op := .mv (.con (.sc (.int .i64 (-1)))) }], sets := [(3, 0)], clr := [1] }
def slaws_szDialed_r7 : Reg :=
  { id := 7, ops := [{ op := .mv (.slot 1) },
      { op := .mv (.loc 0) }], sets := [(3, 1)], clr := [1] }
def slaws_szDialed_b : SC := .seq (.reg slaws_szDialed_r0) (.seq (.reg slaws_szDialed_r1) (.seq (.seq (.reg slaws_szDialed_r2) (.cond 4 (.seq (.reg slaws_szDialed_r3) (.ret)) (.skip))) (.seq (.reg slaws_szDialed_r4) (.seq (.seq (.reg slaws_szDialed_r5) (.cond 5 (.seq (.reg slaws_szDialed_r6) (.ret)) (.skip))) (.seq (.reg slaws_szDialed_r7) (.ret))))))
def slaws_szDialed : SFn := { nslots := 6, nobjs := 1, params := [0, 1], ngiven := 0, bor := false, takes := [], body := slaws_szDialed_b, results := [.slot 3] }
def slaws_szDialed_t : List Tmp := [0, 1, 2, 4, 10, 16]
attribute [simp] slaws_szDialed_r0 slaws_szDialed_r1 slaws_szDialed_r2 slaws_szDialed_r3 slaws_szDialed_r4 slaws_szDialed_r5 slaws_szDialed_r6 slaws_szDialed_r7 slaws_szDialed_b slaws_szDialed
def slaws_toDialed_r0 : Reg :=
  { id := 0, ops := [{ op := .box 0 (.slot 0) },
      { op := .alloc 1 [.sc (.bool false), .sc (.int .i64 0), .nil 1, .sc (.int .i64 0), .nil 1] }], sets := [(1, 0), (2, 1)], clr := [0] }
def slaws_toDialed_r1 : Reg :=
  { id := 1, ops := [{ op := .alloc 2 [.sc (.bool false), .sc (.int .i64 0), .nil 1, .sc (.int .i64 0), .nil 1] }], sets := [(3, 0)] }
def slaws_toDialed_r2 : Reg :=
  { id := 2, ops := [{ op := .fieldAddr (.slot 1) 0 },
      { op := .load (some 3) (.loc 0) },
      { op := .call 171 [(false, .loc 1)] [3] },
      { op := .fieldAddr (.slot 3) 0 },
      { op := .store 3 (.loc 3) (.loc 2) }] }
def slaws_toDialed_r3 : Reg :=
  { id := 3, ops := [{ op := .fieldAddr (.slot 1) 3 },
      { op := .load none (.loc 0) },
      { op := .fieldAddr (.slot 3) 3 },
      { op := .store 1 (.loc 2) (.loc 1) }] }
def slaws_toDialed_r4 : Reg :=
  { id := 4, ops := [{ op := .fieldAddr (.slot 1) 4 },
      { op := .load none (.loc 0) },
      { op := .call 31 [(false, .loc 1)] [4] },
      { op := .fieldAddr (.slot 3) 4 },
      { op := .store 1 (.loc 3) (.loc 2) }], clr := [1] }
def slaws_toDialed_r5 : Reg :=
  { id := 5, ops := [{ op := .load (some 5) (.slot 3) },
      { op := .store 5 (.slot 2) (.loc 0) }], clr := [3] }
def slaws_toDialed_b : SC := .seq (.reg slaws_toDialed_r0) (.seq (.reg slaws_toDialed_r1) (.seq (.reg slaws_toDialed_r2) (.seq (.reg slaws_toDialed_r3) (.seq (.reg slaws_toDialed_r4) (.seq (.reg slaws_toDialed_r5) (.ret))))))
def slaws_toDialed : SFn := { nslots := 4, nobjs := 5, params := [0], ngiven := 0, bor := false, takes := [], body := slaws_toDialed_b, results := [.cell 2 (some 5)] }
def slaws_toDialed_t : List Tmp := [0, 1, 2, 3]
attribute [simp] slaws_toDialed_r0 slaws_toDialed_r1 slaws_toDialed_r2 slaws_toDialed_r3 slaws_toDialed_r4 slaws_toDialed_r5 slaws_toDialed_b slaws_toDialed
def slaws_eqDialed_r0 : Reg :=
  { id := 0, ops := [{ op := .box 0 (.slot 0) },
      { op := .box 1 (.slot 1) },
      { op := .mv (.con (.sc (.bool false))) }], sets := [(2, 0), (3, 1)], clr := [0, 1, 4] }
def slaws_eqDialed_r1 : Reg :=
  { id := 1, ops := [{ op := .fieldAddr (.slot 2) 0 },
      { op := .load (some 3) (.loc 0) },
      { op := .fieldAddr (.slot 3) 0 },
      { op := .load (some 3) (.loc 2) },
      { op := .call 205 [(false, .loc 1), (false, .loc 3)] [] },
      { op := .un .not (.loc 4) }], sets := [(5, 5)] }
def slaws_eqDialed_r2 : Reg :=
  { id := 2, ops := [{ op := .mv (.con (.sc (.bool false))) }], sets := [(4, 0)], clr := [2, 3] }
def slaws_eqDialed_r3 : Reg :=
  { id := 3, ops := [{ op := .fieldAddr (.slot 2) 3 },
      { op := .load none (.loc 0) },
      { op := .fieldAddr (.slot 3) 3 },
      { op := .load none (.loc 2) },
      { op := .bin .neq (.loc 1) (.loc 3) }], sets := [(6, 4)] }
def slaws_eqDialed_r4 : Reg :=
  { id := 4, ops := [{ op := .mv (.con (.sc (.bool false))) }], sets := [(4, 0)], clr := [2, 3] }
def slaws_eqDialed_r5 : Reg :=
  { id := 5, ops := [{ op := .fieldAddr (.slot 2) 4 },
      { op := .load none (.loc 0) },
      { op := .fieldAddr (.slot 3) 4 },
      { op := .load none (.loc 2) },
      { op := .call 47 [(false, .loc 1), (false, .loc 3)] [] },
      { op := .un .not (.loc 4) }], sets := [(7, 5)], clr := [2, 3] }
def slaws_eqDialed_r6 : Reg :=
  { id := 6, ops := [{ op := .mv (.con (.sc (.bool false))) }], sets := [(4, 0)] }
def slaws_eqDialed_r7 : Reg :=
  { id := 7, ops := [{ op := .mv (.con (.sc (.bool true))) }], sets := [(4, 0)] }
def slaws_eqDialed_b : SC := .seq (.reg slaws_eqDialed_r0) (.seq (.seq (.reg slaws_eqDialed_r1) (.cond 5 (.seq (.reg slaws_eqDialed_r2) (.ret)) (.skip))) (.seq (.seq (.reg slaws_eqDialed_r3) (.cond 6 (.seq (.reg slaws_eqDialed_r4) (.ret)) (.skip))) (.seq (.seq (.reg slaws_eqDialed_r5) (.cond 7 (.seq (.reg slaws_eqDialed_r6) (.ret)) (.skip))) (.seq (.reg slaws_eqDialed_r7) (.ret)))))
def slaws_eqDialed : SFn := { nslots := 8, nobjs := 2, params := [0, 1], ngiven := 0, bor := false, takes := [], body := slaws_eqDialed_b, results := [.slot 4] }
def slaws_eqDialed_t : List Tmp := [0, 1, 2, 3, 4, 10, 15, 21]
attribute [simp] slaws_eqDialed_r0 slaws_eqDialed_r1 slaws_eqDialed_r2 slaws_eqDialed_r3 slaws_eqDialed_r4 slaws_eqDialed_r5 slaws_eqDialed_r6 slaws_eqDialed_r7 slaws_eqDialed_b slaws_eqDialed
def slaws_eqEndpointS_r0 : Reg :=
  { id := 0, ops := [{ op := .mv (.con (.sc (.bool false))) }], clr := [2] }
def slaws_eqEndpointS_r1 : Reg :=
  { id := 1, ops := [{ op := .mv (.slot 0) },
      { op := .len false (.loc 0) },
      { op := .mv (.slot 1) },
      { op := .len false (.loc 2) },
      { op := .bin .neq (.loc 1) (.loc 3) }], sets := [(4, 4)] }
def slaws_eqEndpointS_r2 : Reg :=
  { id := 2, ops := [{ op := .mv (.con (.sc (.bool false))) }], sets := [(2, 0)], clr := [0, 1] }
def slaws_eqEndpointS_r3 : Reg :=
  { id := 3, ops := [{ op := .mv (.con (.sc (.int .i64 0))) }], sets := [(3, 0)] }
def slaws_eqEndpointS_r4 : Reg :=
  { id := 4, ops := [{ op := .mv (.slot 3) },
      { op := .mv (.slot 0) },
      { op := .len false (.loc 1) },
      { op := .bin .lss (.loc 0) (.loc 2) }], sets := [(5, 3)] }
def slaws_eqEndpointS_r5 : Reg :=
  { id := 6, draw := true, ops := [{ op := .mv (.slot 0), tau := some [], om := [] },
      { op := .mv (.slot 3), tau := some [], om := [] },
      { op := .indexAddr 4 (.loc 0) (.loc 1), tau := some [], om := [] },
      { op := .load (some 4) (.loc 2), tau := some [], om := [] },
      { op := .mv (.slot 1), tau := some [], om := [] },
      { op := .mv (.slot 3), tau := some [], om := [] },
      { op := .indexAddr 4 (.loc 4) (.loc 5), tau := some [], om := [] },
      { op := .load (some 4) (.loc 6), tau := some [], om := [] },
      { op := .call 134 [(false, .loc 3), (false, .loc 7)] [], tau := some [], om := [] },
      { op := .un .not (.loc 8), tau := some [], om := [] }], sets := [(6, 9)] }
def slaws_eqEndpointS_r6 : Reg :=
  { id := 7, ops := [{ op := .mv (.con (.sc (.bool false))) }], sets := [(2, 0)], clr := [0, 1, 3] }
def slaws_eqEndpointS_r7 : Reg :=
  { id := 5, ops := [{ op := .mv (.slot 3) },
      { op := .bin .add (.loc 0) (.con (.sc (.int .i64 1))) },
      { op := .mv (.loc 1) }], sets := [(3, 2)] }
def slaws_eqEndpointS_r8 : Reg :=
  { id := 8, ops := [{ op := .mv (.con (.sc (.bool true))) }], sets := [(2, 0)], clr := [0, 1, 3] }
def slaws_eqEndpointS_b : SC := .seq (.reg slaws_eqEndpointS_r0) (.seq (.seq (.reg slaws_eqEndpointS_r1) (.cond 4 (.seq (.reg slaws_eqEndpointS_r2) (.ret)) (.skip))) (.seq (.seq (.reg slaws_eqEndpointS_r3) (.block 0 (.loop (.seq (.seq (.reg slaws_eqEndpointS_r4) (.cond 5 (.skip) (.exit 0))) (.seq (.block 1 (.seq (.reg slaws_eqEndpointS_r5) (.cond 6 (.seq (.reg slaws_eqEndpointS_r6) (.ret)) (.skip)))) (.reg slaws_eqEndpointS_r7)))))) (.seq (.reg slaws_eqEndpointS_r8) (.ret))))
def slaws_eqEndpointS : SFn := { nslots := 7, nobjs := 0, params := [0, 1], ngiven := 0, bor := false, takes := [], body := slaws_eqEndpointS_b, results := [.slot 2] }
def slaws_eqEndpointS_t : List Tmp := [0, 1, 4, 5, 10, 14, 26]
attribute [simp] slaws_eqEndpointS_r0 slaws_eqEndpointS_r1 slaws_eqEndpointS_r2 slaws_eqEndpointS_r3 slaws_eqEndpointS_r4 slaws_eqEndpointS_r5 slaws_eqEndpointS_r6 slaws_eqEndpointS_r7 slaws_eqEndpointS_r8 slaws_eqEndpointS_b slaws_eqEndpointS
def slaws_markEndpointS_r0 : Reg :=
  { id := 0, ops := [{ op := .mv (.con (.sc (.int .i64 0))) }], clr := [2] }
def slaws_markEndpointS_r1 : Reg :=
  { id := 1, ops := [{ op := .mv (.con (.sc (.int .i64 0))) }], sets := [(3, 0)] }
def slaws_markEndpointS_r2 : Reg :=
  { id := 2, ops := [{ op := .mv (.slot 3) },
      { op := .mv (.slot 0) },
      { op := .len false (.loc 1) },
      { op := .bin .lss (.loc 0) (.loc 2) }], sets := [(4, 3)] }
def slaws_markEndpointS_r3 : Reg :=
  { id := 4, fresh := [1], ops := [{ op := .mv (.slot 0) },
      { op := .mv (.slot 3) },
      { op := .indexAddr 4 (.loc 0) (.loc 1) },
      { op := .fieldAddr (.loc 2) 0 },
      { op := .take 1 (.loc 3) },
      { op := .mv (.slot 1) },
      { op := .call 52 [(true, .loc 4), (false, .loc 5)] [] },
      { op := .mv (.loc 6) }], sets := [(1, 7)], ghosts := [.untake 1] }
def slaws_markEndpointS_r4 : Reg :=
  { id := 5, fresh := [2], ops := [{ op := .mv (.slot 0) },
      { op := .mv (.slot 3) },
      { op := .indexAddr 4 (.loc 0) (.loc 1) },
      { op := .fieldAddr (.loc 2) 1 },
      { op := .take 2 (.loc 3) },
      { op := .mv (.slot 1) },
      { op := .call 52 [(true, .loc 4), (false, .loc 5)] [] },
      { op := .mv (.loc 6) }], sets := [(1, 7)], ghosts := [.untake 2] }
def slaws_markEndpointS_r5 : Reg :=
  { id := 6, fresh := [3], ops := [{ op := .mv (.slot 0) },
      { op := .mv (.slot 3) },
      { op := .indexAddr 4 (.loc 0) (.loc 1) },
      { op := .fieldAddr (.loc 2) 2 },
      { op := .take 3 (.loc 3) },
      { op := .mv (.slot 1) },
      { op := .call 137 [(true, .loc 4), (false, .loc 5)] [] },
      { op := .mv (.loc 6) }], sets := [(1, 7)], ghosts := [.untake 3] }
def slaws_markEndpointS_r6 : Reg :=
  { id := 7, ops := [{ op := .mv (.slot 0) },
      { op := .mv (.slot 3) },
      { op := .mv (.slot 1) },
      { op := .indexAddr 4 (.loc 0) (.loc 1) },
      { op := .fieldAddr (.loc 3) 3 },
      { op := .store 1 (.loc 4) (.loc 2) }] }
def slaws_markEndpointS_r7 : Reg :=
  { id := 8, ops := [{ op := .mv (.slot 1) },
      { op := .bin .add (.loc 0) (.con (.sc (.int .i64 1))) },
      { op := .mv (.loc 1) }], sets := [(1, 2)] }
def slaws_markEndpointS_r8 : Reg :=
  { id := 3, ops := [{ op := .mv (.slot 3) },
      { op := .bin .add (.loc 0) (.con (.sc (.int .i64 1))) },
      { op := .mv (.loc 1) }], sets := [(3, 2)] }
def slaws_markEndpointS_r9 : Reg :=
  { id := 9, ops := [{ op := .mv (.slot 1) },
      { op := .mv (.loc 0) }], sets := [(2, 1)], clr := [0, 1, 3] }
def slaws_markEndpointS_b : SC := .seq (.reg slaws_markEndpointS_r0) (.seq (.seq (.reg slaws_markEndpointS_r1) (.block 0 (.loop (.seq (.seq (.reg slaws_markEndpointS_r2) (.cond 4 (.skip) (.exit 0))) (.seq (.block 1 (.seq (.reg slaws_markEndpointS_r3) (.seq (.reg slaws_markEndpointS_r4) (.seq (.reg slaws_markEndpointS_r5) (.seq (.reg slaws_markEndpointS_r6) (.reg slaws_markEndpointS_r7)))))) (.reg slaws_markEndpointS_r8)))))) (.seq (.reg slaws_markEndpointS_r9) (.ret)))
def slaws_markEndpointS : SFn := { nslots := 5, nobjs := 4, params := [0, 1], ngiven := 1, bor := false, takes := [1, 2, 3], body := slaws_markEndpointS_b, results := [.slot 2] }
def slaws_markEndpointS_t : List Tmp := [0, 1, 4, 5, 9]
attribute [simp] slaws_markEndpointS_r0 slaws_markEndpointS_r1 slaws_markEndpointS_r2 slaws_markEndpointS_r3 slaws_markEndpointS_r4 slaws_markEndpointS_r5 slaws_markEndpointS_r6 slaws_markEndpointS_r7 slaws_markEndpointS_r8 slaws_markEndpointS_r9 slaws_markEndpointS_b slaws_markEndpointS
def slaws_heldEndpointS_r0 : Reg :=
  { id := 0, ops := [{ op := .mv (.con (.sc (.int .i64 0))) }], clr := [2] }
def slaws_heldEndpointS_r1 : Reg :=
  { id := 1, ops := [{ op := .mv (.con (.sc (.int .i64 0))) }], sets := [(3, 0)] }
def slaws_heldEndpointS_r2 : Reg :=
  { id := 2, ops := [{ op := .mv (.slot 3) },
      { op := .mv (.slot 0) },
      { op := .len false (.loc 1) },
      { op := .bin .lss (.loc 0) (.loc 2) }], sets := [(4, 3)] }
def slaws_heldEndpointS_r3 : Reg :=
  { id := 4, ops := [{ op := .mv (.slot 0) },
      { op := .mv (.slot 3) },
      { op := .indexAddr 4 (.loc 0) (.loc 1) },
      { op := .fieldAddr (.loc 2) 0 },
      { op := .load none (.loc 3) },
      { op := .mv (.slot 1) },
      { op := .call 57 [(false, .loc 4), (false, .loc 5)] [] },
      { op := .mv (.loc 6) }], sets := [(1, 7)] }
def slaws_heldEndpointS_r4 : Reg :=
  { id := 5, ops := [{ op := .mv (.slot 1) },
      { op := .bin .lss (.loc 0) (.con (.sc (.int .i64 0))) }], sets := [(5, 1)] }
def slaws_heldEndpointS_r5 : Reg :=
  { id := 6, ops := [{ op := .mv (.con (.sc (.int .i64 (-1)))) }], sets := [(2, 0)], clr := [0, 1, 3] }
def slaws_heldEndpointS_r6 : Reg :=
  { id := 7, ops := [{ op := .mv (.slot 0) },
      { op := .mv (.slot 3) },
      { op := .indexAddr 4 (.loc 0) (.loc 1) },
      { op := .fieldAddr (.loc 2) 1 },
      { op := .load none (.loc 3) },
      { op := .mv (.slot 1) },
      { op := .call 57 [(false, .loc 4), (false, .loc 5)] [] },
      { op := .mv (.loc 6) }], sets := [(1, 7)] }
def slaws_heldEndpointS_r7 : Reg :=
  { id := 8, ops := [{ op := .mv (.slot 1) },
      { op := .bin .lss (.loc 0) (.con (.sc (.int .i64 0))) }], sets := [(6, 1)] }
def slaws_heldEndpointS_r8 : Reg :=
  { id := 9, ops := [{ op := .mv (.con (.sc (.int .i64 (-1)))) }], sets := [(2, 0)], clr := [0, 1, 3] }
def slaws_heldEndpointS_r9 : Reg :=
  { id := 10, ops := [{ op := .mv (.slot 0) },
      { op := .mv (.slot 3) },
      { op := .indexAddr 4 (.loc 0) (.loc 1) },
      { op := .fieldAddr (.loc 2) 2 },
      { op := .load none (.loc 3) },
      { op := .mv (.slot 1) },
      { op := .call 138 [(false, .loc 4), (false, .loc 5)] [] },
      { op := .mv (.loc 6) }], sets := [(1, 7)] }
def slaws_heldEndpointS_r10 : Reg :=
  { id := 11, ops := [{ op := .mv (.slot 1) },
      { op := .bin .lss (.loc 0) (.con (.sc (.int .i64 0))) }], sets := [(7, 1)] }
def slaws_heldEndpointS_r11 : Reg :=
  { id := 12, ops := [{ op := .mv (.con (.sc (.int .i64 (-1)))) }], sets := [(2, 0)], clr := [0, 1, 3] }
def slaws_heldEndpointS_r12 : Reg :=
  { id := 13, ops := [{ op := .mv (.slot 0) },
      { op := .mv (.slot 3) },
      { op := .indexAddr 4 (.loc 0) (.loc 1) },
      { op := .fieldAddr (.loc 2) 3 },
      { op := .load none (.loc 3) },
      { op := .mv (.slot 1) },
      { op := .bin .neq (.loc 4) (.loc 5) }], sets := [(8, 6)] }
def slaws_heldEndpointS_r13 : Reg :=
  { id := 14, ops := [{ op := .mv (.con (.sc (.int .i64 (-1)))) }], sets := [(2, 0)], clr := [0, 1, 3] }
def slaws_heldEndpointS_r14 : Reg :=
  { id := 15, ops := [{ op := .mv (.slot 1) },
      { op := .bin .add (.loc 0) (.con (.sc (.int .i64 1))) },
      { op := .mv (.loc 1) }], sets := [(1, 2)] }
def slaws_heldEndpointS_r15 : Reg :=
  { id := 3, ops := [{ op := .mv (.slot 3) },
      { op := .bin .add (.loc 0) (.con (.sc (.int .i64 1))) },
      { op := .mv (.loc 1) }], sets := [(3, 2)] }
def slaws_heldEndpointS_r16 : Reg :=
  { id := 16, ops := [{ op := .mv (.slot 1) },
      { op := .mv (.loc 0) }], sets := [(2, 1)], clr := [0, 1, 3] }
def slaws_heldEndpointS_b : SC := .seq (.reg slaws_heldEndpointS_r0) (.seq (.seq (.reg slaws_heldEndpointS_r1) (.block 0 (.loop (.seq (.seq (.reg slaws_heldEndpointS_r2) (.cond 4 (.skip) (.exit 0))) (.seq (.block 1 (.seq (.reg slaws_heldEndpointS_r3) (.seq (.seq (.reg slaws_heldEndpointS_r4) (.cond 5 (.seq (.reg slaws_heldEndpointS_r5) (.ret)) (.skip))) (.seq (.reg slaws_heldEndpointS_r6) (.seq (.seq (.reg slaws_heldEndpointS_r7) (.cond 6 (.seq (.reg slaws_heldEndpointS_r8) (.ret)) (.skip))) (.seq (.reg slaws_heldEndpointS_r9) (.seq (.seq (.reg slaws_heldEndpointS_r10) (.cond 7 (.seq (.reg slaws_heldEndpointS_r11) (.ret)) (.skip))) (.seq (.seq (.reg slaws_heldEndpointS_r12) (.cond 8 (.seq (.reg slaws_heldEndpointS_r13) (.ret)) (.skip))) (.reg slaws_heldEndpointS_r14))))))))) (.reg slaws_heldEndpointS_r15)))))) (.seq (.reg slaws_heldEndpointS_r16) (.ret)))
def slaws_heldEndpointS : SFn := { nslots := 9, nobjs := 0, params := [0, 1], ngiven := 0, bor := false, takes := [], body := slaws_heldEndpointS_b, results := [.slot 2] }
def slaws_heldEndpointS_t : List Tmp := [0, 1, 4, 5, 9, 20, 29, 38, 45]
attribute [simp] slaws_heldEndpointS_r0 slaws_heldEndpointS_r1 slaws_heldEndpointS_r2 slaws_heldEndpointS_r3 slaws_heldEndpointS_r4 slaws_heldEndpointS_r5 slaws_heldEndpointS_r6 slaws_heldEndpointS_r7 slaws_heldEndpointS_r8 slaws_heldEndpointS_r9 slaws_heldEndpointS_r10 slaws_heldEndpointS_r11 slaws_heldEndpointS_r12 slaws_heldEndpointS_r13 slaws_heldEndpointS_r14 slaws_heldEndpointS_r15 slaws_heldEndpointS_r16 slaws_heldEndpointS_b slaws_heldEndpointS
def sspec_l1In_r0 : Reg :=
  { id := 0, ops := [{ op := .mv (.con (.sc (.bool false))) }], clr := [3] }
def sspec_l1In_r1 : Reg :=
  { id := 1, ops := [{ op := .mv (.slot 0) },
      { op := .mv (.slot 1) },
      { op := .bin .geq (.loc 0) (.loc 1) },
      { op := .mv (.loc 2) },
      { op := .mv (.slot 0), guard := some (3, true) },
      { op := .mv (.slot 2), guard := some (3, true) },
      { op := .bin .leq (.loc 4) (.loc 5), guard := some (3, true) },
      { op := .pick (.loc 3) (.loc 6) (.con (.sc (.bool false))) },
      { op := .mv (.loc 7) }], sets := [(3, 8)], clr := [0, 1, 2] }
def sspec_l1In_b : SC := .seq (.reg sspec_l1In_r0) (.seq (.reg sspec_l1In_r1) (.ret))
def sspec_l1In : SFn := { nslots := 4, nobjs := 0, params := [0, 1, 2], ngiven := 0, bor := false, takes := [], body := sspec_l1In_b, results := [.slot 3] }
def sspec_l1In_t : List Tmp := [0, 1, 2, 6]
attribute [simp] sspec_l1In_r0 sspec_l1In_r1 sspec_l1In_b sspec_l1In
def simpl_InRange_r0 : Reg :=
  { id := 0, ops := [{ op := .mv (.con (.sc (.bool false))) }], clr := [3] }
def simpl_InRange_r1 : Reg :=
  { id := 1, ops := [{ op := .mv (.slot 1) },
      { op := .mv (.slot 0) },
      { op := .bin .leq (.loc 0) (.loc 1) },
      { op := .mv (.loc 2) },
      { op := .mv (.slot 0), guard := some (3, true) },
      { op := .mv (.slot 2), guard := some (3, true) },
      { op := .bin .leq (.loc 4) (.loc 5), guard := some (3, true) },
      { op := .pick (.loc 3) (.loc 6) (.con (.sc (.bool false))) },
      { op := .mv (.loc 7) }], sets := [(3, 8)], clr := [0, 1, 2] }
def simpl_InRange_b : SC := .seq (.reg simpl_InRange_r0) (.seq (.reg simpl_InRange_r1) (.ret))
def simpl_InRange : SFn := { nslots := 4, nobjs := 0, params := [0, 1, 2], ngiven := 0, bor := false, takes := [], body := simpl_InRange_b, results := [.slot 3] }
def simpl_InRange_t : List Tmp := [0, 1, 2, 6]
attribute [simp] simpl_InRange_r0 simpl_InRange_r1 simpl_InRange_b simpl_InRange
def slaws_szDeal_r0 : Reg :=
  { id := 0, ops := [{ op := .box 0 (.slot 0) },
      { op := .mv (.con (.sc (.int .i64 0))) }], sets := [(2, 0)], clr := [0, 3] }
def slaws_szDeal_r1 : Reg :=
  { id := 1, ops := [{ op := .fieldAddr (.slot 2) 2 },
      { op := .load none (.loc 0) },
      { op := .mv (.slot 1) },
      { op := .call 16 [(false, .loc 1), (false, .loc 2)] [] },
      { op := .mv (.loc 3) }], sets := [(1, 4)], clr := [2] }
def slaws_szDeal_r2 : Reg :=
  { id := 2, ops := [{ op := .mv (.slot 1) },
      { op := .bin .lss (.loc 0) (.con (.sc (.int .i64 0))) }], sets := [(4, 1)] }
def slaws_szDeal_r3 : Reg :=
  { id := 3, ops := [{ op := .mv (.con (.sc (.int .i64 (-1)))) }], sets := [(3, 0)], clr := [1] }
def slaws_szDeal_r4 : Reg :=
  { id := 4, ops := [{ op := .mv (.slot 1) },
      { op := .mv (.loc 0) }], sets := [(3, 1)], clr := [1] }
def slaws_szDeal_b : SC := .seq (.reg slaws_szDeal_r0) (.seq (.reg slaws_szDeal_r1) (.seq (.seq (.reg slaws_szDeal_r2) (.cond 4 (.seq (.reg slaws_szDeal_r3) (.ret)) (.skip))) (.seq (.reg slaws_szDeal_r4) (.ret))))
def slaws_szDeal : SFn := { nslots := 5, nobjs := 1, params := [0, 1], ngiven := 0, bor := false, takes := [], body := slaws_szDeal_b, results := [.slot 3] }
def slaws_szDeal_t : List Tmp := [0, 1, 2, 4, 10]
attribute [simp] slaws_szDeal_r0 slaws_szDeal_r1 slaws_szDeal_r2 slaws_szDeal_r3 slaws_szDeal_r4 slaws_szDeal_b slaws_szDeal
def slaws_szIntS_r0 : Reg :=
  { id := 0, ops := [{ op := .mv (.con (.sc (.int .i64 0))) }], clr := [2] }
def slaws_szIntS_r1 : Reg :=
  { id := 1, ops := [{ op := .mv (.slot 1) },
      { op := .mv (.slot 0) },
      { op := .len false (.loc 1) },
      { op := .bin .sub (.loc 0) (.loc 2) },
      { op := .mv (.loc 3) }], sets := [(1, 4)], clr := [0] }
def slaws_szIntS_r2 : Reg :=
  { id := 2, ops := [{ op := .mv (.slot 1) },
      { op := .bin .lss (.loc 0) (.con (.sc (.int .i64 0))) }], sets := [(3, 1)] }
def slaws_szIntS_r3 : Reg :=
  { id := 3, ops := [{ op := .mv (.con (.sc (.int .i64 (-1)))) }], sets := [(2, 0)], clr := [1] }
def slaws_szIntS_r4 : Reg :=
  { id := 4, ops := [{ op := .mv (.slot 1) },
      { op := .mv (.loc 0) }], sets := [(2, 1)], clr := [1] }
def slaws_szIntS_b : SC := .seq (.reg slaws_szIntS_r0) (.seq (.reg slaws_szIntS_r1) (.seq (.seq (.reg slaws_szIntS_r2) (.cond 3 (.seq (.reg slaws_szIntS_r3) (.ret)) (.skip))) (.seq (.reg slaws_szIntS_r4) (.ret))))
def slaws_szIntS : SFn := { nslots := 4, nobjs := 0, params := [0, 1], ngiven := 0, bor := false, takes := [], body := slaws_szIntS_b, results := [.slot 2] }
def slaws_szIntS_t : List Tmp := [0, 1, 4, 10]
attribute [simp] slaws_szIntS_r0 slaws_szIntS_r1 slaws_szIntS_r2 slaws_szIntS_r3 slaws_szIntS_r4 slaws_szIntS_b slaws_szIntS
def slaws_toDeal_r0 : Reg :=
  { id := 0, ops := [{ op := .box 0 (.slot 0) },
      { op := .alloc 1 [.sc (.bool false), .sc (.int .i64 0), .nil 1] }], sets := [(1, 0), (2, 1)], clr := [0] }
def slaws_toDeal_r1 : Reg :=
  { id := 1, ops := [{ op := .alloc 2 [.sc (.bool false), .sc (.int .i64 0), .nil 1] }], sets := [(3, 0)] }
def slaws_toDeal_r2 : Reg :=
  { id := 2, ops := [{ op := .fieldAddr (.slot 1) 0 },
      { op := .load none (.loc 0) },
      { op := .fieldAddr (.slot 3) 0 },
      { op := .store 1 (.loc 2) (.loc 1) }] }
def slaws_toDeal_r3 : Reg :=
  { id := 3, ops := [{ op := .fieldAddr (.slot 1) 1 },
      { op := .load none (.loc 0) },
      { op := .fieldAddr (.slot 3) 1 },
      { op := .store 1 (.loc 2) (.loc 1) }] }
def slaws_toDeal_r4 : Reg :=
  { id := 4, ops := [{ op := .fieldAddr (.slot 1) 2 },
      { op := .load none (.loc 0) },
      { op := .call 31 [(false, .loc 1)] [3] },
      { op := .fieldAddr (.slot 3) 2 },
      { op := .store 1 (.loc 3) (.loc 2) }], clr := [1] }
def slaws_toDeal_r5 : Reg :=
  { id := 5, ops := [{ op := .load (some 3) (.slot 3) },
      { op := .store 3 (.slot 2) (.loc 0) }], clr := [3] }
def slaws_toDeal_b : SC := .seq (.reg slaws_toDeal_r0) (.seq (.reg slaws_toDeal_r1) (.seq (.reg slaws_toDeal_r2) (.seq (.reg slaws_toDeal_r3) (.seq (.reg slaws_toDeal_r4) (.seq (.reg slaws_toDeal_r5) (.ret))))))
def slaws_toDeal : SFn := { nslots := 4, nobjs := 4, params := [0], ngiven := 0, bor := false, takes := [], body := slaws_toDeal_b, results := [.cell 2 (some 3)] }
def slaws_toDeal_t : List Tmp := [0, 1, 2, 3]
attribute [simp] slaws_toDeal_r0 slaws_toDeal_r1 slaws_toDeal_r2 slaws_toDeal_r3 slaws_toDeal_r4 slaws_toDeal_r5 slaws_toDeal_b slaws_toDeal
def slaws_toIntS_r0 : Reg :=
  { id := 0, ops := [{ op := .mv (.con (.nil 1)) }], clr := [1] }
def slaws_toIntS_r1 : Reg :=
  { id := 1, ops := [{ op := .mv (.slot 0) },
      { op := .len false (.loc 0) },
      { op := .makeSlice 0 1 8 [.sc (.int .i64 0)] (.loc 1) },
      { op := .mv (.loc 2) }], sets := [(2, 3)] }
def slaws_toIntS_r2 : Reg :=
  { id := 2, ops := [{ op := .mv (.con (.sc (.int .i64 0))) }], sets := [(3, 0)] }
def slaws_toIntS_r3 : Reg :=
  { id := 3, ops := [{ op := .mv (.slot 3) },
      { op := .mv (.slot 0) },
      { op := .len false (.loc 1) },
      { op := .bin .lss (.loc 0) (.loc 2) }], sets := [(4, 3)] }
def slaws_toIntS_r4 : Reg :=
  { id := 5, ops := [{ op := .mv (.slot 2) },
      { op := .mv (.slot 3) },
      { op := .mv (.slot 0) },
      { op := .mv (.slot 3) },
      { op := .indexAddr 1 (.loc 2) (.loc 3) },
      { op := .load none (.loc 4) },
      { op := .indexAddr 1 (.loc 0) (.loc 1) },
      { op := .store 1 (.loc 6) (.loc 5) }] }
def slaws_toIntS_r5 : Reg :=
  { id := 4, ops := [{ op := .mv (.slot 3) },
      { op := .bin .add (.loc 0) (.con (.sc (.int .i64 1))) },
      { op := .mv (.loc 1) }], sets := [(3, 2)] }
def slaws_toIntS_r6 : Reg :=
  { id := 6, ops := [{ op := .mv (.slot 2) },
      { op := .mv (.loc 0) }], sets := [(1, 1)], clr := [0, 2, 3] }
def slaws_toIntS_b : SC := .seq (.reg slaws_toIntS_r0) (.seq (.reg slaws_toIntS_r1) (.seq (.seq (.reg slaws_toIntS_r2) (.block 0 (.loop (.seq (.seq (.reg slaws_toIntS_r3) (.cond 4 (.skip) (.exit 0))) (.seq (.block 1 (.reg slaws_toIntS_r4)) (.reg slaws_toIntS_r5)))))) (.seq (.reg slaws_toIntS_r6) (.ret))))
def slaws_toIntS : SFn := { nslots := 5, nobjs := 1, params := [0], ngiven := 0, bor := false, takes := [], body := slaws_toIntS_b, results := [.slot 1] }
def slaws_toIntS_t : List Tmp := [0, 2, 3, 4, 11]
attribute [simp] slaws_toIntS_r0 slaws_toIntS_r1 slaws_toIntS_r2 slaws_toIntS_r3 slaws_toIntS_r4 slaws_toIntS_r5 slaws_toIntS_r6 slaws_toIntS_b slaws_toIntS
def slaws_eqDeal_r0 : Reg :=
  { id := 0, ops := [{ op := .box 0 (.slot 0) },
      { op := .box 1 (.slot 1) },
      { op := .mv (.con (.sc (.bool false))) }], sets := [(2, 0), (3, 1)], clr := [0, 1, 4] }
def slaws_eqDeal_r1 : Reg :=
  { id := 1, ops := [{ op := .fieldAddr (.slot 2) 0 },
      { op := .load none (.loc 0) },
      { op := .fieldAddr (.slot 3) 0 },
      { op := .load none (.loc 2) },
      { op := .beq true (.loc 1) (.loc 3) }], sets := [(5, 4)] }
def slaws_eqDeal_r2 : Reg :=
  { id := 2, ops := [{ op := .mv (.con (.sc (.bool false))) }], sets := [(4, 0)], clr := [2, 3] }
def slaws_eqDeal_r3 : Reg :=
  { id := 3, ops := [{ op := .fieldAddr (.slot 2) 1 },
      { op := .load none (.loc 0) },
      { op := .fieldAddr (.slot 3) 1 },
      { op := .load none (.loc 2) },
      { op := .bin .neq (.loc 1) (.loc 3) }], sets := [(6, 4)] }
def slaws_eqDeal_r4 : Reg :=
  { id := 4, ops := [{ op := .mv (.con (.sc (.bool false))) }], sets := [(4, 0)], clr := [2, 3] }
def slaws_eqDeal_r5 : Reg :=
  { id := 5, ops := [{ op := .fieldAddr (.slot 2) 2 },
      { op := .load none (.loc 0) },
      { op := .fieldAddr (.slot 3) 2 },
      { op := .load none (.loc 2) },
      { op := .call 47 [(false, .loc 1), (false, .loc 3)] [] },
      { op := .un .not (.loc 4) }], sets := [(7, 5)], clr := [2, 3] }
def slaws_eqDeal_r6 : Reg :=
  { id := 6, ops := [{ op := .mv (.con (.sc (.bool false))) }], sets := [(4, 0)] }
def slaws_eqDeal_r7 : Reg :=
  { id := 7, ops := [{ op := .mv (.con (.sc (.bool true))) }], sets := [(4, 0)] }
def slaws_eqDeal_b : SC := .seq (.reg slaws_eqDeal_r0) (.seq (.seq (.reg slaws_eqDeal_r1) (.cond 5 (.seq (.reg slaws_eqDeal_r2) (.ret)) (.skip))) (.seq (.seq (.reg slaws_eqDeal_r3) (.cond 6 (.seq (.reg slaws_eqDeal_r4) (.ret)) (.skip))) (.seq (.seq (.reg slaws_eqDeal_r5) (.cond 7 (.seq (.reg slaws_eqDeal_r6) (.ret)) (.skip))) (.seq (.reg slaws_eqDeal_r7) (.ret)))))
def slaws_eqDeal : SFn := { nslots := 8, nobjs := 2, params := [0, 1], ngiven := 0, bor := false, takes := [], body := slaws_eqDeal_b, results := [.slot 4] }
def slaws_eqDeal_t : List Tmp := [0, 1, 2, 3, 4, 9, 14, 20]
attribute [simp] slaws_eqDeal_r0 slaws_eqDeal_r1 slaws_eqDeal_r2 slaws_eqDeal_r3 slaws_eqDeal_r4 slaws_eqDeal_r5 slaws_eqDeal_r6 slaws_eqDeal_r7 slaws_eqDeal_b slaws_eqDeal
def slaws_eqIntS_r0 : Reg :=
  { id := 0, ops := [{ op := .mv (.con (.sc (.bool false))) }], clr := [2] }
def slaws_eqIntS_r1 : Reg :=
  { id := 1, ops := [{ op := .mv (.slot 0) },
      { op := .len false (.loc 0) },
      { op := .mv (.slot 1) },
      { op := .len false (.loc 2) },
      { op := .bin .neq (.loc 1) (.loc 3) }], sets := [(4, 4)] }
def slaws_eqIntS_r2 : Reg :=
  { id := 2, ops := [{ op := .mv (.con (.sc (.bool false))) }], sets := [(2, 0)], clr := [0, 1] }
def slaws_eqIntS_r3 : Reg :=
  { id := 3, ops := [{ op := .mv (.con (.sc (.int .i64 0))) }], sets := [(3, 0)] }
def slaws_eqIntS_r4 : Reg :=
  { id := 4, ops := [{ op := .mv (.slot 3) },
      { op := .mv (.slot 0) },
      { op := .len false (.loc 1) },
      { op := .bin .lss (.loc 0) (.loc 2) }], sets := [(5, 3)] }
def slaws_eqIntS_r5 : Reg :=
  { id := 6, draw := true, ops := [{ op := .mv (.slot 0), tau := some [], om := [] },
      { op := .mv (.slot 3), tau := some [], om := [] },
      { op := .indexAddr 1 (.loc 0) (.loc 1), tau := some [], om := [] },
      { op := .load none (.loc 2), tau := some [], om := [] },
      { op := .mv (.slot 1), tau := some [], om := [] },
      { op := .mv (.slot 3), tau := some [], om := [] },
      { op := .indexAddr 1 (.loc 4) (.loc 5), tau := some [], om := [] },
      { op := .load none (.loc 6), tau := some [], om := [] },
      { op := .bin .neq (.loc 3) (.loc 7), tau := some [], om := [] }], sets := [(6, 8)] }
def slaws_eqIntS_r6 : Reg :=
  { id := 7, ops := [{ op := .mv (.con (.sc (.bool false))) }], sets := [(2, 0)], clr := [0, 1, 3] }
def slaws_eqIntS_r7 : Reg :=
  { id := 5, ops := [{ op := .mv (.slot 3) },
      { op := .bin .add (.loc 0) (.con (.sc (.int .i64 1))) },
      { op := .mv (.loc 1) }], sets := [(3, 2)] }
def slaws_eqIntS_r8 : Reg :=
  { id := 8, ops := [{ op := .mv (.con (.sc (.bool true))) }], sets := [(2, 0)], clr := [0, 1, 3] }
def slaws_eqIntS_b : SC := .seq (.reg slaws_eqIntS_r0) (.seq (.seq (.reg slaws_eqIntS_r1) (.cond 4 (.seq (.reg slaws_eqIntS_r2) (.ret)) (.skip))) (.seq (.seq (.reg slaws_eqIntS_r3) (.block 0 (.loop (.seq (.seq (.reg slaws_eqIntS_r4) (.cond 5 (.skip) (.exit 0))) (.seq (.block 1 (.seq (.reg slaws_eqIntS_r5) (.cond 6 (.seq (.reg slaws_eqIntS_r6) (.ret)) (.skip)))) (.reg slaws_eqIntS_r7)))))) (.seq (.reg slaws_eqIntS_r8) (.ret))))
def slaws_eqIntS : SFn := { nslots := 7, nobjs := 0, params := [0, 1], ngiven := 0, bor := false, takes := [], body := slaws_eqIntS_b, results := [.slot 2] }
def slaws_eqIntS_t : List Tmp := [0, 1, 4, 5, 10, 14, 25]
attribute [simp] slaws_eqIntS_r0 slaws_eqIntS_r1 slaws_eqIntS_r2 slaws_eqIntS_r3 slaws_eqIntS_r4 slaws_eqIntS_r5 slaws_eqIntS_r6 slaws_eqIntS_r7 slaws_eqIntS_r8 slaws_eqIntS_b slaws_eqIntS
def slaws_eqEndpoint_r0 : Reg :=
  { id := 0, ops := [{ op := .box 0 (.slot 0) },
      { op := .box 1 (.slot 1) },
      { op := .mv (.con (.sc (.bool false))) }], sets := [(2, 0), (3, 1)], clr := [0, 1, 4] }
def slaws_eqEndpoint_r1 : Reg :=
  { id := 1, ops := [{ op := .fieldAddr (.slot 2) 0 },
      { op := .load none (.loc 0) },
      { op := .fieldAddr (.slot 3) 0 },
      { op := .load none (.loc 2) },
      { op := .call 47 [(false, .loc 1), (false, .loc 3)] [] },
      { op := .un .not (.loc 4) }], sets := [(5, 5)] }
def slaws_eqEndpoint_r2 : Reg :=
  { id := 2, ops := [{ op := .mv (.con (.sc (.bool false))) }], sets := [(4, 0)], clr := [2, 3] }
def slaws_eqEndpoint_r3 : Reg :=
  { id := 3, ops := [{ op := .fieldAddr (.slot 2) 1 },
      { op := .load none (.loc 0) },
      { op := .fieldAddr (.slot 3) 1 },
      { op := .load none (.loc 2) },
      { op := .call 47 [(false, .loc 1), (false, .loc 3)] [] },
      { op := .un .not (.loc 4) }], sets := [(6, 5)] }
def slaws_eqEndpoint_r4 : Reg :=
  { id := 4, ops := [{ op := .mv (.con (.sc (.bool false))) }], sets := [(4, 0)], clr := [2, 3] }
def slaws_eqEndpoint_r5 : Reg :=
  { id := 5, ops := [{ op := .fieldAddr (.slot 2) 2 },
      { op := .load none (.loc 0) },
      { op := .fieldAddr (.slot 3) 2 },
      { op := .load none (.loc 2) },
      { op := .call 204 [(false, .loc 1), (false, .loc 3)] [] },
      { op := .un .not (.loc 4) }], sets := [(7, 5)] }
def slaws_eqEndpoint_r6 : Reg :=
  { id := 6, ops := [{ op := .mv (.con (.sc (.bool false))) }], sets := [(4, 0)], clr := [2, 3] }
def slaws_eqEndpoint_r7 : Reg :=
  { id := 7, ops := [{ op := .fieldAddr (.slot 2) 3 },
      { op := .load none (.loc 0) },
      { op := .fieldAddr (.slot 3) 3 },
      { op := .load none (.loc 2) },
      { op := .bin .neq (.loc 1) (.loc 3) }], sets := [(8, 4)], clr := [2, 3] }
def slaws_eqEndpoint_r8 : Reg :=
  { id := 8, ops := [{ op := .mv (.con (.sc (.bool false))) }], sets := [(4, 0)] }
def slaws_eqEndpoint_r9 : Reg :=
  { id := 9, ops := [{ op := .mv (.con (.sc (.bool true))) }], sets := [(4, 0)] }
def slaws_eqEndpoint_b : SC := .seq (.reg slaws_eqEndpoint_r0) (.seq (.seq (.reg slaws_eqEndpoint_r1) (.cond 5 (.seq (.reg slaws_eqEndpoint_r2) (.ret)) (.skip))) (.seq (.seq (.reg slaws_eqEndpoint_r3) (.cond 6 (.seq (.reg slaws_eqEndpoint_r4) (.ret)) (.skip))) (.seq (.seq (.reg slaws_eqEndpoint_r5) (.cond 7 (.seq (.reg slaws_eqEndpoint_r6) (.ret)) (.skip))) (.seq (.seq (.reg slaws_eqEndpoint_r7) (.cond 8 (.seq (.reg slaws_eqEndpoint_r8) (.ret)) (.skip))) (.seq (.reg slaws_eqEndpoint_r9) (.ret))))))
def slaws_eqEndpoint : SFn := { nslots := 9, nobjs := 2, params := [0, 1], ngiven := 0, bor := false, takes := [], body := slaws_eqEndpoint_b, results := [.slot 4] }
def slaws_eqEndpoint_t : List Tmp := [0, 1, 2, 3, 4, 10, 16, 22, 27]
attribute [simp] slaws_eqEndpoint_r0 slaws_eqEndpoint_r1 slaws_eqEndpoint_r2 slaws_eqEndpoint_r3 slaws_eqEndpoint_r4 slaws_eqEndpoint_r5 slaws_eqEndpoint_r6 slaws_eqEndpoint_r7 slaws_eqEndpoint_r8 slaws_eqEndpoint_r9 slaws_eqEndpoint_b slaws_eqEndpoint
def slaws_markIntS_r0 : Reg :=
  { id := 0, ops := [{ op := .mv (.con (.sc (.int .i64 0))) }], clr := [2] }
def slaws_markIntS_r1 : Reg :=
  { id := 1, ops := [{ op := .mv (.con (.sc (.int .i64 0))) }], sets := [(3, 0)] }
def slaws_markIntS_r2 : Reg :=
  { id := 2, ops := [{ op := .mv (.slot 3) },
      { op := .mv (.slot 0) },
      { op := .len false (.loc 1) },
      { op := .bin .lss (.loc 0) (.loc 2) }], sets := [(4, 3)] }
def slaws_markIntS_r3 : Reg :=
  { id := 4, ops := [{ op := .mv (.slot 0) },
      { op := .mv (.slot 3) },
      { op := .mv (.slot 1) },
      { op := .indexAddr 1 (.loc 0) (.loc 1) },
      { op := .store 1 (.loc 3) (.loc 2) }] }
def slaws_markIntS_r4 : Reg :=
  { id := 5, ops := [{ op := .mv (.slot 1) },
      { op := .bin .add (.loc 0) (.con (.sc (.int .i64 1))) },
      { op := .mv (.loc 1) }], sets := [(1, 2)] }
def slaws_markIntS_r5 : Reg :=
  { id := 3, ops := [{ op := .mv (.slot 3) },
      { op := .bin .add (.loc 0) (.con (.sc (.int .i64 1))) },
      { op := .mv (.loc 1) }], sets := [(3, 2)] }
def slaws_markIntS_r6 : Reg :=
  { id := 6, ops := [{ op := .mv (.slot 1) },
      { op := .mv (.loc 0) }], sets := [(2, 1)], clr := [0, 1, 3] }
def slaws_markIntS_b : SC := .seq (.reg slaws_markIntS_r0) (.seq (.seq (.reg slaws_markIntS_r1) (.block 0 (.loop (.seq (.seq (.reg slaws_markIntS_r2) (.cond 4 (.skip) (.exit 0))) (.seq (.block 1 (.seq (.reg slaws_markIntS_r3) (.reg slaws_markIntS_r4))) (.reg slaws_markIntS_r5)))))) (.seq (.reg slaws_markIntS_r6) (.ret)))
def slaws_markIntS : SFn := { nslots := 5, nobjs := 1, params := [0, 1], ngiven := 1, bor := false, takes := [], body := slaws_markIntS_b, results := [.slot 2] }
def slaws_markIntS_t : List Tmp := [0, 1, 4, 5, 9]
attribute [simp] slaws_markIntS_r0 slaws_markIntS_r1 slaws_markIntS_r2 slaws_markIntS_r3 slaws_markIntS_r4 slaws_markIntS_r5 slaws_markIntS_r6 slaws_markIntS_b slaws_markIntS
def slaws_markBoxS_r0 : Reg :=
  { id := 0, ops := [{ op := .mv (.con (.sc (.int .i64 0))) }], clr := [2] }
def slaws_markBoxS_r1 : Reg :=
  { id := 1, ops := [{ op := .mv (.con (.sc (.int .i64 0))) }], sets := [(3, 0)] }
def slaws_markBoxS_r2 : Reg :=
  { id := 2, ops := [{ op := .mv (.slot 3) },
      { op := .mv (.slot 0) },
      { op := .len false (.loc 1) },
      { op := .bin .lss (.loc 0) (.loc 2) }], sets := [(4, 3)] }
def slaws_markBoxS_r3 : Reg :=
  { id := 4, ops := [{ op := .mv (.slot 0) },
      { op := .mv (.slot 3) },
      { op := .mv (.slot 1) },
      { op := .indexAddr 4 (.loc 0) (.loc 1) },
      { op := .fieldAddr (.loc 3) 0 },
      { op := .store 1 (.loc 4) (.loc 2) }] }
def slaws_markBoxS_r4 : Reg :=
  { id := 5, ops := [{ op := .mv (.slot 1) },
      { op := .bin .add (.loc 0) (.con (.sc (.int .i64 1))) },
      { op := .mv (.loc 1) }], sets := [(1, 2)] }
def slaws_markBoxS_r5 : Reg :=
  { id := 6, fresh := [1], ops := [{ op := .mv (.slot 0) },
      { op := .mv (.slot 3) },
      { op := .indexAddr 4 (.loc 0) (.loc 1) },
      { op := .fieldAddr (.loc 2) 1 },
      { op := .take 1 (.loc 3) },
      { op := .mv (.slot 1) },
      { op := .call 52 [(true, .loc 4), (false, .loc 5)] [] },
      { op := .mv (.loc 6) }], sets := [(1, 7)], ghosts := [.untake 1] }
def slaws_markBoxS_r6 : Reg :=
  { id := 7, fresh := [2], ops := [{ op := .mv (.slot 0) },
      { op := .mv (.slot 3) },
      { op := .indexAddr 4 (.loc 0) (.loc 1) },
      { op := .fieldAddr (.loc 2) 2 },
      { op := .take 2 (.loc 3) },
      { op := .mv (.slot 1) },
      { op := .call 52 [(true, .loc 4), (false, .loc 5)] [] },
      { op := .mv (.loc 6) }], sets := [(1, 7)], ghosts := [.untake 2] }
def slaws_markBoxS_r7 : Reg :=
  { id := 8, ops := [{ op := .mv (.slot 0) },
      { op := .mv (.slot 3) },
      { op := .mv (.slot 1) },
      { op := .bin .rem (.loc 2) (.con (.sc (.int .i64 3))) },
      { op := .bin .eql (.loc 3) (.con (.sc (.int .i64 0))) },
      { op := .indexAddr 4 (.loc 0) (.loc 1) },
      { op := .fieldAddr (.loc 5) 3 },
      { op := .store 1 (.loc 6) (.loc 4) }] }
def slaws_markBoxS_r8 : Reg :=
  { id := 9, ops := [{ op := .mv (.slot 1) },
      { op := .bin .add (.loc 0) (.con (.sc (.int .i64 1))) },
      { op := .mv (.loc 1) }], sets := [(1, 2)] }
def slaws_markBoxS_r9 : Reg :=
  { id := 3, ops := [{ op := .mv (.slot 3) },
      { op := .bin .add (.loc 0) (.con (.sc (.int .i64 1))) },
      { op := .mv (.loc 1) }], sets := [(3, 2)] }
def slaws_markBoxS_r10 : Reg :=
  { id := 10, ops := [{ op := .mv (.slot 1) },
      { op := .mv (.loc 0) }], sets := [(2, 1)], clr := [0, 1, 3] }
def slaws_markBoxS_b : SC := .seq (.reg slaws_markBoxS_r0) (.seq (.seq (.reg slaws_markBoxS_r1) (.block 0 (.loop (.seq (.seq (.reg slaws_markBoxS_r2) (.cond 4 (.skip) (.exit 0))) (.seq (.block 1 (.seq (.reg slaws_markBoxS_r3) (.seq (.reg slaws_markBoxS_r4) (.seq (.reg slaws_markBoxS_r5) (.seq (.reg slaws_markBoxS_r6) (.seq (.reg slaws_markBoxS_r7) (.reg slaws_markBoxS_r8))))))) (.reg slaws_markBoxS_r9)))))) (.seq (.reg slaws_markBoxS_r10) (.ret)))
def slaws_markBoxS : SFn := { nslots := 5, nobjs := 3, params := [0, 1], ngiven := 1, bor := false, takes := [1, 2], body := slaws_markBoxS_b, results := [.slot 2] }
def slaws_markBoxS_t : List Tmp := [0, 1, 4, 5, 9]
attribute [simp] slaws_markBoxS_r0 slaws_markBoxS_r1 slaws_markBoxS_r2 slaws_markBoxS_r3 slaws_markBoxS_r4 slaws_markBoxS_r5 slaws_markBoxS_r6 slaws_markBoxS_r7 slaws_markBoxS_r8 slaws_markBoxS_r9 slaws_markBoxS_r10 slaws_markBoxS_b slaws_markBoxS
def slaws_heldIntS_r0 : Reg :=
  { id := 0, ops := [{ op := .mv (.con (.sc (.int .i64 0))) }], clr := [2] }
def slaws_heldIntS_r1 : Reg :=
  { id := 1, ops := [{ op := .mv (.con (.sc (.int .i64 0))) }], sets := [(3, 0)] }
def slaws_heldIntS_r2 : Reg :=
  { id := 2, ops := [{ op := .mv (.slot 3) },
      { op := .mv (.slot 0) },
      { op := .len false (.loc 1) },
      { op := .bin .lss (.loc 0) (.loc 2) }], sets := [(4, 3)] }
def slaws_heldIntS_r3 : Reg :=
  { id := 4, ops := [{ op := .mv (.slot 0) },
      { op := .mv (.slot 3) },
      { op := .indexAddr 1 (.loc 0) (.loc 1) },
      { op := .load none (.loc 2) },
      { op := .mv (.slot 1) },
      { op := .bin .neq (.loc 3) (.loc 4) }], sets := [(5, 5)] }
def slaws_heldIntS_r4 : Reg :=
  { id := 5, ops := [{ op := .mv (.con (.sc (.int .i64 (-1)))) }], sets := [(2, 0)], clr := [0, 1, 3] }
def slaws_heldIntS_r5 : Reg :=
  { id := 6, ops := [{ op := .mv (.slot 1) },
      { op := .bin .add (.loc 0) (.con (.sc (.int .i64 1))) },
      { op := .mv (.loc 1) }], sets := [(1, 2)] }
def slaws_heldIntS_r6 : Reg :=
  { id := 3, ops := [{ op := .mv (.slot 3) },
      { op := .bin .add (.loc 0) (.con (.sc (.int .i64 1))) },
      { op := .mv (.loc 1) }], sets := [(3, 2)] }
def slaws_heldIntS_r7 : Reg :=
  { id := 7, ops := [{ op := .mv (.slot 1) },
      { op := .mv (.loc 0) }], sets := [(2, 1)], clr := [0, 1, 3] }
def slaws_heldIntS_b : SC := .seq (.reg slaws_heldIntS_r0) (.seq (.seq (.reg slaws_heldIntS_r1) (.block 0 (.loop (.seq (.seq (.reg slaws_heldIntS_r2) (.cond 4 (.skip) (.exit 0))) (.seq (.block 1 (.seq (.seq (.reg slaws_heldIntS_r3) (.cond 5 (.seq (.reg slaws_heldIntS_r4) (.ret)) (.skip))) (.reg slaws_heldIntS_r5))) (.reg slaws_heldIntS_r6)))))) (.seq (.reg slaws_heldIntS_r7) (.ret)))
def slaws_heldIntS : SFn := { nslots := 6, nobjs := 0, params := [0, 1], ngiven := 0, bor := false, takes := [], body := slaws_heldIntS_b, results := [.slot 2] }
def slaws_heldIntS_t : List Tmp := [0, 1, 4, 5, 9, 17]
attribute [simp] slaws_heldIntS_r0 slaws_heldIntS_r1 slaws_heldIntS_r2 slaws_heldIntS_r3 slaws_heldIntS_r4 slaws_heldIntS_r5 slaws_heldIntS_r6 slaws_heldIntS_r7 slaws_heldIntS_b slaws_heldIntS
def slaws_heldBoxS_r0 : Reg :=
  { id := 0, ops := [{ op := .mv (.con (.sc (.int .i64 0))) }], clr := [2] }
def slaws_heldBoxS_r1 : Reg :=
  { id := 1, ops := [{ op := .mv (.con (.sc (.int .i64 0))) }], sets := [(3, 0)] }
def slaws_heldBoxS_r2 : Reg :=
  { id := 2, ops := [{ op := .mv (.slot 3) },
      { op := .mv (.slot 0) },
      { op := .len false (.loc 1) },
      { op := .bin .lss (.loc 0) (.loc 2) }], sets := [(4, 3)] }
def slaws_heldBoxS_r3 : Reg :=
  { id := 4, ops := [{ op := .mv (.slot 0) },
      { op := .mv (.slot 3) },
      { op := .indexAddr 4 (.loc 0) (.loc 1) },
      { op := .fieldAddr (.loc 2) 0 },
      { op := .load none (.loc 3) },
      { op := .mv (.slot 1) },
      { op := .bin .neq (.loc 4) (.loc 5) }], sets := [(5, 6)] }
def slaws_heldBoxS_r4 : Reg :=
  { id := 5, ops := [{ op := .mv (.con (.sc (.int .i64 (-1)))) }], sets := [(2, 0)], clr := [0, 1, 3] }
def slaws_heldBoxS_r5 : Reg :=
  { id := 6, ops := [{ op := .mv (.slot 1) },
      { op := .bin .add (.loc 0) (.con (.sc (.int .i64 1))) },
      { op := .mv (.loc 1) }], sets := [(1, 2)] }
def slaws_heldBoxS_r6 : Reg :=
  { id := 7, ops := [{ op := .mv (.slot 0) },
      { op := .mv (.slot 3) },
      { op := .indexAddr 4 (.loc 0) (.loc 1) },
      { op := .fieldAddr (.loc 2) 1 },
      { op := .load none (.loc 3) },
      { op := .mv (.slot 1) },
      { op := .call 57 [(false, .loc 4), (false, .loc 5)] [] },
      { op := .mv (.loc 6) }], sets := [(1, 7)] }
def slaws_heldBoxS_r7 : Reg :=
  { id := 8, ops := [{ op := .mv (.slot 1) },
      { op := .bin .lss (.loc 0) (.con (.sc (.int .i64 0))) }], sets := [(6, 1)] }
def slaws_heldBoxS_r8 : Reg :=
  { id := 9, ops := [{ op := .mv (.con (.sc (.int .i64 (-1)))) }], sets := [(2, 0)], clr := [0, 1, 3] }
def slaws_heldBoxS_r9 : Reg :=
  { id := 10, ops := [{ op := .mv (.slot 0) },
      { op := .mv (.slot 3) },
      { op := .indexAddr 4 (.loc 0) (.loc 1) },
      { op := .fieldAddr (.loc 2) 2 },
      { op := .load none (.loc 3) },
      { op := .mv (.slot 1) },
      { op := .call 57 [(false, .loc 4), (false, .loc 5)] [] },
      { op := .mv (.loc 6) }], sets := [(1, 7)] }
def slaws_heldBoxS_r10 : Reg :=
  { id := 11, ops := [{ op := .mv (.slot 1) },
      { op := .bin .lss (.loc 0) (.con (.sc (.int .i64 0))) }], sets := [(7, 1)] }
def slaws_heldBoxS_r11 : Reg :=
  { id := 12, ops := [{ op := .mv (.con (.sc (.int .i64 (-1)))) }], sets := [(2, 0)], clr := [0, 1, 3] }
def slaws_heldBoxS_r12 : Reg :=
  { id := 13, ops := [{ op := .mv (.slot 0) },
      { op := .mv (.slot 3) },
      { op := .indexAddr 4 (.loc 0) (.loc 1) },
      { op := .fieldAddr (.loc 2) 3 },
      { op := .load none (.loc 3) },
      { op := .mv (.slot 1) },
      { op := .bin .rem (.loc 5) (.con (.sc (.int .i64 3))) },
      { op := .bin .eql (.loc 6) (.con (.sc (.int .i64 0))) },
      { op := .beq true (.loc 4) (.loc 7) }], sets := [(8, 8)] }
def slaws_heldBoxS_r13 : Reg :=
  { id := 14, ops := [{ op := .mv (.con (.sc (.int .i64 (-1)))) }], sets := [(2, 0)], clr := [0, 1, 3] }
def slaws_heldBoxS_r14 : Reg :=
  { id := 15, ops := [{ op := .mv (.slot 1) },
      { op := .bin .add (.loc 0) (.con (.sc (.int .i64 1))) },
      { op := .mv (.loc 1) }], sets := [(1, 2)] }
def slaws_heldBoxS_r15 : Reg :=
  { id := 3, ops := [{ op := .mv (.slot 3) },
      { op := .bin .add (.loc 0) (.con (.sc (.int .i64 1))) },
      { op := .mv (.loc 1) }], sets := [(3, 2)] }
def slaws_heldBoxS_r16 : Reg :=
  { id := 16, ops := [{ op := .mv (.slot 1) },
      { op := .mv (.loc 0) }], sets := [(2, 1)], clr := [0, 1, 3] }
def slaws_heldBoxS_b : SC := .seq (.reg slaws_heldBoxS_r0) (.seq (.seq (.reg slaws_heldBoxS_r1) (.block 0 (.loop (.seq (.seq (.reg slaws_heldBoxS_r2) (.cond 4 (.skip) (.exit 0))) (.seq (.block 1 (.seq (.seq (.reg slaws_heldBoxS_r3) (.cond 5 (.seq (.reg slaws_heldBoxS_r4) (.ret)) (.skip))) (.seq (.reg slaws_heldBoxS_r5) (.seq (.reg slaws_heldBoxS_r6) (.seq (.seq (.reg slaws_heldBoxS_r7) (.cond 6 (.seq (.reg slaws_heldBoxS_r8) (.ret)) (.skip))) (.seq (.reg slaws_heldBoxS_r9) (.seq (.seq (.reg slaws_heldBoxS_r10) (.cond 7 (.seq (.reg slaws_heldBoxS_r11) (.ret)) (.skip))) (.seq (.seq (.reg slaws_heldBoxS_r12) (.cond 8 (.seq (.reg slaws_heldBoxS_r13) (.ret)) (.skip))) (.reg slaws_heldBoxS_r14))))))))) (.reg slaws_heldBoxS_r15)))))) (.seq (.reg slaws_heldBoxS_r16) (.ret)))
def slaws_heldBoxS : SFn := { nslots := 9, nobjs := 0, params := [0, 1], ngiven := 0, bor := false, takes := [], body := slaws_heldBoxS_b, results := [.slot 2] }
def slaws_heldBoxS_t : List Tmp := [0, 1, 4, 5, 9, 18, 29, 38, 47]
attribute [simp] slaws_heldBoxS_r0 slaws_heldBoxS_r1 slaws_heldBoxS_r2 slaws_heldBoxS_r3 slaws_heldBoxS_r4 slaws_heldBoxS_r5 slaws_heldBoxS_r6 slaws_heldBoxS_r7 slaws_heldBoxS_r8 slaws_heldBoxS_r9 slaws_heldBoxS_r10 slaws_heldBoxS_r11 slaws_heldBoxS_r12 slaws_heldBoxS_r13 slaws_heldBoxS_r14 slaws_heldBoxS_r15 slaws_heldBoxS_r16 slaws_heldBoxS_b slaws_heldBoxS
def slaws_szBox_r0 : Reg :=
  { id := 0, ops := [{ op := .box 0 (.slot 0) },
      { op := .mv (.con (.sc (.int .i64 0))) }], sets := [(2, 0)], clr := [0, 3] }
def slaws_szBox_r1 : Reg :=
  { id := 1, ops := [{ op := .fieldAddr (.slot 2) 1 },
      { op := .load none (.loc 0) },
      { op := .mv (.slot 1) },
      { op := .call 16 [(false, .loc 1), (false, .loc 2)] [] },
      { op := .mv (.loc 3) }], sets := [(1, 4)] }
def slaws_szBox_r2 : Reg :=
  { id := 2, ops := [{ op := .mv (.slot 1) },
      { op := .bin .lss (.loc 0) (.con (.sc (.int .i64 0))) }], sets := [(4, 1)] }
def slaws_szBox_r3 : Reg :=
  { id := 3, ops := [{ op := .mv (.con (.sc (.int .i64 (-1)))) }], sets := [(3, 0)], clr := [1, 2] }
def slaws_szBox_r4 : Reg :=
  { id := 4, ops := [{ op := .fieldAddr (.slot 2) 2 },
      { op := .load none (.loc 0) },
      { op := .mv (.slot 1) },
      { op := .call 16 [(false, .loc 1), (false, .loc 2)] [] },
      { op := .mv (.loc 3) }], sets := [(1, 4)], clr := [2] }
def slaws_szBox_r5 : Reg :=
  { id := 5, ops := [{ op := .mv (.slot 1) },
      { op := .bin .lss (.loc 0) (.con (.sc (.int .i64 0))) }], sets := [(5, 1)] }
def slaws_szBox_r6 : Reg :=
  { id := 6, ops := [{ op := .mv (.con (.sc (.int .i64 (-1)))) }], sets := [(3, 0)], clr := [1] }
def slaws_szBox_r7 : Reg :=
  { id := 7, ops := [{ op := .mv (.slot 1) },
      { op := .mv (.loc 0) }], sets := [(3, 1)], clr := [1] }
def slaws_szBox_b : SC := .seq (.reg slaws_szBox_r0) (.seq (.reg slaws_szBox_r1) (.seq (.seq (.reg slaws_szBox_r2) (.cond 4 (.seq (.reg slaws_szBox_r3) (.ret)) (.skip))) (.seq (.reg slaws_szBox_r4) (.seq (.seq (.reg slaws_szBox_r5) (.cond 5 (.seq (.reg slaws_szBox_r6) (.ret)) (.skip))) (.seq (.reg slaws_szBox_r7) (.ret))))))
def slaws_szBox : SFn := { nslots := 6, nobjs := 1, params := [0, 1], ngiven := 0, bor := false, takes := [], body := slaws_szBox_b, results := [.slot 3] }
def slaws_szBox_t : List Tmp := [0, 1, 2, 4, 10, 16]
attribute [simp] slaws_szBox_r0 slaws_szBox_r1 slaws_szBox_r2 slaws_szBox_r3 slaws_szBox_r4 slaws_szBox_r5 slaws_szBox_r6 slaws_szBox_r7 slaws_szBox_b slaws_szBox
def slaws_toBox_r0 : Reg :=
  { id := 0, ops := [{ op := .box 0 (.slot 0) },
      { op := .alloc 1 [.sc (.int .i64 0), .nil 1, .nil 1, .sc (.bool false)] }], sets := [(1, 0), (2, 1)], clr := [0] }
def slaws_toBox_r1 : Reg :=
  { id := 1, ops := [{ op := .alloc 2 [.sc (.int .i64 0), .nil 1, .nil 1, .sc (.bool false)] }], sets := [(3, 0)] }
def slaws_toBox_r2 : Reg :=
  { id := 2, ops := [{ op := .fieldAddr (.slot 1) 0 },
      { op := .load none (.loc 0) },
      { op := .fieldAddr (.slot 3) 0 },
      { op := .store 1 (.loc 2) (.loc 1) }] }
def slaws_toBox_r3 : Reg :=
  { id := 3, ops := [{ op := .fieldAddr (.slot 1) 1 },
      { op := .load none (.loc 0) },
      { op := .call 31 [(false, .loc 1)] [3] },
      { op := .fieldAddr (.slot 3) 1 },
      { op := .store 1 (.loc 3) (.loc 2) }] }
def slaws_toBox_r4 : Reg :=
  { id := 4, ops := [{ op := .fieldAddr (.slot 1) 2 },
      { op := .load none (.loc 0) },
      { op := .call 31 [(false, .loc 1)] [4] },
      { op := .fieldAddr (.slot 3) 2 },
      { op := .store 1 (.loc 3) (.loc 2) }] }
def slaws_toBox_r5 : Reg :=
  { id := 5, ops := [{ op := .fieldAddr (.slot 1) 3 },
      { op := .load none (.loc 0) },
      { op := .fieldAddr (.slot 3) 3 },
      { op := .store 1 (.loc 2) (.loc 1) }], clr := [1] }
def slaws_toBox_r6 : Reg :=
  { id := 6, ops := [{ op := .load (some 4) (.slot 3) },
      { op := .store 4 (.slot 2) (.loc 0) }], clr := [3] }
def slaws_toBox_b : SC := .seq (.reg slaws_toBox_r0) (.seq (.reg slaws_toBox_r1) (.seq (.reg slaws_toBox_r2) (.seq (.reg slaws_toBox_r3) (.seq (.reg slaws_toBox_r4) (.seq (.reg slaws_toBox_r5) (.seq (.reg slaws_toBox_r6) (.ret)))))))
def slaws_toBox : SFn := { nslots := 4, nobjs := 5, params := [0], ngiven := 0, bor := false, takes := [], body := slaws_toBox_b, results := [.cell 2 (some 4)] }
def slaws_toBox_t : List Tmp := [0, 1, 2, 3]
attribute [simp] slaws_toBox_r0 slaws_toBox_r1 slaws_toBox_r2 slaws_toBox_r3 slaws_toBox_r4 slaws_toBox_r5 slaws_toBox_r6 slaws_toBox_b slaws_toBox
def slaws_eqBox_r0 : Reg :=
  { id := 0, ops := [{ op := .box 0 (.slot 0) },
      { op := .box 1 (.slot 1) },
      { op := .mv (.con (.sc (.bool false))) }], sets := [(2, 0), (3, 1)], clr := [0, 1, 4] }
def slaws_eqBox_r1 : Reg :=
  { id := 1, ops := [{ op := .fieldAddr (.slot 2) 0 },
      { op := .load none (.loc 0) },
      { op := .fieldAddr (.slot 3) 0 },
      { op := .load none (.loc 2) },
      { op := .bin .neq (.loc 1) (.loc 3) }], sets := [(5, 4)] }
def slaws_eqBox_r2 : Reg :=
  { id := 2, ops := [{ op := .mv (.con (.sc (.bool false))) }], sets := [(4, 0)], clr := [2, 3] }
def slaws_eqBox_r3 : Reg :=
  { id := 3, ops := [{ op := .fieldAddr (.slot 2) 1 },
      { op := .load none (.loc 0) },
      { op := .fieldAddr (.slot 3) 1 },
      { op := .load none (.loc 2) },
      { op := .call 47 [(false, .loc 1), (false, .loc 3)] [] },
      { op := .un .not (.loc 4) }], sets := [(6, 5)] }
def slaws_eqBox_r4 : Reg :=
  { id := 4, ops := [{ op := .mv (.con (.sc (.bool false))) }], sets := [(4, 0)], clr := [2, 3] }
def slaws_eqBox_r5 : Reg :=
  { id := 5, ops := [{ op := .fieldAddr (.slot 2) 2 },
      { op := .load none (.loc 0) },
      { op := .fieldAddr (.slot 3) 2 },
      { op := .load none (.loc 2) },
      { op := .call 47 [(false, .loc 1), (false, .loc 3)] [] },
      { op := .un .not (.loc 4) }], sets := [(7, 5)] }
def slaws_eqBox_r6 : Reg :=
  { id := 6, ops := [{ op := .mv (.con (.sc (.bool false))) }], sets := [(4, 0)], clr := [2, 3] }
def slaws_eqBox_r7 : Reg :=
  { id := 7, ops := [{ op := .fieldAddr (.slot 2) 3 },
      { op := .load none (.loc 0) },
      { op := .fieldAddr (.slot 3) 3 },
      { op := .load none (.loc 2) },
      { op := .beq true (.loc 1) (.loc 3) }], sets := [(8, 4)], clr := [2, 3] }
def slaws_eqBox_r8 : Reg :=
  { id := 8, ops := [{ op := .mv (.con (.sc (.bool false))) }], sets := [(4, 0)] }
def slaws_eqBox_r9 : Reg :=
  { id := 9, ops := [{ op := .mv (.con (.sc (.bool true))) }], sets := [(4, 0)] }
def slaws_eqBox_b : SC := .seq (.reg slaws_eqBox_r0) (.seq (.seq (.reg slaws_eqBox_r1) (.cond 5 (.seq (.reg slaws_eqBox_r2) (.ret)) (.skip))) (.seq (.seq (.reg slaws_eqBox_r3) (.cond 6 (.seq (.reg slaws_eqBox_r4) (.ret)) (.skip))) (.seq (.seq (.reg slaws_eqBox_r5) (.cond 7 (.seq (.reg slaws_eqBox_r6) (.ret)) (.skip))) (.seq (.seq (.reg slaws_eqBox_r7) (.cond 8 (.seq (.reg slaws_eqBox_r8) (.ret)) (.skip))) (.seq (.reg slaws_eqBox_r9) (.ret))))))
def slaws_eqBox : SFn := { nslots := 9, nobjs := 2, params := [0, 1], ngiven := 0, bor := false, takes := [], body := slaws_eqBox_b, results := [.slot 4] }
def slaws_eqBox_t : List Tmp := [0, 1, 2, 3, 4, 9, 15, 21, 26]
attribute [simp] slaws_eqBox_r0 slaws_eqBox_r1 slaws_eqBox_r2 slaws_eqBox_r3 slaws_eqBox_r4 slaws_eqBox_r5 slaws_eqBox_r6 slaws_eqBox_r7 slaws_eqBox_r8 slaws_eqBox_r9 slaws_eqBox_b slaws_eqBox
def slaws_eqBoxS_r0 : Reg :=
  { id := 0, ops := [{ op := .mv (.con (.sc (.bool false))) }], clr := [2] }
def slaws_eqBoxS_r1 : Reg :=
  { id := 1, ops := [{ op := .mv (.slot 0) },
      { op := .len false (.loc 0) },
      { op := .mv (.slot 1) },
      { op := .len false (.loc 2) },
      { op := .bin .neq (.loc 1) (.loc 3) }], sets := [(4, 4)] }
def slaws_eqBoxS_r2 : Reg :=
  { id := 2, ops := [{ op := .mv (.con (.sc (.bool false))) }], sets := [(2, 0)], clr := [0, 1] }
def slaws_eqBoxS_r3 : Reg :=
  { id := 3, ops := [{ op := .mv (.con (.sc (.int .i64 0))) }], sets := [(3, 0)] }
def slaws_eqBoxS_r4 : Reg :=
  { id := 4, ops := [{ op := .mv (.slot 3) },
      { op := .mv (.slot 0) },
      { op := .len false (.loc 1) },
      { op := .bin .lss (.loc 0) (.loc 2) }], sets := [(5, 3)] }
def slaws_eqBoxS_r5 : Reg :=
  { id := 6, draw := true, ops := [{ op := .mv (.slot 0), tau := some [], om := [] },
      { op := .mv (.slot 3), tau := some [], om := [] },
      { op := .indexAddr 4 (.loc 0) (.loc 1), tau := some [], om := [] },
      { op := .load (some 4) (.loc 2), tau := some [], om := [] },
      { op := .mv (.slot 1), tau := some [], om := [] },
      { op := .mv (.slot 3), tau := some [], om := [] },
      { op := .indexAddr 4 (.loc 4) (.loc 5), tau := some [], om := [] },
      { op := .load (some 4) (.loc 6), tau := some [], om := [] },
      { op := .call 249 [(false, .loc 3), (false, .loc 7)] [], tau := some [], om := [] },
      { op := .un .not (.loc 8), tau := some [], om := [] }], sets := [(6, 9)] }
def slaws_eqBoxS_r6 : Reg :=
  { id := 7, ops := [{ op := .mv (.con (.sc (.bool false))) }], sets := [(2, 0)], clr := [0, 1, 3] }
def slaws_eqBoxS_r7 : Reg :=
  { id := 5, ops := [{ op := .mv (.slot 3) },
      { op := .bin .add (.loc 0) (.con (.sc (.int .i64 1))) },
      { op := .mv (.loc 1) }], sets := [(3, 2)] }
def slaws_eqBoxS_r8 : Reg :=
  { id := 8, ops := [{ op := .mv (.con (.sc (.bool true))) }], sets := [(2, 0)], clr := [0, 1, 3] }
def slaws_eqBoxS_b : SC := .seq (.reg slaws_eqBoxS_r0) (.seq (.seq (.reg slaws_eqBoxS_r1) (.cond 4 (.seq (.reg slaws_eqBoxS_r2) (.ret)) (.skip))) (.seq (.seq (.reg slaws_eqBoxS_r3) (.block 0 (.loop (.seq (.seq (.reg slaws_eqBoxS_r4) (.cond 5 (.skip) (.exit 0))) (.seq (.block 1 (.seq (.reg slaws_eqBoxS_r5) (.cond 6 (.seq (.reg slaws_eqBoxS_r6) (.ret)) (.skip)))) (.reg slaws_eqBoxS_r7)))))) (.seq (.reg slaws_eqBoxS_r8) (.ret))))
def slaws_eqBoxS : SFn := { nslots := 7, nobjs := 0, params := [0, 1], ngiven := 0, bor := false, takes := [], body := slaws_eqBoxS_b, results := [.slot 2] }
def slaws_eqBoxS_t : List Tmp := [0, 1, 4, 5, 10, 14, 26]
attribute [simp] slaws_eqBoxS_r0 slaws_eqBoxS_r1 slaws_eqBoxS_r2 slaws_eqBoxS_r3 slaws_eqBoxS_r4 slaws_eqBoxS_r5 slaws_eqBoxS_r6 slaws_eqBoxS_r7 slaws_eqBoxS_r8 slaws_eqBoxS_b slaws_eqBoxS
def slaws_szWorld_r0 : Reg :=
  { id := 0, ops := [{ op := .box 0 (.slot 0) },
      { op := .mv (.con (.sc (.int .i64 0))) }], sets := [(2, 0)], clr := [0, 3] }
def slaws_szWorld_r1 : Reg :=
  { id := 1, ops := [{ op := .fieldAddr (.slot 2) 0 },
      { op := .load none (.loc 0) },
      { op := .mv (.slot 1) },
      { op := .call 16 [(false, .loc 1), (false, .loc 2)] [] },
      { op := .mv (.loc 3) }], sets := [(1, 4)] }
def slaws_szWorld_r2 : Reg :=
  { id := 2, ops := [{ op := .mv (.slot 1) },
      { op := .bin .lss (.loc 0) (.con (.sc (.int .i64 0))) }], sets := [(4, 1)] }
def slaws_szWorld_r3 : Reg :=
  { id := 3, ops := [{ op := .mv (.con (.sc (.int .i64 (-1)))) }], sets := [(3, 0)], clr := [1, 2] }
def slaws_szWorld_r4 : Reg :=
  { id := 4, ops := [{ op := .fieldAddr (.slot 2) 1 },
      { op := .load none (.loc 0) },
      { op := .mv (.slot 1) },
      { op := .call 16 [(false, .loc 1), (false, .loc 2)] [] },
      { op := .mv (.loc 3) }], sets := [(1, 4)] }
def slaws_szWorld_r5 : Reg :=
  { id := 5, ops := [{ op := .mv (.slot 1) },
      { op := .bin .lss (.loc 0) (.con (.sc (.int .i64 0))) }], sets := [(5, 1)] }
def slaws_szWorld_r6 : Reg :=
  { id := 6, ops := [{ op := .mv (.con (.sc (.int .i64 (-1)))) }], sets := [(3, 0)], clr := [1, 2] }
def slaws_szWorld_r7 : Reg :=
  { id := 7, ops := [{ op := .fieldAddr (.slot 2) 3 },
      { op := .load none (.loc 0) },
      { op := .mv (.slot 1) },
      { op := .call 17 [(false, .loc 1), (false, .loc 2)] [] },
      { op := .mv (.loc 3) }], sets := [(1, 4)] }
def slaws_szWorld_r8 : Reg :=
  { id := 8, ops := [{ op := .mv (.slot 1) },
      { op := .bin .lss (.loc 0) (.con (.sc (.int .i64 0))) }], sets := [(6, 1)] }
def slaws_szWorld_r9 : Reg :=
  { id := 9, ops := [{ op := .mv (.con (.sc (.int .i64 (-1)))) }], sets := [(3, 0)], clr := [1, 2] }
def slaws_szWorld_r10 : Reg :=
  { id := 10, ops := [{ op := .fieldAddr (.slot 2) 4 },
      { op := .load (some 4) (.loc 0) },
      { op := .mv (.slot 1) },
      { op := .call 18 [(false, .loc 1), (false, .loc 2)] [] },
      { op := .mv (.loc 3) }], sets := [(1, 4)] }
def slaws_szWorld_r11 : Reg :=
  { id := 11, ops := [{ op := .mv (.slot 1) },
      { op := .bin .lss (.loc 0) (.con (.sc (.int .i64 0))) }], sets := [(7, 1)] }
def slaws_szWorld_r12 : Reg :=
  { id := 12, ops := [{ op := .mv (.con (.sc (.int .i64 (-1)))) }], sets := [(3, 0)], clr := [1, 2] }
def slaws_szWorld_r13 : Reg :=
  { id := 13, ops := [{ op := .fieldAddr (.slot 2) 10 },
      { op := .load none (.loc 0) },
      { op := .mv (.slot 1) },
      { op := .call 19 [(false, .loc 1), (false, .loc 2)] [] },
      { op := .mv (.loc 3) }], sets := [(1, 4)] }
def slaws_szWorld_r14 : Reg :=
  { id := 14, ops := [{ op := .mv (.slot 1) },
      { op := .bin .lss (.loc 0) (.con (.sc (.int .i64 0))) }], sets := [(8, 1)] }
def slaws_szWorld_r15 : Reg :=
  { id := 15, ops := [{ op := .mv (.con (.sc (.int .i64 (-1)))) }], sets := [(3, 0)], clr := [1, 2] }
def slaws_szWorld_r16 : Reg :=
  { id := 16, ops := [{ op := .fieldAddr (.slot 2) 11 },
      { op := .load none (.loc 0) },
      { op := .mv (.slot 1) },
      { op := .call 20 [(false, .loc 1), (false, .loc 2)] [] },
      { op := .mv (.loc 3) }], sets := [(1, 4)], clr := [2] }
def slaws_szWorld_r17 : Reg :=
  { id := 17, ops := [{ op := .mv (.slot 1) },
      { op := .bin .lss (.loc 0) (.con (.sc (.int .i64 0))) }], sets := [(9, 1)] }
def slaws_szWorld_r18 : Reg :=
  { id := 18, ops := [{ op := .mv (.con (.sc (.int .i64 (-1)))) }], sets := [(3, 0)], clr := [1] }
def slaws_szWorld_r19 : Reg :=
  { id := 19, ops := [{ op := .mv (.slot 1) },
      { op := .mv (.loc 0) }], sets := [(3, 1)], clr := [1] }
def slaws_szWorld_b : SC := .seq (.reg slaws_szWorld_r0) (.seq (.reg slaws_szWorld_r1) (.seq (.seq (.reg slaws_szWorld_r2) (.cond 4 (.seq (.reg slaws_szWorld_r3) (.ret)) (.skip))) (.seq (.reg slaws_szWorld_r4) (.seq (.seq (.reg slaws_szWorld_r5) (.cond 5 (.seq (.reg slaws_szWorld_r6) (.ret)) (.skip))) (.seq (.reg slaws_szWorld_r7) (.seq (.seq (.reg slaws_szWorld_r8) (.cond 6 (.seq (.reg slaws_szWorld_r9) (.ret)) (.skip))) (.seq (.reg slaws_szWorld_r10) (.seq (.seq (.reg slaws_szWorld_r11) (.cond 7 (.seq (.reg slaws_szWorld_r12) (.ret)) (.skip))) (.seq (.reg slaws_szWorld_r13) (.seq (.seq (.reg slaws_szWorld_r14) (.cond 8 (.seq (.reg slaws_szWorld_r15) (.ret)) (.skip))) (.seq (.reg slaws_szWorld_r16) (.seq (.seq (.reg slaws_szWorld_r17) (.cond 9 (.seq (.reg slaws_szWorld_r18) (.ret)) (.skip))) (.seq (.reg slaws_szWorld_r19) (.ret))))))))))))))
def slaws_szWorld : SFn := { nslots := 10, nobjs := 1, params := [0, 1], ngiven := 0, bor := false, takes := [], body := slaws_szWorld_b, results := [.slot 3] }
def slaws_szWorld_t : List Tmp := [0, 1, 2, 4, 10, 16, 22, 28, 34, 40]
attribute [simp] slaws_szWorld_r0 slaws_szWorld_r1 slaws_szWorld_r2 slaws_szWorld_r3 slaws_szWorld_r4 slaws_szWorld_r5 slaws_szWorld_r6 slaws_szWorld_r7 slaws_szWorld_r8 slaws_szWorld_r9 slaws_szWorld_r10 slaws_szWorld_r11 slaws_szWorld_r12 slaws_szWorld_r13 slaws_szWorld_r14 slaws_szWorld_r15 slaws_szWorld_r16 slaws_szWorld_r17 slaws_szWorld_r18 slaws_szWorld_r19 slaws_szWorld_b slaws_szWorld
def slaws_toWorld_r0 : Reg :=
  { id := 0, ops := [{ op := .box 0 (.slot 0) },
      { op := .alloc 1 [.nil 1, .nil 1, .sc (.int .i64 0), .nil 4, .sc (.int .i64 0), .nil 1, .sc (.int .i64 0), .sc (.bool false), .sc (.int .i64 0), .sc (.int .i64 0), .nil 5, .nil 8, .sc (.int .i64 0), .sc (.int .i64 0), .sc (.int .i64 0)] }], sets := [(1, 0), (2, 1)], clr := [0] }
def slaws_toWorld_r1 : Reg :=
  { id := 1, ops := [{ op := .alloc 2 [.nil 1, .nil 1, .sc (.int .i64 0), .nil 4, .sc (.int .i64 0), .nil 1, .sc (.int .i64 0), .sc (.bool false), .sc (.int .i64 0), .sc (.int .i64 0), .nil 5, .nil 8, .sc (.int .i64 0), .sc (.int .i64 0), .sc (.int .i64 0)] }], sets := [(3, 0)] }
def slaws_toWorld_r2 : Reg :=
  { id := 2, ops := [{ op := .fieldAddr (.slot 1) 0 },
      { op := .load none (.loc 0) },
      { op := .call 31 [(false, .loc 1)] [3] },
      { op := .fieldAddr (.slot 3) 0 },
      { op := .store 1 (.loc 3) (.loc 2) }] }
def slaws_toWorld_r3 : Reg :=
  { id := 3, ops := [{ op := .fieldAddr (.slot 1) 1 },
      { op := .load none (.loc 0) },
      { op := .call 31 [(false, .loc 1)] [4] },
      { op := .fieldAddr (.slot 3) 1 },
      { op := .store 1 (.loc 3) (.loc 2) }] }
def slaws_toWorld_r4 : Reg :=
  { id := 4, ops := [{ op := .fieldAddr (.slot 1) 2 },
      { op := .load none (.loc 0) },
      { op := .fieldAddr (.slot 3) 2 },
      { op := .store 1 (.loc 2) (.loc 1) }] }
def slaws_toWorld_r5 : Reg :=
  { id := 5, ops := [{ op := .fieldAddr (.slot 1) 3 },
      { op := .load none (.loc 0) },
      { op := .call 32 [(false, .loc 1)] [5] },
      { op := .fieldAddr (.slot 3) 3 },
      { op := .store 1 (.loc 3) (.loc 2) }] }
def slaws_toWorld_r6 : Reg :=
  { id := 6, ops := [{ op := .fieldAddr (.slot 1) 4 },
      { op := .load (some 4) (.loc 0) },
      { op := .call 33 [(false, .loc 1)] [6] },
      { op := .fieldAddr (.slot 3) 4 },
      { op := .store 4 (.loc 3) (.loc 2) }] }
def slaws_toWorld_r7 : Reg :=
  { id := 7, ops := [{ op := .fieldAddr (.slot 1) 8 },
      { op := .load none (.loc 0) },
      { op := .fieldAddr (.slot 3) 8 },
      { op := .store 1 (.loc 2) (.loc 1) }] }
def slaws_toWorld_r8 : Reg :=
  { id := 8, ops := [{ op := .fieldAddr (.slot 1) 9 },
      { op := .load none (.loc 0) },
      { op := .fieldAddr (.slot 3) 9 },
      { op := .store 1 (.loc 2) (.loc 1) }] }
def slaws_toWorld_r9 : Reg :=
  { id := 9, ops := [{ op := .fieldAddr (.slot 1) 10 },
      { op := .load none (.loc 0) },
      { op := .call 34 [(false, .loc 1)] [7] },
      { op := .fieldAddr (.slot 3) 10 },
      { op := .store 1 (.loc 3) (.loc 2) }] }
def slaws_toWorld_r10 : Reg :=
  { id := 10, ops := [{ op := .fieldAddr (.slot 1) 11 },
      { op := .load none (.loc 0) },
      { op := .call 35 [(false, .loc 1)] [8] },
      { op := .fieldAddr (.slot 3) 11 },
      { op := .store 1 (.loc 3) (.loc 2) }] }
def slaws_toWorld_r11 : Reg :=
  { id := 11, ops := [{ op := .fieldAddr (.slot 1) 12 },
      { op := .load none (.loc 0) },
      { op := .fieldAddr (.slot 3) 12 },
      { op := .store 1 (.loc 2) (.loc 1) }] }
def slaws_toWorld_r12 : Reg :=
  { id := 12, ops := [{ op := .fieldAddr (.slot 1) 13 },
      { op := .load none (.loc 0) },
      { op := .fieldAddr (.slot 3) 13 },
      { op := .store 1 (.loc 2) (.loc 1) }] }
def slaws_toWorld_r13 : Reg :=
  { id := 13, ops := [{ op := .fieldAddr (.slot 1) 14 },
      { op := .load none (.loc 0) },
      { op := .fieldAddr (.slot 3) 14 },
      { op := .store 1 (.loc 2) (.loc 1) }], clr := [1] }
def slaws_toWorld_r14 : Reg :=
  { id := 14, ops := [{ op := .load (some 15) (.slot 3) },
      { op := .store 15 (.slot 2) (.loc 0) }], clr := [3] }
def slaws_toWorld_b : SC := .seq (.reg slaws_toWorld_r0) (.seq (.reg slaws_toWorld_r1) (.seq (.reg slaws_toWorld_r2) (.seq (.reg slaws_toWorld_r3) (.seq (.reg slaws_toWorld_r4) (.seq (.reg slaws_toWorld_r5) (.seq (.reg slaws_toWorld_r6) (.seq (.reg slaws_toWorld_r7) (.seq (.reg slaws_toWorld_r8) (.seq (.reg slaws_toWorld_r9) (.seq (.reg slaws_toWorld_r10) (.seq (.reg slaws_toWorld_r11) (.seq (.reg slaws_toWorld_r12) (.seq (.reg slaws_toWorld_r13) (.seq (.reg slaws_toWorld_r14) (.ret)))))))))))))))
def slaws_toWorld : SFn := { nslots := 4, nobjs := 9, params := [0], ngiven := 0, bor := false, takes := [], body := slaws_toWorld_b, results := [.cell 2 (some 15)] }
def slaws_toWorld_t : List Tmp := [0, 1, 2, 3]
attribute [simp] slaws_toWorld_r0 slaws_toWorld_r1 slaws_toWorld_r2 slaws_toWorld_r3 slaws_toWorld_r4 slaws_toWorld_r5 slaws_toWorld_r6 slaws_toWorld_r7 slaws_toWorld_r8 slaws_toWorld_r9 slaws_toWorld_r10 slaws_toWorld_r11 slaws_toWorld_r12 slaws_toWorld_r13 slaws_toWorld_r14 slaws_toWorld_b slaws_toWorld
def slaws_eqWorld_r0 : Reg :=
  { id := 0, ops := [{ op := .box 0 (.slot 0) },
      { op := .box 1 (.slot 1) },
      { op := .mv (.con (.sc (.bool false))) }], sets := [(2, 0), (3, 1)], clr := [0, 1, 4] }
def slaws_eqWorld_r1 : Reg :=
  { id := 1, ops := [{ op := .fieldAddr (.slot 2) 0 },
      { op := .load none (.loc 0) },
      { op := .fieldAddr (.slot 3) 0 },
      { op := .load none (.loc 2) },
      { op := .call 47 [(false, .loc 1), (false, .loc 3)] [] },
      { op := .un .not (.loc 4) }], sets := [(5, 5)] }
def slaws_eqWorld_r2 : Reg :=
  { id := 2, ops := [{ op := .mv (.con (.sc (.bool false))) }], sets := [(4, 0)], clr := [2, 3] }
def slaws_eqWorld_r3 : Reg :=
  { id := 3, ops := [{ op := .fieldAddr (.slot 2) 1 },
      { op := .load none (.loc 0) },
      { op := .fieldAddr (.slot 3) 1 },
      { op := .load none (.loc 2) },
      { op := .call 47 [(false, .loc 1), (false, .loc 3)] [] },
      { op := .un .not (.loc 4) }], sets := [(6, 5)] }
def slaws_eqWorld_r4 : Reg :=
  { id := 4, ops := [{ op := .mv (.con (.sc (.bool false))) }], sets := [(4, 0)], clr := [2, 3] }
def slaws_eqWorld_r5 : Reg :=
  { id := 5, ops := [{ op := .fieldAddr (.slot 2) 2 },
      { op := .load none (.loc 0) },
      { op := .fieldAddr (.slot 3) 2 },
      { op := .load none (.loc 2) },
      { op := .bin .neq (.loc 1) (.loc 3) }], sets := [(7, 4)] }
def slaws_eqWorld_r6 : Reg :=
  { id := 6, ops := [{ op := .mv (.con (.sc (.bool false))) }], sets := [(4, 0)], clr := [2, 3] }
def slaws_eqWorld_r7 : Reg :=
  { id := 7, ops := [{ op := .fieldAddr (.slot 2) 3 },
      { op := .load none (.loc 0) },
      { op := .fieldAddr (.slot 3) 3 },
      { op := .load none (.loc 2) },
      { op := .call 48 [(false, .loc 1), (false, .loc 3)] [] },
      { op := .un .not (.loc 4) }], sets := [(8, 5)] }
def slaws_eqWorld_r8 : Reg :=
  { id := 8, ops := [{ op := .mv (.con (.sc (.bool false))) }], sets := [(4, 0)], clr := [2, 3] }
def slaws_eqWorld_r9 : Reg :=
  { id := 9, ops := [{ op := .fieldAddr (.slot 2) 4 },
      { op := .load (some 4) (.loc 0) },
      { op := .fieldAddr (.slot 3) 4 },
      { op := .load (some 4) (.loc 2) },
      { op := .call 49 [(false, .loc 1), (false, .loc 3)] [] },
      { op := .un .not (.loc 4) }], sets := [(9, 5)] }
def slaws_eqWorld_r10 : Reg :=
  { id := 10, ops := [{ op := .mv (.con (.sc (.bool false))) }], sets := [(4, 0)], clr := [2, 3] }
def slaws_eqWorld_r11 : Reg :=
  { id := 11, ops := [{ op := .fieldAddr (.slot 2) 8 },
      { op := .load none (.loc 0) },
      { op := .fieldAddr (.slot 3) 8 },
      { op := .load none (.loc 2) },
      { op := .bin .neq (.loc 1) (.loc 3) }], sets := [(10, 4)] }
def slaws_eqWorld_r12 : Reg :=
  { id := 12, ops := [{ op := .mv (.con (.sc (.bool false))) }], sets := [(4, 0)], clr := [2, 3] }
def slaws_eqWorld_r13 : Reg :=
  { id := 13, ops := [{ op := .fieldAddr (.slot 2) 9 },
      { op := .load none (.loc 0) },
      { op := .fieldAddr (.slot 3) 9 },
      { op := .load none (.loc 2) },
      { op := .bin .neq (.loc 1) (.loc 3) }], sets := [(11, 4)] }
def slaws_eqWorld_r14 : Reg :=
  { id := 14, ops := [{ op := .mv (.con (.sc (.bool false))) }], sets := [(4, 0)], clr := [2, 3] }
def slaws_eqWorld_r15 : Reg :=
  { id := 15, ops := [{ op := .fieldAddr (.slot 2) 10 },
      { op := .load none (.loc 0) },
      { op := .fieldAddr (.slot 3) 10 },
      { op := .load none (.loc 2) },
      { op := .call 50 [(false, .loc 1), (false, .loc 3)] [] },
      { op := .un .not (.loc 4) }], sets := [(12, 5)] }
def slaws_eqWorld_r16 : Reg :=
  { id := 16, ops := [{ op := .mv (.con (.sc (.bool false))) }], sets := [(4, 0)], clr := [2, 3] }
def slaws_eqWorld_r17 : Reg :=
  { id := 17, ops := [{ op := .fieldAddr (.slot 2) 11 },
      { op := .load none (.loc 0) },
      { op := .fieldAddr (.slot 3) 11 },
      { op := .load none (.loc 2) },
      { op := .call 51 [(false, .loc 1), (false, .loc 3)] [] },
      { op := .un .not (.loc 4) }], sets := [(13, 5)] }
def slaws_eqWorld_r18 : Reg :=
  { id := 18, ops := [{ op := .mv (.con (.sc (.bool false))) }], sets := [(4, 0)], clr := [2, 3] }
def slaws_eqWorld_r19 : Reg :=
  { id := 19, ops := [{ op := .fieldAddr (.slot 2) 12 },
      { op := .load none (.loc 0) },
      { op := .fieldAddr (.slot 3) 12 },
      { op := .load none (.loc 2) },
      { op := .bin .neq (.loc 1) (.loc 3) }], sets := [(14, 4)] }
def slaws_eqWorld_r20 : Reg :=
  { id := 20, ops := [{ op := .mv (.con (.sc (.bool false))) }], sets := [(4, 0)], clr := [2, 3] }
def slaws_eqWorld_r21 : Reg :=
  { id := 21, ops := [{ op := .fieldAddr (.slot 2) 13 },
      { op := .load none (.loc 0) },
      { op := .fieldAddr (.slot 3) 13 },
      { op := .load none (.loc 2) },
      { op := .bin .neq (.loc 1) (.loc 3) }], sets := [(15, 4)] }
def slaws_eqWorld_r22 : Reg :=
  { id := 22, ops := [{ op := .mv (.con (.sc (.bool false))) }], sets := [(4, 0)], clr := [2, 3] }
def slaws_eqWorld_r23 : Reg :=
  { id := 23, ops := [{ op := .fieldAddr (.slot 2) 14 },
      { op := .load none (.loc 0) },
      { op := .fieldAddr (.slot 3) 14 },
      { op := .load none (.loc 2) },
      { op := .bin .neq (.loc 1) (.loc 3) }], sets := [(16, 4)], clr := [2, 3] }
def slaws_eqWorld_r24 : Reg :=
  { id := 24, ops := [{ op := .mv (.con (.sc (.bool false))) }], sets := [(4, 0)] }
def slaws_eqWorld_r25 : Reg :=
  { id := 25, ops := [{ op := .mv (.con (.sc (.bool true))) }], sets := [(4, 0)] }
def slaws_eqWorld_b : SC := .seq (.reg slaws_eqWorld_r0) (.seq (.seq (.reg slaws_eqWorld_r1) (.cond 5 (.seq (.reg slaws_eqWorld_r2) (.ret)) (.skip))) (.seq (.seq (.reg slaws_eqWorld_r3) (.cond 6 (.seq (.reg slaws_eqWorld_r4) (.ret)) (.skip))) (.seq (.seq (.reg slaws_eqWorld_r5) (.cond 7 (.seq (.reg slaws_eqWorld_r6) (.ret)) (.skip))) (.seq (.seq (.reg slaws_eqWorld_r7) (.cond 8 (.seq (.reg slaws_eqWorld_r8) (.ret)) (.skip))) (.seq (.seq (.reg slaws_eqWorld_r9) (.cond 9 (.seq (.reg slaws_eqWorld_r10) (.ret)) (.skip))) (.seq (.seq (.reg slaws_eqWorld_r11) (.cond 10 (.seq (.reg slaws_eqWorld_r12) (.ret)) (.skip))) (.seq (.seq (.reg slaws_eqWorld_r13) (.cond 11 (.seq (.reg slaws_eqWorld_r14) (.ret)) (.skip))) (.seq (.seq (.reg slaws_eqWorld_r15) (.cond 12 (.seq (.reg slaws_eqWorld_r16) (.ret)) (.skip))) (.seq (.seq (.reg slaws_eqWorld_r17) (.cond 13 (.seq (.reg slaws_eqWorld_r18) (.ret)) (.skip))) (.seq (.seq (.reg slaws_eqWorld_r19) (.cond 14 (.seq (.reg slaws_eqWorld_r20) (.ret)) (.skip))) (.seq (.seq (.reg slaws_eqWorld_r21) (.cond 15 (.seq (.reg slaws_eqWorld_r22) (.ret)) (.skip))) (.seq (.seq (.reg slaws_eqWorld_r23) (.cond 16 (.seq (.reg slaws_eqWorld_r24) (.ret)) (.skip))) (.seq (.reg slaws_eqWorld_r25) (.ret))))))))))))))
def slaws_eqWorld : SFn := { nslots := 17, nobjs := 2, params := [0, 1], ngiven := 0, bor := false, takes := [], body := slaws_eqWorld_b, results := [.slot 4] }
def slaws_eqWorld_t : List Tmp := [0, 1, 2, 3, 4, 10, 16, 21, 27, 33, 38, 43, 49, 55, 60, 65, 70]
attribute [simp] slaws_eqWorld_r0 slaws_eqWorld_r1 slaws_eqWorld_r2 slaws_eqWorld_r3 slaws_eqWorld_r4 slaws_eqWorld_r5 slaws_eqWorld_r6 slaws_eqWorld_r7 slaws_eqWorld_r8 slaws_eqWorld_r9 slaws_eqWorld_r10 slaws_eqWorld_r11 slaws_eqWorld_r12 slaws_eqWorld_r13 slaws_eqWorld_r14 slaws_eqWorld_r15 slaws_eqWorld_r16 slaws_eqWorld_r17 slaws_eqWorld_r18 slaws_eqWorld_r19 slaws_eqWorld_r20 slaws_eqWorld_r21 slaws_eqWorld_r22 slaws_eqWorld_r23 slaws_eqWorld_r24 slaws_eqWorld_r25 slaws_eqWorld_b slaws_eqWorld
def slaws_szEndpointS_r0 : Reg :=
  { id := 0, ops := [{ op := .mv (.con (.sc (.int .i64 0))) }], clr := [2] }
def slaws_szEndpointS_r1 : Reg :=
  { id := 1, ops := [{ op := .mv (.slot 1) },
      { op := .mv (.slot 0) },
      { op := .len false (.loc 1) },
      { op := .bin .sub (.loc 0) (.loc 2) },
      { op := .mv (.loc 3) }], sets := [(1, 4)] }
def slaws_szEndpointS_r2 : Reg :=
  { id := 2, ops := [{ op := .mv (.slot 1) },
      { op := .bin .lss (.loc 0) (.con (.sc (.int .i64 0))) }], sets := [(4, 1)] }
def slaws_szEndpointS_r3 : Reg :=
  { id := 3, ops := [{ op := .mv (.con (.sc (.int .i64 (-1)))) }], sets := [(2, 0)], clr := [0, 1] }
def slaws_szEndpointS_r4 : Reg :=
  { id := 4, ops := [{ op := .mv (.con (.sc (.int .i64 0))) }], sets := [(3, 0)] }
def slaws_szEndpointS_r5 : Reg :=
  { id := 5, ops := [{ op := .mv (.slot 3) },
      { op := .mv (.slot 0) },
      { op := .len false (.loc 1) },
      { op := .bin .lss (.loc 0) (.loc 2) }], sets := [(5, 3)] }
def slaws_szEndpointS_r6 : Reg :=
  { id := 7, ops := [{ op := .mv (.slot 0) },
      { op := .mv (.slot 3) },
      { op := .indexAddr 4 (.loc 0) (.loc 1) },
      { op := .load (some 4) (.loc 2) },
      { op := .mv (.slot 1) },
      { op := .call 62 [(false, .loc 3), (false, .loc 4)] [] },
      { op := .mv (.loc 5) }], sets := [(1, 6)] }
def slaws_szEndpointS_r7 : Reg :=
  { id := 8, ops := [{ op := .mv (.slot 1) },
      { op := .bin .lss (.loc 0) (.con (.sc (.int .i64 0))) }], sets := [(6, 1)] }
def slaws_szEndpointS_r8 : Reg :=
  { id := 9, ops := [{ op := .mv (.con (.sc (.int .i64 (-1)))) }], sets := [(2, 0)], clr := [0, 1, 3] }
def slaws_szEndpointS_r9 : Reg :=
  { id := 6, ops := [{ op := .mv (.slot 3) },
      { op := .bin .add (.loc 0) (.con (.sc (.int .i64 1))) },
      { op := .mv (.loc 1) }], sets := [(3, 2)] }
def slaws_szEndpointS_r10 : Reg :=
  { id := 10, ops := [{ op := .mv (.slot 1) },
      { op := .mv (.loc 0) }], sets := [(2, 1)], clr := [0, 1, 3] }
def slaws_szEndpointS_b : SC := .seq (.reg slaws_szEndpointS_r0) (.seq (.reg slaws_szEndpointS_r1) (.seq (.seq (.reg slaws_szEndpointS_r2) (.cond 4 (.seq (.reg slaws_szEndpointS_r3) (.ret)) (.skip))) (.seq (.seq (.reg slaws_szEndpointS_r4) (.block 0 (.loop (.seq (.seq (.reg slaws_szEndpointS_r5) (.cond 5 (.skip) (.exit 0))) (.seq (.block 1 (.seq (.reg slaws_szEndpointS_r6) (.seq (.reg slaws_szEndpointS_r7) (.cond 6 (.seq (.reg slaws_szEndpointS_r8) (.ret)) (.skip))))) (.reg slaws_szEndpointS_r9)))))) (.seq (.reg slaws_szEndpointS_r10) (.ret)))))
def slaws_szEndpointS : SFn := { nslots := 7, nobjs := 0, params := [0, 1], ngiven := 0, bor := false, takes := [], body := slaws_szEndpointS_b, results := [.slot 2] }
def slaws_szEndpointS_t : List Tmp := [0, 1, 4, 5, 11, 15, 25]
attribute [simp] slaws_szEndpointS_r0 slaws_szEndpointS_r1 slaws_szEndpointS_r2 slaws_szEndpointS_r3 slaws_szEndpointS_r4 slaws_szEndpointS_r5 slaws_szEndpointS_r6 slaws_szEndpointS_r7 slaws_szEndpointS_r8 slaws_szEndpointS_r9 slaws_szEndpointS_r10 slaws_szEndpointS_b slaws_szEndpointS
def slaws_szRollout_r0 : Reg :=
  { id := 0, ops := [{ op := .box 0 (.slot 0) },
      { op := .mv (.con (.sc (.int .i64 0))) }], sets := [(2, 0)], clr := [0, 3] }
def slaws_szRollout_r1 : Reg :=
  { id := 1, ops := [{ op := .fieldAddr (.slot 2) 1 },
      { op := .load none (.loc 0) },
      { op := .mv (.slot 1) },
      { op := .call 16 [(false, .loc 1), (false, .loc 2)] [] },
      { op := .mv (.loc 3) }], sets := [(1, 4)], clr := [2] }
def slaws_szRollout_r2 : Reg :=
  { id := 2, ops := [{ op := .mv (.slot 1) },
      { op := .bin .lss (.loc 0) (.con (.sc (.int .i64 0))) }], sets := [(4, 1)] }
def slaws_szRollout_r3 : Reg :=
  { id := 3, ops := [{ op := .mv (.con (.sc (.int .i64 (-1)))) }], sets := [(3, 0)], clr := [1] }
def slaws_szRollout_r4 : Reg :=
  { id := 4, ops := [{ op := .mv (.slot 1) },
      { op := .mv (.loc 0) }], sets := [(3, 1)], clr := [1] }
def slaws_szRollout_b : SC := .seq (.reg slaws_szRollout_r0) (.seq (.reg slaws_szRollout_r1) (.seq (.seq (.reg slaws_szRollout_r2) (.cond 4 (.seq (.reg slaws_szRollout_r3) (.ret)) (.skip))) (.seq (.reg slaws_szRollout_r4) (.ret))))
def slaws_szRollout : SFn := { nslots := 5, nobjs := 1, params := [0, 1], ngiven := 0, bor := false, takes := [], body := slaws_szRollout_b, results := [.slot 3] }
def slaws_szRollout_t : List Tmp := [0, 1, 2, 4, 10]
attribute [simp] slaws_szRollout_r0 slaws_szRollout_r1 slaws_szRollout_r2 slaws_szRollout_r3 slaws_szRollout_r4 slaws_szRollout_b slaws_szRollout
def slaws_szDialedS_r0 : Reg :=
  { id := 0, ops := [{ op := .mv (.con (.sc (.int .i64 0))) }], clr := [2] }
def slaws_szDialedS_r1 : Reg :=
  { id := 1, ops := [{ op := .mv (.slot 1) },
      { op := .mv (.slot 0) },
      { op := .len false (.loc 1) },
      { op := .bin .sub (.loc 0) (.loc 2) },
      { op := .mv (.loc 3) }], sets := [(1, 4)] }
def slaws_szDialedS_r2 : Reg :=
  { id := 2, ops := [{ op := .mv (.slot 1) },
      { op := .bin .lss (.loc 0) (.con (.sc (.int .i64 0))) }], sets := [(4, 1)] }
def slaws_szDialedS_r3 : Reg :=
  { id := 3, ops := [{ op := .mv (.con (.sc (.int .i64 (-1)))) }], sets := [(2, 0)], clr := [0, 1] }
def slaws_szDialedS_r4 : Reg :=
  { id := 4, ops := [{ op := .mv (.con (.sc (.int .i64 0))) }], sets := [(3, 0)] }
def slaws_szDialedS_r5 : Reg :=
  { id := 5, ops := [{ op := .mv (.slot 3) },
      { op := .mv (.slot 0) },
      { op := .len false (.loc 1) },
      { op := .bin .lss (.loc 0) (.loc 2) }], sets := [(5, 3)] }
def slaws_szDialedS_r6 : Reg :=
  { id := 7, ops := [{ op := .mv (.slot 0) },
      { op := .mv (.slot 3) },
      { op := .indexAddr 5 (.loc 0) (.loc 1) },
      { op := .load (some 5) (.loc 2) },
      { op := .mv (.slot 1) },
      { op := .call 63 [(false, .loc 3), (false, .loc 4)] [] },
      { op := .mv (.loc 5) }], sets := [(1, 6)] }
def slaws_szDialedS_r7 : Reg :=
  { id := 8, ops := [{ op := .mv (.slot 1) },
      { op := .bin .lss (.loc 0) (.con (.sc (.int .i64 0))) }], sets := [(6, 1)] }
def slaws_szDialedS_r8 : Reg :=
  { id := 9, ops := [{ op := .mv (.con (.sc (.int .i64 (-1)))) }], sets := [(2, 0)], clr := [0, 1, 3] }
def slaws_szDialedS_r9 : Reg :=
  { id := 6, ops := [{ op := .mv (.slot 3) },
      { op := .bin .add (.loc 0) (.con (.sc (.int .i64 1))) },
      { op := .mv (.loc 1) }], sets := [(3, 2)] }
def slaws_szDialedS_r10 : Reg :=
  { id := 10, ops := [{ op := .mv (.slot 1) },
      { op := .mv (.loc 0) }], sets := [(2, 1)], clr := [0, 1, 3] }
def slaws_szDialedS_b : SC := .seq (.reg slaws_szDialedS_r0) (.seq (.reg slaws_szDialedS_r1) (.seq (.seq (.reg slaws_szDialedS_r2) (.cond 4 (.seq (.reg slaws_szDialedS_r3) (.ret)) (.skip))) (.seq (.seq (.reg slaws_szDialedS_r4) (.block 0 (.loop (.seq (.seq (.reg slaws_szDialedS_r5) (.cond 5 (.skip) (.exit 0))) (.seq (.block 1 (.seq (.reg slaws_szDialedS_r6) (.seq (.reg slaws_szDialedS_r7) (.cond 6 (.seq (.reg slaws_szDialedS_r8) (.ret)) (.skip))))) (.reg slaws_szDialedS_r9)))))) (.seq (.reg slaws_szDialedS_r10) (.ret)))))
def slaws_szDialedS : SFn := { nslots := 7, nobjs := 0, params := [0, 1], ngiven := 0, bor := false, takes := [], body := slaws_szDialedS_b, results := [.slot 2] }
def slaws_szDialedS_t : List Tmp := [0, 1, 4, 5, 11, 15, 25]
attribute [simp] slaws_szDialedS_r0 slaws_szDialedS_r1 slaws_szDialedS_r2 slaws_szDialedS_r3 slaws_szDialedS_r4 slaws_szDialedS_r5 slaws_szDialedS_r6 slaws_szDialedS_r7 slaws_szDialedS_r8 slaws_szDialedS_r9 slaws_szDialedS_r10 slaws_szDialedS_b slaws_szDialedS
def slaws_szLoggedS_r0 : Reg :=
  { id := 0, ops := [{ op := .mv (.con (.sc (.int .i64 0))) }], clr := [2] }
def slaws_szLoggedS_r1 : Reg :=
  { id := 1, ops := [{ op := .mv (.slot 1) },
      { op := .mv (.slot 0) },
      { op := .len false (.loc 1) },
      { op := .bin .sub (.loc 0) (.loc 2) },
      { op := .mv (.loc 3) }], sets := [(1, 4)] }
def slaws_szLoggedS_r2 : Reg :=
  { id := 2, ops := [{ op := .mv (.slot 1) },
      { op := .bin .lss (.loc 0) (.con (.sc (.int .i64 0))) }], sets := [(4, 1)] }
def slaws_szLoggedS_r3 : Reg :=
  { id := 3, ops := [{ op := .mv (.con (.sc (.int .i64 (-1)))) }], sets := [(2, 0)], clr := [0, 1] }
def slaws_szLoggedS_r4 : Reg :=
  { id := 4, ops := [{ op := .mv (.con (.sc (.int .i64 0))) }], sets := [(3, 0)] }
def slaws_szLoggedS_r5 : Reg :=
  { id := 5, ops := [{ op := .mv (.slot 3) },
      { op := .mv (.slot 0) },
      { op := .len false (.loc 1) },
      { op := .bin .lss (.loc 0) (.loc 2) }], sets := [(5, 3)] }
def slaws_szLoggedS_r6 : Reg :=
  { id := 7, ops := [{ op := .mv (.slot 0) },
      { op := .mv (.slot 3) },
      { op := .indexAddr 8 (.loc 0) (.loc 1) },
      { op := .load (some 8) (.loc 2) },
      { op := .mv (.slot 1) },
      { op := .call 64 [(false, .loc 3), (false, .loc 4)] [] },
      { op := .mv (.loc 5) }], sets := [(1, 6)] }
def slaws_szLoggedS_r7 : Reg :=
  { id := 8, ops := [{ op := .mv (.slot 1) },
      { op := .bin .lss (.loc 0) (.con (.sc (.int .i64 0))) }], sets := [(6, 1)] }
def slaws_szLoggedS_r8 : Reg :=
  { id := 9, ops := [{ op := .mv (.con (.sc (.int .i64 (-1)))) }], sets := [(2, 0)], clr := [0, 1, 3] }
def slaws_szLoggedS_r9 : Reg :=
  { id := 6, ops := [{ op := .mv (.slot 3) },
      { op := .bin .add (.loc 0) (.con (.sc (.int .i64 1))) },
      { op := .mv (.loc 1) }], sets := [(3, 2)] }
def slaws_szLoggedS_r10 : Reg :=
  { id := 10, ops := [{ op := .mv (.slot 1) },
      { op := .mv (.loc 0) }], sets := [(2, 1)], clr := [0, 1, 3] }
def slaws_szLoggedS_b : SC := .seq (.reg slaws_szLoggedS_r0) (.seq (.reg slaws_szLoggedS_r1) (.seq (.seq (.reg slaws_szLoggedS_r2) (.cond 4 (.seq (.reg slaws_szLoggedS_r3) (.ret)) (.skip))) (.seq (.seq (.reg slaws_szLoggedS_r4) (.block 0 (.loop (.seq (.seq (.reg slaws_szLoggedS_r5) (.cond 5 (.skip) (.exit 0))) (.seq (.block 1 (.seq (.reg slaws_szLoggedS_r6) (.seq (.reg slaws_szLoggedS_r7) (.cond 6 (.seq (.reg slaws_szLoggedS_r8) (.ret)) (.skip))))) (.reg slaws_szLoggedS_r9)))))) (.seq (.reg slaws_szLoggedS_r10) (.ret)))))
def slaws_szLoggedS : SFn := { nslots := 7, nobjs := 0, params := [0, 1], ngiven := 0, bor := false, takes := [], body := slaws_szLoggedS_b, results := [.slot 2] }
def slaws_szLoggedS_t : List Tmp := [0, 1, 4, 5, 11, 15, 25]
attribute [simp] slaws_szLoggedS_r0 slaws_szLoggedS_r1 slaws_szLoggedS_r2 slaws_szLoggedS_r3 slaws_szLoggedS_r4 slaws_szLoggedS_r5 slaws_szLoggedS_r6 slaws_szLoggedS_r7 slaws_szLoggedS_r8 slaws_szLoggedS_r9 slaws_szLoggedS_r10 slaws_szLoggedS_b slaws_szLoggedS
def slaws_toEndpointS_r0 : Reg :=
  { id := 0, ops := [{ op := .mv (.con (.nil 4)) }], clr := [1] }
def slaws_toEndpointS_r1 : Reg :=
  { id := 1, ops := [{ op := .mv (.slot 0) },
      { op := .len false (.loc 0) },
      { op := .makeSlice 0 4 80 [.sl 0 1 0 [], .sl 0 1 0 [], .sl 0 4 0 [], .sc (.int .i64 0)] (.loc 1) },
      { op := .mv (.loc 2) }], sets := [(2, 3)] }
def slaws_toEndpointS_r2 : Reg :=
  { id := 2, ops := [{ op := .mv (.con (.sc (.int .i64 0))) }], sets := [(3, 0)] }
def slaws_toEndpointS_r3 : Reg :=
  { id := 3, ops := [{ op := .mv (.slot 3) },
      { op := .mv (.slot 0) },
      { op := .len false (.loc 1) },
      { op := .bin .lss (.loc 0) (.loc 2) }], sets := [(4, 3)] }
def slaws_toEndpointS_r4 : Reg :=
  { id := 5, fresh := [1, 2, 3], ops := [{ op := .mv (.slot 2) },
      { op := .mv (.slot 3) },
      { op := .mv (.slot 0) },
      { op := .mv (.slot 3) },
      { op := .indexAddr 4 (.loc 2) (.loc 3) },
      { op := .load (some 4) (.loc 4) },
      { op := .call 98 [(false, .loc 5)] [1, 2, 3] },
      { op := .indexAddr 4 (.loc 0) (.loc 1) },
      { op := .store 4 (.loc 7) (.loc 6) }] }
def slaws_toEndpointS_r5 : Reg :=
  { id := 4, ops := [{ op := .mv (.slot 3) },
      { op := .bin .add (.loc 0) (.con (.sc (.int .i64 1))) },
      { op := .mv (.loc 1) }], sets := [(3, 2)] }
def slaws_toEndpointS_r6 : Reg :=
  { id := 6, ops := [{ op := .mv (.slot 2) },
      { op := .mv (.loc 0) }], sets := [(1, 1)], clr := [0, 2, 3] }
def slaws_toEndpointS_b : SC := .seq (.reg slaws_toEndpointS_r0) (.seq (.reg slaws_toEndpointS_r1) (.seq (.seq (.reg slaws_toEndpointS_r2) (.block 0 (.loop (.seq (.seq (.reg slaws_toEndpointS_r3) (.cond 4 (.skip) (.exit 0))) (.seq (.block 1 (.reg slaws_toEndpointS_r4)) (.reg slaws_toEndpointS_r5)))))) (.seq (.reg slaws_toEndpointS_r6) (.ret))))
def slaws_toEndpointS : SFn := { nslots := 5, nobjs := 4, params := [0], ngiven := 0, bor := false, takes := [], body := slaws_toEndpointS_b, results := [.slot 1] }
def slaws_toEndpointS_t : List Tmp := [0, 2, 3, 4, 11]
attribute [simp] slaws_toEndpointS_r0 slaws_toEndpointS_r1 slaws_toEndpointS_r2 slaws_toEndpointS_r3 slaws_toEndpointS_r4 slaws_toEndpointS_r5 slaws_toEndpointS_r6 slaws_toEndpointS_b slaws_toEndpointS
def slaws_toRollout_r0 : Reg :=
  { id := 0, ops := [{ op := .box 0 (.slot 0) },
      { op := .alloc 1 [.sc (.int .i64 0), .nil 1, .sc (.int .i64 0), .sc (.bool false)] }], sets := [(1, 0), (2, 1)], clr := [0] }
def slaws_toRollout_r1 : Reg :=
  { id := 1, ops := [{ op := .alloc 2 [.sc (.int .i64 0), .nil 1, .sc (.int .i64 0), .sc (.bool false)] }], sets := [(3, 0)] }
def slaws_toRollout_r2 : Reg :=
  { id := 2, ops := [{ op := .fieldAddr (.slot 1) 0 },
      { op := .load none (.loc 0) },
      { op := .fieldAddr (.slot 3) 0 },
      { op := .store 1 (.loc 2) (.loc 1) }] }
def slaws_toRollout_r3 : Reg :=
  { id := 3, ops := [{ op := .fieldAddr (.slot 1) 1 },
      { op := .load none (.loc 0) },
      { op := .call 31 [(false, .loc 1)] [3] },
      { op := .fieldAddr (.slot 3) 1 },
      { op := .store 1 (.loc 3) (.loc 2) }] }
def slaws_toRollout_r4 : Reg :=
  { id := 4, ops := [{ op := .fieldAddr (.slot 1) 2 },
      { op := .load none (.loc 0) },
      { op := .fieldAddr (.slot 3) 2 },
      { op := .store 1 (.loc 2) (.loc 1) }] }
def slaws_toRollout_r5 : Reg :=
  { id := 5, ops := [{ op := .fieldAddr (.slot 1) 3 },
      { op := .load none (.loc 0) },
      { op := .fieldAddr (.slot 3) 3 },
      { op := .store 1 (.loc 2) (.loc 1) }], clr := [1] }
def slaws_toRollout_r6 : Reg :=
  { id := 6, ops := [{ op := .load (some 4) (.slot 3) },
      { op := .store 4 (.slot 2) (.loc 0) }], clr := [3] }
def slaws_toRollout_b : SC := .seq (.reg slaws_toRollout_r0) (.seq (.reg slaws_toRollout_r1) (.seq (.reg slaws_toRollout_r2) (.seq (.reg slaws_toRollout_r3) (.seq (.reg slaws_toRollout_r4) (.seq (.reg slaws_toRollout_r5) (.seq (.reg slaws_toRollout_r6) (.ret)))))))
def slaws_toRollout : SFn := { nslots := 4, nobjs := 4, params := [0], ngiven := 0, bor := false, takes := [], body := slaws_toRollout_b, results := [.cell 2 (some 4)] }
def slaws_toRollout_t : List Tmp := [0, 1, 2, 3]
attribute [simp] slaws_toRollout_r0 slaws_toRollout_r1 slaws_toRollout_r2 slaws_toRollout_r3 slaws_toRollout_r4 slaws_toRollout_r5 slaws_toRollout_r6 slaws_toRollout_b slaws_toRollout
def slaws_toDialedS_r0 : Reg :=
  { id := 0, ops := [{ op := .mv (.con (.nil 5)) }], clr := [1] }
def slaws_toDialedS_r1 : Reg :=
  { id := 1, ops := [{ op := .mv (.slot 0) },
      { op := .len false (.loc 0) },
      { op := .makeSlice 0 5 72 [.sc (.bool false), .sc (.int .i64 0), .sl 0 1 0 [], .sc (.int .i64 0), .sl 0 1 0 []] (.loc 1) },
      { op := .mv (.loc 2) }], sets := [(2, 3)] }
def slaws_toDialedS_r2 : Reg :=
  { id := 2, ops := [{ op := .mv (.con (.sc (.int .i64 0))) }], sets := [(3, 0)] }
def slaws_toDialedS_r3 : Reg :=
  { id := 3, ops := [{ op := .mv (.slot 3) },
      { op := .mv (.slot 0) },
      { op := .len false (.loc 1) },
      { op := .bin .lss (.loc 0) (.loc 2) }], sets := [(4, 3)] }
def slaws_toDialedS_r4 : Reg :=
  { id := 5, fresh := [1, 2], ops := [{ op := .mv (.slot 2) },
      { op := .mv (.slot 3) },
      { op := .mv (.slot 0) },
      { op := .mv (.slot 3) },
      { op := .indexAddr 5 (.loc 2) (.loc 3) },
      { op := .load (some 5) (.loc 4) },
      { op := .call 99 [(false, .loc 5)] [1, 2] },
      { op := .indexAddr 5 (.loc 0) (.loc 1) },
      { op := .store 5 (.loc 7) (.loc 6) }] }
def slaws_toDialedS_r5 : Reg :=
  { id := 4, ops := [{ op := .mv (.slot 3) },
      { op := .bin .add (.loc 0) (.con (.sc (.int .i64 1))) },
      { op := .mv (.loc 1) }], sets := [(3, 2)] }
def slaws_toDialedS_r6 : Reg :=
  { id := 6, ops := [{ op := .mv (.slot 2) },
      { op := .mv (.loc 0) }], sets := [(1, 1)], clr := [0, 2, 3] }
def slaws_toDialedS_b : SC := .seq (.reg slaws_toDialedS_r0) (.seq (.reg slaws_toDialedS_r1) (.seq (.seq (.reg slaws_toDialedS_r2) (.block 0 (.loop (.seq (.seq (.reg slaws_toDialedS_r3) (.cond 4 (.skip) (.exit 0))) (.seq (.block 1 (.reg slaws_toDialedS_r4)) (.reg slaws_toDialedS_r5)))))) (.seq (.reg slaws_toDialedS_r6) (.ret))))
def slaws_toDialedS : SFn := { nslots := 5, nobjs := 3, params := [0], ngiven := 0, bor := false, takes := [], body := slaws_toDialedS_b, results := [.slot 1] }
def slaws_toDialedS_t : List Tmp := [0, 2, 3, 4, 11]
attribute [simp] slaws_toDialedS_r0 slaws_toDialedS_r1 slaws_toDialedS_r2 slaws_toDialedS_r3 slaws_toDialedS_r4 slaws_toDialedS_r5 slaws_toDialedS_r6 slaws_toDialedS_b slaws_toDialedS
def slaws_toLoggedS_r0 : Reg :=
  { id := 0, ops := [{ op := .mv (.con (.nil 8)) }], clr := [1] }
def slaws_toLoggedS_r1 : Reg :=
  { id := 1, ops := [{ op := .mv (.slot 0) },
      { op := .len false (.loc 0) },
      { op := .makeSlice 0 8 96 [.sc (.int .i64 0), .sc (.int .i64 0), .sc (.bool false), .sc (.bool false), .sc (.int .i64 0), .sl 0 1 0 [], .sc (.int .i64 0), .sl 0 1 0 []] (.loc 1) },
      { op := .mv (.loc 2) }], sets := [(2, 3)] }
def slaws_toLoggedS_r2 : Reg :=
  { id := 2, ops := [{ op := .mv (.con (.sc (.int .i64 0))) }], sets := [(3, 0)] }
def slaws_toLoggedS_r3 : Reg :=
  { id := 3, ops := [{ op := .mv (.slot 3) },
      { op := .mv (.slot 0) },
      { op := .len false (.loc 1) },
      { op := .bin .lss (.loc 0) (.loc 2) }], sets := [(4, 3)] }
def slaws_toLoggedS_r4 : Reg :=
  { id := 5, fresh := [1, 2], ops := [{ op := .mv (.slot 2) },
      { op := .mv (.slot 3) },
      { op := .mv (.slot 0) },
      { op := .mv (.slot 3) },
      { op := .indexAddr 8 (.loc 2) (.loc 3) },
      { op := .load (some 8) (.loc 4) },
      { op := .call 100 [(false, .loc 5)] [1, 2] },
      { op := .indexAddr 8 (.loc 0) (.loc 1) },
      { op := .store 8 (.loc 7) (.loc 6) }] }
def slaws_toLoggedS_r5 : Reg :=
  { id := 4, ops := [{ op := .mv (.slot 3) },
      { op := .bin .add (.loc 0) (.con (.sc (.int .i64 1))) },
      { op := .mv (.loc 1) }], sets := [(3, 2)] }
def slaws_toLoggedS_r6 : Reg :=
  { id := 6, ops := [{ op := .mv (.slot 2) },
      { op := .mv (.loc 0) }], sets := [(1, 1)], clr := [0, 2, 3] }
def slaws_toLoggedS_b : SC := .seq (.reg slaws_toLoggedS_r0) (.seq (.reg slaws_toLoggedS_r1) (.seq (.seq (.reg slaws_toLoggedS_r2) (.block 0 (.loop (.seq (.seq (.reg slaws_toLoggedS_r3) (.cond 4 (.skip) (.exit 0))) (.seq (.block 1 (.reg slaws_toLoggedS_r4)) (.reg slaws_toLoggedS_r5)))))) (.seq (.reg slaws_toLoggedS_r6) (.ret))))
def slaws_toLoggedS : SFn := { nslots := 5, nobjs := 3, params := [0], ngiven := 0, bor := false, takes := [], body := slaws_toLoggedS_b, results := [.slot 1] }
def slaws_toLoggedS_t : List Tmp := [0, 2, 3, 4, 11]
attribute [simp] slaws_toLoggedS_r0 slaws_toLoggedS_r1 slaws_toLoggedS_r2 slaws_toLoggedS_r3 slaws_toLoggedS_r4 slaws_toLoggedS_r5 slaws_toLoggedS_r6 slaws_toLoggedS_b slaws_toLoggedS
def slaws_eqRollout_r0 : Reg :=
  { id := 0, ops := [{ op := .box 0 (.slot 0) },
      { op := .box 1 (.slot 1) },
      { op := .mv (.con (.sc (.bool false))) }], sets := [(2, 0), (3, 1)], clr := [0, 1, 4] }
def slaws_eqRollout_r1 : Reg :=
  { id := 1, ops := [{ op := .fieldAddr (.slot 2) 0 },
      { op := .load none (.loc 0) },
      { op := .fieldAddr (.slot 3) 0 },
      { op := .load none (.loc 2) },
      { op := .bin .neq (.loc 1) (.loc 3) }], sets := [(5, 4)] }
def slaws_eqRollout_r2 : Reg :=
  { id := 2, ops := [{ op := .mv (.con (.sc (.bool false))) }], sets := [(4, 0)], clr := [2, 3] }
def slaws_eqRollout_r3 : Reg :=
  { id := 3, ops := [{ op := .fieldAddr (.slot 2) 1 },
      { op := .load none (.loc 0) },
      { op := .fieldAddr (.slot 3) 1 },
      { op := .load none (.loc 2) },
      { op := .call 47 [(false, .loc 1), (false, .loc 3)] [] },
      { op := .un .not (.loc 4) }], sets := [(6, 5)] }
def slaws_eqRollout_r4 : Reg :=
  { id := 4, ops := [{ op := .mv (.con (.sc (.bool false))) }], sets := [(4, 0)], clr := [2, 3] }
def slaws_eqRollout_r5 : Reg :=
  { id := 5, ops := [{ op := .fieldAddr (.slot 2) 2 },
      { op := .load none (.loc 0) },
      { op := .fieldAddr (.slot 3) 2 },
      { op := .load none (.loc 2) },
      { op := .bin .neq (.loc 1) (.loc 3) }], sets := [(7, 4)] }
def slaws_eqRollout_r6 : Reg :=
  { id := 6, ops := [{ op := .mv (.con (.sc (.bool false))) }], sets := [(4, 0)], clr := [2, 3] }
def slaws_eqRollout_r7 : Reg :=
  { id := 7, ops := [{ op := .fieldAddr (.slot 2) 3 },
      { op := .load none (.loc 0) },
      { op := .fieldAddr (.slot 3) 3 },
      { op := .load none (.loc 2) },
      { op := .beq true (.loc 1) (.loc 3) }], sets := [(8, 4)], clr := [2, 3] }
def slaws_eqRollout_r8 : Reg :=
  { id := 8, ops := [{ op := .mv (.con (.sc (.bool false))) }], sets := [(4, 0)] }
def slaws_eqRollout_r9 : Reg :=
  { id := 9, ops := [{ op := .mv (.con (.sc (.bool true))) }], sets := [(4, 0)] }
def slaws_eqRollout_b : SC := .seq (.reg slaws_eqRollout_r0) (.seq (.seq (.reg slaws_eqRollout_r1) (.cond 5 (.seq (.reg slaws_eqRollout_r2) (.ret)) (.skip))) (.seq (.seq (.reg slaws_eqRollout_r3) (.cond 6 (.seq (.reg slaws_eqRollout_r4) (.ret)) (.skip))) (.seq (.seq (.reg slaws_eqRollout_r5) (.cond 7 (.seq (.reg slaws_eqRollout_r6) (.ret)) (.skip))) (.seq (.seq (.reg slaws_eqRollout_r7) (.cond 8 (.seq (.reg slaws_eqRollout_r8) (.ret)) (.skip))) (.seq (.reg slaws_eqRollout_r9) (.ret))))))
def slaws_eqRollout : SFn := { nslots := 9, nobjs := 2, params := [0, 1], ngiven := 0, bor := false, takes := [], body := slaws_eqRollout_b, results := [.slot 4] }
def slaws_eqRollout_t : List Tmp := [0, 1, 2, 3, 4, 9, 15, 20, 25]
attribute [simp] slaws_eqRollout_r0 slaws_eqRollout_r1 slaws_eqRollout_r2 slaws_eqRollout_r3 slaws_eqRollout_r4 slaws_eqRollout_r5 slaws_eqRollout_r6 slaws_eqRollout_r7 slaws_eqRollout_r8 slaws_eqRollout_r9 slaws_eqRollout_b slaws_eqRollout
def slaws_eqDialedS_r0 : Reg :=
  { id := 0, ops := [{ op := .mv (.con (.sc (.bool false))) }], clr := [2] }
def slaws_eqDialedS_r1 : Reg :=
  { id := 1, ops := [{ op := .mv (.slot 0) },
      { op := .len false (.loc 0) },
      { op := .mv (.slot 1) },
      { op := .len false (.loc 2) },
      { op := .bin .neq (.loc 1) (.loc 3) }], sets := [(4, 4)] }
def slaws_eqDialedS_r2 : Reg :=
  { id := 2, ops := [{ op := .mv (.con (.sc (.bool false))) }], sets := [(2, 0)], clr := [0, 1] }
def slaws_eqDialedS_r3 : Reg :=
  { id := 3, ops := [{ op := .mv (.con (.sc (.int .i64 0))) }], sets := [(3, 0)] }
def slaws_eqDialedS_r4 : Reg :=
  { id := 4, ops := [{ op := .mv (.slot 3) },
      { op := .mv (.slot 0) },
      { op := .len false (.loc 1) },
      { op := .bin .lss (.loc 0) (.loc 2) }], sets := [(5, 3)] }
def slaws_eqDialedS_r5 : Reg :=
  { id := 6, draw := true, ops := [{ op := .mv (.slot 0), tau := some [], om := [] },
      { op := .mv (.slot 3), tau := some [], om := [] },
      { op := .indexAddr 5 (.loc 0) (.loc 1), tau := some [], om := [] },
      { op := .load (some 5) (.loc 2), tau := some [], om := [] },
      { op := .mv (.slot 1), tau := some [], om := [] },
      { op := .mv (.slot 3), tau := some [], om := [] },
      { op := .indexAddr 5 (.loc 4) (.loc 5), tau := some [], om := [] },
      { op := .load (some 5) (.loc 6), tau := some [], om := [] },
      { op := .call 135 [(false, .loc 3), (false, .loc 7)] [], tau := some [], om := [] },
      { op := .un .not (.loc 8), tau := some [], om := [] }], sets := [(6, 9)] }
def slaws_eqDialedS_r6 : Reg :=
  { id := 7, ops := [{ op := .mv (.con (.sc (.bool false))) }], sets := [(2, 0)], clr := [0, 1, 3] }
def slaws_eqDialedS_r7 : Reg :=
  { id := 5, ops := [{ op := .mv (.slot 3) },
      { op := .bin .add (.loc 0) (.con (.sc (.int .i64 1))) },
      { op := .mv (.loc 1) }], sets := [(3, 2)] }
def slaws_eqDialedS_r8 : Reg :=
  { id := 8, ops := [{ op := .mv (.con (.sc (.bool true))) }], sets := [(2, 0)], clr := [0, 1, 3] }
def slaws_eqDialedS_b : SC := .seq (.reg slaws_eqDialedS_r0) (.seq (.seq (.reg slaws_eqDialedS_r1) (.cond 4 (.seq (.reg slaws_eqDialedS_r2) (.ret)) (.skip))) (.seq (.seq (.reg slaws_eqDialedS_r3) (.block 0 (.loop (.seq (.seq (.reg slaws_eqDialedS_r4) (.cond 5 (.skip) (.exit 0))) (.seq (.block 1 (.seq (.reg slaws_eqDialedS_r5) (.cond 6 (.seq (.reg slaws_eqDialedS_r6) (.ret)) (.skip)))) (.reg slaws_eqDialedS_r7)))))) (.seq (.reg slaws_eqDialedS_r8) (.ret))))
def slaws_eqDialedS : SFn := { nslots := 7, nobjs := 0, params := [0, 1], ngiven := 0, bor := false, takes := [], body := slaws_eqDialedS_b, results := [.slot 2] }
def slaws_eqDialedS_t : List Tmp := [0, 1, 4, 5, 10, 14, 26]
attribute [simp] slaws_eqDialedS_r0 slaws_eqDialedS_r1 slaws_eqDialedS_r2 slaws_eqDialedS_r3 slaws_eqDialedS_r4 slaws_eqDialedS_r5 slaws_eqDialedS_r6 slaws_eqDialedS_r7 slaws_eqDialedS_r8 slaws_eqDialedS_b slaws_eqDialedS
def slaws_eqLoggedS_r0 : Reg :=
  { id := 0, ops := [{ op := .mv (.con (.sc (.bool false))) }], clr := [2] }
def slaws_eqLoggedS_r1 : Reg :=
  { id := 1, ops := [{ op := .mv (.slot 0) },
      { op := .len false (.loc 0) },
      { op := .mv (.slot 1) },
      { op := .len false (.loc 2) },
      { op := .bin .neq (.loc 1) (.loc 3) }], sets := [(4, 4)] }
def slaws_eqLoggedS_r2 : Reg :=
  { id := 2, ops := [{ op := .mv (.con (.sc (.bool false))) }], sets := [(2, 0)], clr := [0, 1] }
def slaws_eqLoggedS_r3 : Reg :=
  { id := 3, ops := [{ op := .mv (.con (.sc (.int .i64 0))) }], sets := [(3, 0)] }
def slaws_eqLoggedS_r4 : Reg :=
  { id := 4, ops := [{ op := .mv (.slot 3) },
      { op := .mv (.slot 0) },
      { op := .len false (.loc 1) },
      { op := .bin .lss (.loc 0) (.loc 2) }], sets := [(5, 3)] }
def slaws_eqLoggedS_r5 : Reg :=
  { id := 6, draw := true, ops := [{ op := .mv (.slot 0), tau := some [], om := [] },
      { op := .mv (.slot 3), tau := some [], om := [] },
      { op := .indexAddr 8 (.loc 0) (.loc 1), tau := some [], om := [] },
      { op := .load (some 8) (.loc 2), tau := some [], om := [] },
      { op := .mv (.slot 1), tau := some [], om := [] },
      { op := .mv (.slot 3), tau := some [], om := [] },
      { op := .indexAddr 8 (.loc 4) (.loc 5), tau := some [], om := [] },
      { op := .load (some 8) (.loc 6), tau := some [], om := [] },
      { op := .call 136 [(false, .loc 3), (false, .loc 7)] [], tau := some [], om := [] },
      { op := .un .not (.loc 8), tau := some [], om := [] }], sets := [(6, 9)] }
def slaws_eqLoggedS_r6 : Reg :=
  { id := 7, ops := [{ op := .mv (.con (.sc (.bool false))) }], sets := [(2, 0)], clr := [0, 1, 3] }
def slaws_eqLoggedS_r7 : Reg :=
  { id := 5, ops := [{ op := .mv (.slot 3) },
      { op := .bin .add (.loc 0) (.con (.sc (.int .i64 1))) },
      { op := .mv (.loc 1) }], sets := [(3, 2)] }
def slaws_eqLoggedS_r8 : Reg :=
  { id := 8, ops := [{ op := .mv (.con (.sc (.bool true))) }], sets := [(2, 0)], clr := [0, 1, 3] }
def slaws_eqLoggedS_b : SC := .seq (.reg slaws_eqLoggedS_r0) (.seq (.seq (.reg slaws_eqLoggedS_r1) (.cond 4 (.seq (.reg slaws_eqLoggedS_r2) (.ret)) (.skip))) (.seq (.seq (.reg slaws_eqLoggedS_r3) (.block 0 (.loop (.seq (.seq (.reg slaws_eqLoggedS_r4) (.cond 5 (.skip) (.exit 0))) (.seq (.block 1 (.seq (.reg slaws_eqLoggedS_r5) (.cond 6 (.seq (.reg slaws_eqLoggedS_r6) (.ret)) (.skip)))) (.reg slaws_eqLoggedS_r7)))))) (.seq (.reg slaws_eqLoggedS_r8) (.ret))))
def slaws_eqLoggedS : SFn := { nslots := 7, nobjs := 0, params := [0, 1], ngiven := 0, bor := false, takes := [], body := slaws_eqLoggedS_b, results := [.slot 2] }
def slaws_eqLoggedS_t : List Tmp := [0, 1, 4, 5, 10, 14, 26]
attribute [simp] slaws_eqLoggedS_r0 slaws_eqLoggedS_r1 slaws_eqLoggedS_r2 slaws_eqLoggedS_r3 slaws_eqLoggedS_r4 slaws_eqLoggedS_r5 slaws_eqLoggedS_r6 slaws_eqLoggedS_r7 slaws_eqLoggedS_r8 slaws_eqLoggedS_b slaws_eqLoggedS
def slaws_szEndpoint_r0 : Reg :=
  { id := 0, ops := [{ op := .box 0 (.slot 0) },
      { op := .mv (.con (.sc (.int .i64 0))) }], sets := [(2, 0)], clr := [0, 3] }
def slaws_szEndpoint_r1 : Reg :=
  { id := 1, ops := [{ op := .fieldAddr (.slot 2) 0 },
      { op := .load none (.loc 0) },
      { op := .mv (.slot 1) },
      { op := .call 16 [(false, .loc 1), (false, .loc 2)] [] },
      { op := .mv (.loc 3) }], sets := [(1, 4)] }
def slaws_szEndpoint_r2 : Reg :=
  { id := 2, ops := [{ op := .mv (.slot 1) },
      { op := .bin .lss (.loc 0) (.con (.sc (.int .i64 0))) }], sets := [(4, 1)] }
def slaws_szEndpoint_r3 : Reg :=
  { id := 3, ops := [{ op := .mv (.con (.sc (.int .i64 (-1)))) }], sets := [(3, 0)], clr := [1, 2] }
def slaws_szEndpoint_r4 : Reg :=
  { id := 4, ops := [{ op := .fieldAddr (.slot 2) 1 },
      { op := .load none (.loc 0) },
      { op := .mv (.slot 1) },
      { op := .call 16 [(false, .loc 1), (false, .loc 2)] [] },
      { op := .mv (.loc 3) }], sets := [(1, 4)] }
def slaws_szEndpoint_r5 : Reg :=
  { id := 5, ops := [{ op := .mv (.slot 1) },
      { op := .bin .lss (.loc 0) (.con (.sc (.int .i64 0))) }], sets := [(5, 1)] }
def slaws_szEndpoint_r6 : Reg :=
  { id := 6, ops := [{ op := .mv (.con (.sc (.int .i64 (-1)))) }], sets := [(3, 0)], clr := [1, 2] }
def slaws_szEndpoint_r7 : Reg :=
  { id := 7, ops := [{ op := .fieldAddr (.slot 2) 2 },
      { op := .load none (.loc 0) },
      { op := .mv (.slot 1) },
      { op := .call 139 [(false, .loc 1), (false, .loc 2)] [] },
      { op := .mv (.loc 3) }], sets := [(1, 4)], clr := [2] }
def slaws_szEndpoint_r8 : Reg :=
  { id := 8, ops := [{ op := .mv (.slot 1) },
      { op := .bin .lss (.loc 0) (.con (.sc (.int .i64 0))) }], sets := [(6, 1)] }
def slaws_szEndpoint_r9 : Reg :=
  { id := 9, ops := [{ op := .mv (.con (.sc (.int .i64 (-1)))) }], sets := [(3, 0)], clr := [1] }
def slaws_szEndpoint_r10 : Reg :=
  { id := 10, ops := [{ op := .mv (.slot 1) },
      { op := .mv (.loc 0) }], sets := [(3, 1)], clr := [1] }
def slaws_szEndpoint_b : SC := .seq (.reg slaws_szEndpoint_r0) (.seq (.reg slaws_szEndpoint_r1) (.seq (.seq (.reg slaws_szEndpoint_r2) (.cond 4 (.seq (.reg slaws_szEndpoint_r3) (.ret)) (.skip))) (.seq (.reg slaws_szEndpoint_r4) (.seq (.seq (.reg slaws_szEndpoint_r5) (.cond 5 (.seq (.reg slaws_szEndpoint_r6) (.ret)) (.skip))) (.seq (.reg slaws_szEndpoint_r7) (.seq (.seq (.reg slaws_szEndpoint_r8) (.cond 6 (.seq (.reg slaws_szEndpoint_r9) (.ret)) (.skip))) (.seq (.reg slaws_szEndpoint_r10) (.ret))))))))
def slaws_szEndpoint : SFn := { nslots := 7, nobjs := 1, params := [0, 1], ngiven := 0, bor := false, takes := [], body := slaws_szEndpoint_b, results := [.slot 3] }
def slaws_szEndpoint_t : List Tmp := [0, 1, 2, 4, 10, 16, 22]
attribute [simp] slaws_szEndpoint_r0 slaws_szEndpoint_r1 slaws_szEndpoint_r2 slaws_szEndpoint_r3 slaws_szEndpoint_r4 slaws_szEndpoint_r5 slaws_szEndpoint_r6 slaws_szEndpoint_r7 slaws_szEndpoint_r8 slaws_szEndpoint_r9 slaws_szEndpoint_r10 slaws_szEndpoint_b slaws_szEndpoint
def slaws_szLogged_r0 : Reg :=
  { id := 0, ops := [{ op := .box 0 (.slot 0) },
      { op := .mv (.con (.sc (.int .i64 0))) }], sets := [(2, 0)], clr := [0, 3] }
def slaws_szLogged_r1 : Reg :=
  { id := 1, ops := [{ op := .fieldAddr (.slot 2) 3 },
      { op := .load (some 5) (.loc 0) },
      { op := .mv (.slot 1) },
      { op := .call 63 [(false, .loc 1), (false, .loc 2)] [] },
      { op := .mv (.loc 3) }], sets := [(1, 4)], clr := [2] }
def slaws_szLogged_r2 : Reg :=
  { id := 2, ops := [{ op := .mv (.slot 1) },
      { op := .bin .lss (.loc 0) (.con (.sc (.int .i64 0))) }], sets := [(4, 1)] }
def slaws_szLogged_r3 : Reg :=
  { id := 3, ops := [{ op := .mv (.con (.sc (.int .i64 (-1)))) }], sets := [(3, 0)], clr := [1] }
def slaws_szLogged_r4 : Reg :=
  { id := 4, ops := [{ op := .mv (.slot 1) },
      { op := .mv (.loc 0) }], sets := [(3, 1)], clr := [1] }
def slaws_szLogged_b : SC := .seq (.reg slaws_szLogged_r0) (.seq (.reg slaws_szLogged_r1) (.seq (.seq (.reg slaws_szLogged_r2) (.cond 4 (.seq (.reg slaws_szLogged_r3) (.ret)) (.skip))) (.seq (.reg slaws_szLogged_r4) (.ret))))
def slaws_szLogged : SFn := { nslots := 5, nobjs := 1, params := [0, 1], ngiven := 0, bor := false, takes := [], body := slaws_szLogged_b, results := [.slot 3] }
def slaws_szLogged_t : List Tmp := [0, 1, 2, 4, 10]
attribute [simp] slaws_szLogged_r0 slaws_szLogged_r1 slaws_szLogged_r2 slaws_szLogged_r3 slaws_szLogged_r4 slaws_szLogged_b slaws_szLogged
def slaws_toEndpoint_r0 : Reg :=
  { id := 0, ops := [{ op := .box 0 (.slot 0) },
      { op := .alloc 1 [.nil 1, .nil 1, .nil 4, .sc (.int .i64 0)] }], sets := [(1, 0), (2, 1)], clr := [0] }
def slaws_toEndpoint_r1 : Reg :=
  { id := 1, ops := [{ op := .alloc 2 [.nil 1, .nil 1, .nil 4, .sc (.int .i64 0)] }], sets := [(3, 0)] }
def slaws_toEndpoint_r2 : Reg :=
  { id := 2, ops := [{ op := .fieldAddr (.slot 1) 0 },
      { op := .load none (.loc 0) },
      { op := .call 31 [(false, .loc 1)] [3] },
      { op := .fieldAddr (.slot 3) 0 },
      { op := .store 1 (.loc 3) (.loc 2) }] }
def slaws_toEndpoint_r3 : Reg :=
  { id := 3, ops := [{ op := .fieldAddr (.slot 1) 1 },
      { op := .load none (.loc 0) },
      { op := .call 31 [(false, .loc 1)] [4] },
      { op := .fieldAddr (.slot 3) 1 },
      { op := .store 1 (.loc 3) (.loc 2) }] }
def slaws_toEndpoint_r4 : Reg :=
  { id := 4, ops := [{ op := .fieldAddr (.slot 1) 2 },
      { op := .load none (.loc 0) },
      { op := .call 170 [(false, .loc 1)] [5] },
      { op := .fieldAddr (.slot 3) 2 },
      { op := .store 1 (.loc 3) (.loc 2) }] }
def slaws_toEndpoint_r5 : Reg :=
  { id := 5, ops := [{ op := .fieldAddr (.slot 1) 3 },
      { op := .load none (.loc 0) },
      { op := .fieldAddr (.slot 3) 3 },
      { op := .store 1 (.loc 2) (.loc 1) }], clr := [1] }
def slaws_toEndpoint_r6 : Reg :=
  { id := 6, ops := [{ op := .load (some 4) (.slot 3) },
      { op := .store 4 (.slot 2) (.loc 0) }], clr := [3] }
def slaws_toEndpoint_b : SC := .seq (.reg slaws_toEndpoint_r0) (.seq (.reg slaws_toEndpoint_r1) (.seq (.reg slaws_toEndpoint_r2) (.seq (.reg slaws_toEndpoint_r3) (.seq (.reg slaws_toEndpoint_r4) (.seq (.reg slaws_toEndpoint_r5) (.seq (.reg slaws_toEndpoint_r6) (.ret)))))))
def slaws_toEndpoint : SFn := { nslots := 4, nobjs := 6, params := [0], ngiven := 0, bor := false, takes := [], body := slaws_toEndpoint_b, results := [.cell 2 (some 4)] }
def slaws_toEndpoint_t : List Tmp := [0, 1, 2, 3]
attribute [simp] slaws_toEndpoint_r0 slaws_toEndpoint_r1 slaws_toEndpoint_r2 slaws_toEndpoint_r3 slaws_toEndpoint_r4 slaws_toEndpoint_r5 slaws_toEndpoint_r6 slaws_toEndpoint_b slaws_toEndpoint
def slaws_toLogged_r0 : Reg :=
  { id := 0, ops := [{ op := .box 0 (.slot 0) },
      { op := .alloc 1 [.sc (.int .i64 0), .sc (.int .i64 0), .sc (.bool false), .sc (.bool false), .sc (.int .i64 0), .nil 1, .sc (.int .i64 0), .nil 1] }], sets := [(1, 0), (2, 1)], clr := [0] }
def slaws_toLogged_r1 : Reg :=
  { id := 1, ops := [{ op := .alloc 2 [.sc (.int .i64 0), .sc (.int .i64 0), .sc (.bool false), .sc (.bool false), .sc (.int .i64 0), .nil 1, .sc (.int .i64 0), .nil 1] }], sets := [(3, 0)] }
def slaws_toLogged_r2 : Reg :=
  { id := 2, ops := [{ op := .fieldAddr (.slot 1) 0 },
      { op := .load none (.loc 0) },
      { op := .fieldAddr (.slot 3) 0 },
      { op := .store 1 (.loc 2) (.loc 1) }] }
def slaws_toLogged_r3 : Reg :=
  { id := 3, ops := [{ op := .fieldAddr (.slot 1) 1 },
      { op := .load none (.loc 0) },
      { op := .fieldAddr (.slot 3) 1 },
      { op := .store 1 (.loc 2) (.loc 1) }] }
def slaws_toLogged_r4 : Reg :=
  { id := 4, ops := [{ op := .fieldAddr (.slot 1) 2 },
      { op := .load none (.loc 0) },
      { op := .fieldAddr (.slot 3) 2 },
      { op := .store 1 (.loc 2) (.loc 1) }] }
def slaws_toLogged_r5 : Reg :=
  { id := 5, ops := [{ op := .fieldAddr (.slot 1) 3 },
      { op := .load (some 5) (.loc 0) },
      { op := .call 99 [(false, .loc 1)] [3, 4] },
      { op := .fieldAddr (.slot 3) 3 },
      { op := .store 5 (.loc 3) (.loc 2) }], clr := [1] }
def slaws_toLogged_r6 : Reg :=
  { id := 6, ops := [{ op := .load (some 8) (.slot 3) },
      { op := .store 8 (.slot 2) (.loc 0) }], clr := [3] }
def slaws_toLogged_b : SC := .seq (.reg slaws_toLogged_r0) (.seq (.reg slaws_toLogged_r1) (.seq (.reg slaws_toLogged_r2) (.seq (.reg slaws_toLogged_r3) (.seq (.reg slaws_toLogged_r4) (.seq (.reg slaws_toLogged_r5) (.seq (.reg slaws_toLogged_r6) (.ret)))))))
def slaws_toLogged : SFn := { nslots := 4, nobjs := 5, params := [0], ngiven := 0, bor := false, takes := [], body := slaws_toLogged_b, results := [.cell 2 (some 8)] }
def slaws_toLogged_t : List Tmp := [0, 1, 2, 3]
attribute [simp] slaws_toLogged_r0 slaws_toLogged_r1 slaws_toLogged_r2 slaws_toLogged_r3 slaws_toLogged_r4 slaws_toLogged_r5 slaws_toLogged_r6 slaws_toLogged_b slaws_toLogged
def slaws_eqLogged_r0 : Reg :=
  { id := 0, ops := [{ op := .box 0 (.slot 0) },
      { op := .box 1 (.slot 1) },
      { op := .mv (.con (.sc (.bool false))) }], sets := [(2, 0), (3, 1)], clr := [0, 1, 4] }
def slaws_eqLogged_r1 : Reg :=
  { id := 1, ops := [{ op := .fieldAddr (.slot 2) 0 },
      { op := .load none (.loc 0) },
      { op := .fieldAddr (.slot 3) 0 },
      { op := .load none (.loc 2) },
      { op := .bin .neq (.loc 1) (.loc 3) }], sets := [(5, 4)] }
def slaws_eqLogged_r2 : Reg :=
  { id := 2, ops := [{ op := .mv (.con (.sc (.bool false))) }], sets := [(4, 0)], clr := [2, 3] }
def slaws_eqLogged_r3 : Reg :=
  { id := 3, ops := [{ op := .fieldAddr (.slot 2) 1 },
      { op := .load none (.loc 0) },
      { op := .fieldAddr (.slot 3) 1 },
      { op := .load none (.loc 2) },
      { op := .bin .neq (.loc 1) (.loc 3) }], sets := [(6, 4)] }
def slaws_eqLogged_r4 : Reg :=
  { id := 4, ops := [{ op := .mv (.con (.sc (.bool false))) }], sets := [(4, 0)], clr := [2, 3] }
def slaws_eqLogged_r5 : Reg :=
  { id := 5, ops := [{ op := .fieldAddr (.slot 2) 2 },
      { op := .load none (.loc 0) },
      { op := .fieldAddr (.slot 3) 2 },
      { op := .load none (.loc 2) },
      { op := .beq true (.loc 1) (.loc 3) }], sets := [(7, 4)] }
def slaws_eqLogged_r6 : Reg :=
  { id := 6, ops := [{ op := .mv (.con (.sc (.bool false))) }], sets := [(4, 0)], clr := [2, 3] }
def slaws_eqLogged_r7 : Reg :=
  { id := 7, ops := [{ op := .fieldAddr (.slot 2) 3 },
      { op := .load (some 5) (.loc 0) },
      { op := .fieldAddr (.slot 3) 3 },
      { op := .load (some 5) (.loc 2) },
      { op := .call 135 [(false, .loc 1), (false, .loc 3)] [] },
      { op := .un .not (.loc 4) }], sets := [(8, 5)], clr := [2, 3] }
def slaws_eqLogged_r8 : Reg :=
  { id := 8, ops := [{ op := .mv (.con (.sc (.bool false))) }], sets := [(4, 0)] }
def slaws_eqLogged_r9 : Reg :=
  { id := 9, ops := [{ op := .mv (.con (.sc (.bool true))) }], sets := [(4, 0)] }
def slaws_eqLogged_b : SC := .seq (.reg slaws_eqLogged_r0) (.seq (.seq (.reg slaws_eqLogged_r1) (.cond 5 (.seq (.reg slaws_eqLogged_r2) (.ret)) (.skip))) (.seq (.seq (.reg slaws_eqLogged_r3) (.cond 6 (.seq (.reg slaws_eqLogged_r4) (.ret)) (.skip))) (.seq (.seq (.reg slaws_eqLogged_r5) (.cond 7 (.seq (.reg slaws_eqLogged_r6) (.ret)) (.skip))) (.seq (.seq (.reg slaws_eqLogged_r7) (.cond 8 (.seq (.reg slaws_eqLogged_r8) (.ret)) (.skip))) (.seq (.reg slaws_eqLogged_r9) (.ret))))))
def slaws_eqLogged : SFn := { nslots := 9, nobjs := 2, params := [0, 1], ngiven := 0, bor := false, takes := [], body := slaws_eqLogged_b, results := [.slot 4] }
def slaws_eqLogged_t : List Tmp := [0, 1, 2, 3, 4, 9, 14, 19, 25]
attribute [simp] slaws_eqLogged_r0 slaws_eqLogged_r1 slaws_eqLogged_r2 slaws_eqLogged_r3 slaws_eqLogged_r4 slaws_eqLogged_r5 slaws_eqLogged_r6 slaws_eqLogged_r7 slaws_eqLogged_r8 slaws_eqLogged_r9 slaws_eqLogged_b slaws_eqLogged
def slaws_szBoxS_r0 : Reg :=
  { id := 0, ops := [{ op := .mv (.con (.sc (.int .i64 0))) }], clr := [2] }
def slaws_szBoxS_r1 : Reg :=
  { id := 1, ops := [{ op := .mv (.slot 1) },
      { op := .mv (.slot 0) },
      { op := .len false (.loc 1) },
      { op := .bin .sub (.loc 0) (.loc 2) },
      { op := .mv (.loc 3) }], sets := [(1, 4)] }
def slaws_szBoxS_r2 : Reg :=
  { id := 2, ops := [{ op := .mv (.slot 1) },
      { op := .bin .lss (.loc 0) (.con (.sc (.int .i64 0))) }], sets := [(4, 1)] }
def slaws_szBoxS_r3 : Reg :=
  { id := 3, ops := [{ op := .mv (.con (.sc (.int .i64 (-1)))) }], sets := [(2, 0)], clr := [0, 1] }
def slaws_szBoxS_r4 : Reg :=
  { id := 4, ops := [{ op := .mv (.con (.sc (.int .i64 0))) }], sets := [(3, 0)] }
def slaws_szBoxS_r5 : Reg :=
  { id := 5, ops := [{ op := .mv (.slot 3) },
      { op := .mv (.slot 0) },
      { op := .len false (.loc 1) },
      { op := .bin .lss (.loc 0) (.loc 2) }], sets := [(5, 3)] }
def slaws_szBoxS_r6 : Reg :=
  { id := 7, ops := [{ op := .mv (.slot 0) },
      { op := .mv (.slot 3) },
      { op := .indexAddr 4 (.loc 0) (.loc 1) },
      { op := .load (some 4) (.loc 2) },
      { op := .mv (.slot 1) },
      { op := .call 206 [(false, .loc 3), (false, .loc 4)] [] },
      { op := .mv (.loc 5) }], sets := [(1, 6)] }
def slaws_szBoxS_r7 : Reg :=
  { id := 8, ops := [{ op := .mv (.slot 1) },
      { op := .bin .lss (.loc 0) (.con (.sc (.int .i64 0))) }], sets := [(6, 1)] }
def slaws_szBoxS_r8 : Reg :=
  { id := 9, ops := [{ op := .mv (.con (.sc (.int .i64 (-1)))) }], sets := [(2, 0)], clr := [0, 1, 3] }
def slaws_szBoxS_r9 : Reg :=
  { id := 6, ops := [{ op := .mv (.slot 3) },
      { op := .bin .add (.loc 0) (.con (.sc (.int .i64 1))) },
      { op := .mv (.loc 1) }], sets := [(3, 2)] }
def slaws_szBoxS_r10 : Reg :=
  { id := 10, ops := [{ op := .mv (.slot 1) },
      { op := .mv (.loc 0) }], sets := [(2, 1)], clr := [0, 1, 3] }
def slaws_szBoxS_b : SC := .seq (.reg slaws_szBoxS_r0) (.seq (.reg slaws_szBoxS_r1) (.seq (.seq (.reg slaws_szBoxS_r2) (.cond 4 (.seq (.reg slaws_szBoxS_r3) (.ret)) (.skip))) (.seq (.seq (.reg slaws_szBoxS_r4) (.block 0 (.loop (.seq (.seq (.reg slaws_szBoxS_r5) (.cond 5 (.skip) (.exit 0))) (.seq (.block 1 (.seq (.reg slaws_szBoxS_r6) (.seq (.reg slaws_szBoxS_r7) (.cond 6 (.seq (.reg slaws_szBoxS_r8) (.ret)) (.skip))))) (.reg slaws_szBoxS_r9)))))) (.seq (.reg slaws_szBoxS_r10) (.ret)))))
def slaws_szBoxS : SFn := { nslots := 7, nobjs := 0, params := [0, 1], ngiven := 0, bor := false, takes := [], body := slaws_szBoxS_b, results := [.slot 2] }
def slaws_szBoxS_t : List Tmp := [0, 1, 4, 5, 11, 15, 25]
attribute [simp] slaws_szBoxS_r0 slaws_szBoxS_r1 slaws_szBoxS_r2 slaws_szBoxS_r3 slaws_szBoxS_r4 slaws_szBoxS_r5 slaws_szBoxS_r6 slaws_szBoxS_r7 slaws_szBoxS_r8 slaws_szBoxS_r9 slaws_szBoxS_r10 slaws_szBoxS_b slaws_szBoxS
def slaws_toBoxS_r0 : Reg :=
  { id := 0, ops := [{ op := .mv (.con (.nil 4)) }], clr := [1] }
def slaws_toBoxS_r1 : Reg :=
  { id := 1, ops := [{ op := .mv (.slot 0) },
      { op := .len false (.loc 0) },
      { op := .makeSlice 0 4 64 [.sc (.int .i64 0), .sl 0 1 0 [], .sl 0 1 0 [], .sc (.bool false)] (.loc 1) },
      { op := .mv (.loc 2) }], sets := [(2, 3)] }
def slaws_toBoxS_r2 : Reg :=
  { id := 2, ops := [{ op := .mv (.con (.sc (.int .i64 0))) }], sets := [(3, 0)] }
def slaws_toBoxS_r3 : Reg :=
  { id := 3, ops := [{ op := .mv (.slot 3) },
      { op := .mv (.slot 0) },
      { op := .len false (.loc 1) },
      { op := .bin .lss (.loc 0) (.loc 2) }], sets := [(4, 3)] }
def slaws_toBoxS_r4 : Reg :=
  { id := 5, fresh := [1, 2], ops := [{ op := .mv (.slot 2) },
      { op := .mv (.slot 3) },
      { op := .mv (.slot 0) },
      { op := .mv (.slot 3) },
      { op := .indexAddr 4 (.loc 2) (.loc 3) },
      { op := .load (some 4) (.loc 4) },
      { op := .call 226 [(false, .loc 5)] [1, 2] },
      { op := .indexAddr 4 (.loc 0) (.loc 1) },
      { op := .store 4 (.loc 7) (.loc 6) }] }
def slaws_toBoxS_r5 : Reg :=
  { id := 4, ops := [{ op := .mv (.slot 3) },
      { op := .bin .add (.loc 0) (.con (.sc (.int .i64 1))) },
      { op := .mv (.loc 1) }], sets := [(3, 2)] }
def slaws_toBoxS_r6 : Reg :=
  { id := 6, ops := [{ op := .mv (.slot 2) },
      { op := .mv (.loc 0) }], sets := [(1, 1)], clr := [0, 2, 3] }
def slaws_toBoxS_b : SC := .seq (.reg slaws_toBoxS_r0) (.seq (.reg slaws_toBoxS_r1) (.seq (.seq (.reg slaws_toBoxS_r2) (.block 0 (.loop (.seq (.seq (.reg slaws_toBoxS_r3) (.cond 4 (.skip) (.exit 0))) (.seq (.block 1 (.reg slaws_toBoxS_r4)) (.reg slaws_toBoxS_r5)))))) (.seq (.reg slaws_toBoxS_r6) (.ret))))
def slaws_toBoxS : SFn := { nslots := 5, nobjs := 3, params := [0], ngiven := 0, bor := false, takes := [], body := slaws_toBoxS_b, results := [.slot 1] }
def slaws_toBoxS_t : List Tmp := [0, 2, 3, 4, 11]
attribute [simp] slaws_toBoxS_r0 slaws_toBoxS_r1 slaws_toBoxS_r2 slaws_toBoxS_r3 slaws_toBoxS_r4 slaws_toBoxS_r5 slaws_toBoxS_r6 slaws_toBoxS_b slaws_toBoxS
def slaws_markWorld_r0 : Reg :=
  { id := 0, ops := [{ op := .box 6 (.slot 0) },
      { op := .mv (.con (.sc (.int .i64 0))) }], sets := [(2, 0)], clr := [0, 3] }
def slaws_markWorld_r1 : Reg :=
  { id := 1, ops := [{ op := .fieldAddr (.slot 2) 0 },
      { op := .load none (.loc 0) },
      { op := .mv (.slot 1) },
      { op := .call 52 [(true, .loc 1), (false, .loc 2)] [] },
      { op := .mv (.loc 3) }], sets := [(1, 4)] }
def slaws_markWorld_r2 : Reg :=
  { id := 2, ops := [{ op := .fieldAddr (.slot 2) 1 },
      { op := .load none (.loc 0) },
      { op := .mv (.slot 1) },
      { op := .call 52 [(true, .loc 1), (false, .loc 2)] [] },
      { op := .mv (.loc 3) }], sets := [(1, 4)] }
def slaws_markWorld_r3 : Reg :=
  { id := 3, ops := [{ op := .fieldAddr (.slot 2) 3 },
      { op := .load none (.loc 0) },
      { op := .mv (.slot 1) },
      { op := .call 53 [(true, .loc 1), (false, .loc 2)] [] },
      { op := .mv (.loc 3) }], sets := [(1, 4)] }
def slaws_markWorld_r4 : Reg :=
  { id := 4, ops := [{ op := .fieldAddr (.slot 2) 4 },
      { op := .load (some 4) (.loc 0) },
      { op := .mv (.slot 1) },
      { op := .call 54 [(true, .loc 1), (false, .loc 2)] [] },
      { op := .mv (.loc 3) }], sets := [(1, 4)] }
def slaws_markWorld_r5 : Reg :=
  { id := 5, ops := [{ op := .fieldAddr (.slot 2) 10 },
      { op := .load none (.loc 0) },
      { op := .mv (.slot 1) },
      { op := .call 55 [(true, .loc 1), (false, .loc 2)] [] },
      { op := .mv (.loc 3) }], sets := [(1, 4)] }
def slaws_markWorld_r6 : Reg :=
  { id := 6, ops := [{ op := .fieldAddr (.slot 2) 11 },
      { op := .load none (.loc 0) },
      { op := .mv (.slot 1) },
      { op := .call 56 [(true, .loc 1), (false, .loc 2)] [] },
      { op := .mv (.loc 3) }], sets := [(1, 4)], clr := [2] }
def slaws_markWorld_r7 : Reg :=
  { id := 7, ops := [{ op := .mv (.slot 1) },
      { op := .mv (.loc 0) }], sets := [(3, 1)], clr := [1] }
def slaws_markWorld_b : SC := .seq (.reg slaws_markWorld_r0) (.seq (.reg slaws_markWorld_r1) (.seq (.reg slaws_markWorld_r2) (.seq (.reg slaws_markWorld_r3) (.seq (.reg slaws_markWorld_r4) (.seq (.reg slaws_markWorld_r5) (.seq (.reg slaws_markWorld_r6) (.seq (.reg slaws_markWorld_r7) (.ret))))))))
def slaws_markWorld : SFn := { nslots := 4, nobjs := 7, params := [0, 1], ngiven := 6, bor := false, takes := [], body := slaws_markWorld_b, results := [.slot 3] }
def slaws_markWorld_t : List Tmp := [0, 1, 2, 4]
attribute [simp] slaws_markWorld_r0 slaws_markWorld_r1 slaws_markWorld_r2 slaws_markWorld_r3 slaws_markWorld_r4 slaws_markWorld_r5 slaws_markWorld_r6 slaws_markWorld_r7 slaws_markWorld_b slaws_markWorld
def sspec_IsIn_r0 : Reg :=
  { id := 0, ops := [{ op := .box 0 (.slot 0) },
      { op := .mv (.con (.sc (.bool false))) }], sets := [(3, 0)], clr := [0, 4] }
def sspec_IsIn_r1 : Reg :=
  { id := 1, ops := [{ op := .mv (.slot 1) },
      { op := .bin .geq (.loc 0) (.con (.sc (.int .i64 0))) },
      { op := .mv (.loc 1) },
      { op := .mv (.slot 1), guard := some (2, true) },
      { op := .mv (.slot 2), guard := some (2, true) },
      { op := .bin .lss (.loc 3) (.loc 4), guard := some (2, true) },
      { op := .pick (.loc 2) (.loc 5) (.con (.sc (.bool false))) },
      { op := .mv (.loc 6) },
      { op := .mv (.slot 1), guard := some (7, true) },
      { op := .load (some 4) (.slot 3), guard := some (7, true) },
      { op := .mv (.slot 2), guard := some (7, true) },
      { op := .call 254 [(false, .loc 9), (false, .loc 10)] [], guard := some (7, true) },
      { op := .bin .lss (.loc 8) (.loc 11), guard := some (7, true) },
      { op := .pick (.loc 7) (.loc 12) (.con (.sc (.bool false))) },
      { op := .mv (.loc 13) }], sets := [(4, 14)], clr := [1, 2, 3] }
def sspec_IsIn_b : SC := .seq (.reg sspec_IsIn_r0) (.seq (.reg sspec_IsIn_r1) (.ret))
def sspec_IsIn : SFn := { nslots := 5, nobjs := 1, params := [0, 1, 2], ngiven := 0, bor := false, takes := [], body := sspec_IsIn_b, results := [.slot 4] }
def sspec_IsIn_t : List Tmp := [0, 1, 2, 3, 6]
attribute [simp] sspec_IsIn_r0 sspec_IsIn_r1 sspec_IsIn_b sspec_IsIn
def simpl_IsIn_r0 : Reg :=
  { id := 0, ops := [{ op := .box 0 (.slot 0) },
      { op := .mv (.con (.sc (.bool false))) }], sets := [(3, 0)], clr := [0, 4] }
def simpl_IsIn_r1 : Reg :=
  { id := 1, ops := [{ op := .mv (.slot 1) },
      { op := .bin .geq (.loc 0) (.con (.sc (.int .i64 0))) },
      { op := .mv (.loc 1) },
      { op := .mv (.slot 1), guard := some (2, true) },
      { op := .mv (.slot 2), guard := some (2, true) },
      { op := .bin .lss (.loc 3) (.loc 4), guard := some (2, true) },
      { op := .pick (.loc 2) (.loc 5) (.con (.sc (.bool false))) },
      { op := .mv (.loc 6) },
      { op := .mv (.slot 1), guard := some (7, true) },
      { op := .load (some 4) (.slot 3), guard := some (7, true) },
      { op := .mv (.slot 2), guard := some (7, true) },
      { op := .call 263 [(false, .loc 9), (false, .loc 10)] [], guard := some (7, true) },
      { op := .bin .lss (.loc 8) (.loc 11), guard := some (7, true) },
      { op := .pick (.loc 7) (.loc 12) (.con (.sc (.bool false))) },
      { op := .mv (.loc 13) }], sets := [(4, 14)], clr := [1, 2, 3] }
def simpl_IsIn_b : SC := .seq (.reg simpl_IsIn_r0) (.seq (.reg simpl_IsIn_r1) (.ret))
def simpl_IsIn : SFn := { nslots := 5, nobjs := 1, params := [0, 1, 2], ngiven := 0, bor := false, takes := [], body := simpl_IsIn_b, results := [.slot 4] }
def simpl_IsIn_t : List Tmp := [0, 1, 2, 3, 6]
attribute [simp] simpl_IsIn_r0 simpl_IsIn_r1 simpl_IsIn_b simpl_IsIn
def slaws_markRollout_r0 : Reg :=
  { id := 0, ops := [{ op := .box 1 (.slot 0) },
      { op := .mv (.con (.sc (.int .i64 0))) }], sets := [(2, 0)], clr := [0, 3] }
def slaws_markRollout_r1 : Reg :=
  { id := 1, ops := [{ op := .fieldAddr (.slot 2) 1 },
      { op := .load none (.loc 0) },
      { op := .mv (.slot 1) },
      { op := .call 52 [(true, .loc 1), (false, .loc 2)] [] },
      { op := .mv (.loc 3) }], sets := [(1, 4)], clr := [2] }
def slaws_markRollout_r2 : Reg :=
  { id := 2, ops := [{ op := .mv (.slot 1) },
      { op := .mv (.loc 0) }], sets := [(3, 1)], clr := [1] }
def slaws_markRollout_b : SC := .seq (.reg slaws_markRollout_r0) (.seq (.reg slaws_markRollout_r1) (.seq (.reg slaws_markRollout_r2) (.ret)))
def slaws_markRollout : SFn := { nslots := 4, nobjs := 2, params := [0, 1], ngiven := 1, bor := false, takes := [], body := slaws_markRollout_b, results := [.slot 3] }
def slaws_markRollout_t : List Tmp := [0, 1, 2, 4]
attribute [simp] slaws_markRollout_r0 slaws_markRollout_r1 slaws_markRollout_r2 slaws_markRollout_b slaws_markRollout
def slaws_markDialedS_r0 : Reg :=
  { id := 0, ops := [{ op := .mv (.con (.sc (.int .i64 0))) }], clr := [2] }
def slaws_markDialedS_r1 : Reg :=
  { id := 1, ops := [{ op := .mv (.con (.sc (.int .i64 0))) }], sets := [(3, 0)] }
def slaws_markDialedS_r2 : Reg :=
  { id := 2, ops := [{ op := .mv (.slot 3) },
      { op := .mv (.slot 0) },
      { op := .len false (.loc 1) },
      { op := .bin .lss (.loc 0) (.loc 2) }], sets := [(4, 3)] }
def slaws_markDialedS_r3 : Reg :=
  { id := 4, ops := [{ op := .mv (.slot 0) },
      { op := .mv (.slot 3) },
      { op := .mv (.slot 1) },
      { op := .bin .rem (.loc 2) (.con (.sc (.int .i64 3))) },
      { op := .bin .eql (.loc 3) (.con (.sc (.int .i64 0))) },
      { op := .indexAddr 5 (.loc 0) (.loc 1) },
      { op := .fieldAddr (.loc 5) 0 },
      { op := .fieldAddr (.loc 6) 0 },
      { op := .store 1 (.loc 7) (.loc 4) }] }
def slaws_markDialedS_r4 : Reg :=
  { id := 5, ops := [{ op := .mv (.slot 1) },
      { op := .bin .add (.loc 0) (.con (.sc (.int .i64 1))) },
      { op := .mv (.loc 1) }], sets := [(1, 2)] }
def slaws_markDialedS_r5 : Reg :=
  { id := 6, ops := [{ op := .mv (.slot 0) },
      { op := .mv (.slot 3) },
      { op := .mv (.slot 1) },
      { op := .indexAddr 5 (.loc 0) (.loc 1) },
      { op := .fieldAddr (.loc 3) 0 },
      { op := .fieldAddr (.loc 4) 1 },
      { op := .store 1 (.loc 5) (.loc 2) }] }
def slaws_markDialedS_r6 : Reg :=
  { id := 7, ops := [{ op := .mv (.slot 1) },
      { op := .bin .add (.loc 0) (.con (.sc (.int .i64 1))) },
      { op := .mv (.loc 1) }], sets := [(1, 2)] }
def slaws_markDialedS_r7 : Reg :=
  { id := 8, fresh := [1], ops := [{ op := .mv (.slot 0) },
      { op := .mv (.slot 3) },
      { op := .indexAddr 5 (.loc 0) (.loc 1) },
      { op := .fieldAddr (.loc 2) 0 },
      { op := .fieldAddr (.loc 3) 2 },
      { op := .take 1 (.loc 4) },
      { op := .mv (.slot 1) },
      { op := .call 52 [(true, .loc 5), (false, .loc 6)] [] },
      { op := .mv (.loc 7) }], sets := [(1, 8)], ghosts := [.untake 1] }
def slaws_markDialedS_r8 : Reg :=
  { id := 9, ops := [{ op := .mv (.slot 0) },
      { op := .mv (.slot 3) },
      { op := .mv (.slot 1) },
      { op := .indexAddr 5 (.loc 0) (.loc 1) },
      { op := .fieldAddr (.loc 3) 3 },
      { op := .store 1 (.loc 4) (.loc 2) }] }
def slaws_markDialedS_r9 : Reg :=
  { id := 10, ops := [{ op := .mv (.slot 1) },
      { op := .bin .add (.loc 0) (.con (.sc (.int .i64 1))) },
      { op := .mv (.loc 1) }], sets := [(1, 2)] }
def slaws_markDialedS_r10 : Reg :=
  { id := 11, fresh := [2], ops := [{ op := .mv (.slot 0) },
      { op := .mv (.slot 3) },
      { op := .indexAddr 5 (.loc 0) (.loc 1) },
      { op := .fieldAddr (.loc 2) 4 },
      { op := .take 2 (.loc 3) },
      { op := .mv (.slot 1) },
      { op := .call 52 [(true, .loc 4), (false, .loc 5)] [] },
      { op := .mv (.loc 6) }], sets := [(1, 7)], ghosts := [.untake 2] }
def slaws_markDialedS_r11 : Reg :=
  { id := 3, ops := [{ op := .mv (.slot 3) },
      { op := .bin .add (.loc 0) (.con (.sc (.int .i64 1))) },
      { op := .mv (.loc 1) }], sets := [(3, 2)] }
def slaws_markDialedS_r12 : Reg :=
  { id := 12, ops := [{ op := .mv (.slot 1) },
      { op := .mv (.loc 0) }], sets := [(2, 1)], clr := [0, 1, 3] }
def slaws_markDialedS_b : SC := .seq (.reg slaws_markDialedS_r0) (.seq (.seq (.reg slaws_markDialedS_r1) (.block 0 (.loop (.seq (.seq (.reg slaws_markDialedS_r2) (.cond 4 (.skip) (.exit 0))) (.seq (.block 1 (.seq (.reg slaws_markDialedS_r3) (.seq (.reg slaws_markDialedS_r4) (.seq (.reg slaws_markDialedS_r5) (.seq (.reg slaws_markDialedS_r6) (.seq (.reg slaws_markDialedS_r7) (.seq (.reg slaws_markDialedS_r8) (.seq (.reg slaws_markDialedS_r9) (.reg slaws_markDialedS_r10))))))))) (.reg slaws_markDialedS_r11)))))) (.seq (.reg slaws_markDialedS_r12) (.ret)))
def slaws_markDialedS : SFn := { nslots := 5, nobjs := 3, params := [0, 1], ngiven := 1, bor := false, takes := [1, 2], body := slaws_markDialedS_b, results := [.slot 2] }
def slaws_markDialedS_t : List Tmp := [0, 1, 4, 5, 9]
attribute [simp] slaws_markDialedS_r0 slaws_markDialedS_r1 slaws_markDialedS_r2 slaws_markDialedS_r3 slaws_markDialedS_r4 slaws_markDialedS_r5 slaws_markDialedS_r6 slaws_markDialedS_r7 slaws_markDialedS_r8 slaws_markDialedS_r9 slaws_markDialedS_r10 slaws_markDialedS_r11 slaws_markDialedS_r12 slaws_markDialedS_b slaws_markDialedS
def slaws_markLoggedS_r0 : Reg :=
  { id := 0, ops := [{ op := .mv (.con (.sc (.int .i64 0))) }], clr := [2] }
def slaws_markLoggedS_r1 : Reg :=
  { id := 1, ops := [{ op := .mv (.con (.sc (.int .i64 0))) }], sets := [(3, 0)] }
def slaws_markLoggedS_r2 : Reg :=
  { id := 2, ops := [{ op := .mv (.slot 3) },
      { op := .mv (.slot 0) },
      { op := .len false (.loc 1) },
      { op := .bin .lss (.loc 0) (.loc 2) }], sets := [(4, 3)] }
def slaws_markLoggedS_r3 : Reg :=
  { id := 4, ops := [{ op := .mv (.slot 0) },
      { op := .mv (.slot 3) },
      { op := .mv (.slot 1) },
      { op := .indexAddr 8 (.loc 0) (.loc 1) },
      { op := .fieldAddr (.loc 3) 0 },
      { op := .store 1 (.loc 4) (.loc 2) }] }
def slaws_markLoggedS_r4 : Reg :=
  { id := 5, ops := [{ op := .mv (.slot 1) },
      { op := .bin .add (.loc 0) (.con (.sc (.int .i64 1))) },
      { op := .mv (.loc 1) }], sets := [(1, 2)] }
def slaws_markLoggedS_r5 : Reg :=
  { id := 6, ops := [{ op := .mv (.slot 0) },
      { op := .mv (.slot 3) },
      { op := .mv (.slot 1) },
      { op := .indexAddr 8 (.loc 0) (.loc 1) },
      { op := .fieldAddr (.loc 3) 1 },
      { op := .store 1 (.loc 4) (.loc 2) }] }
def slaws_markLoggedS_r6 : Reg :=
  { id := 7, ops := [{ op := .mv (.slot 1) },
      { op := .bin .add (.loc 0) (.con (.sc (.int .i64 1))) },
      { op := .mv (.loc 1) }], sets := [(1, 2)] }
def slaws_markLoggedS_r7 : Reg :=
  { id := 8, ops := [{ op := .mv (.slot 0) },
      { op := .mv (.slot 3) },
      { op := .mv (.slot 1) },
      { op := .bin .rem (.loc 2) (.con (.sc (.int .i64 3))) },
      { op := .bin .eql (.loc 3) (.con (.sc (.int .i64 0))) },
      { op := .indexAddr 8 (.loc 0) (.loc 1) },
      { op := .fieldAddr (.loc 5) 2 },
      { op := .store 1 (.loc 6) (.loc 4) }] }
def slaws_markLoggedS_r8 : Reg :=
  { id := 9, ops := [{ op := .mv (.slot 1) },
      { op := .bin .add (.loc 0) (.con (.sc (.int .i64 1))) },
      { op := .mv (.loc 1) }], sets := [(1, 2)] }
def slaws_markLoggedS_r9 : Reg :=
  { id := 10, ops := [{ op := .mv (.slot 0) },
      { op := .mv (.slot 3) },
      { op := .mv (.slot 1) },
      { op := .bin .rem (.loc 2) (.con (.sc (.int .i64 3))) },
      { op := .bin .eql (.loc 3) (.con (.sc (.int .i64 0))) },
      { op := .indexAddr 8 (.loc 0) (.loc 1) },
      { op := .fieldAddr (.loc 5) 3 },
      { op := .fieldAddr (.loc 6) 0 },
      { op := .fieldAddr (.loc 7) 0 },
      { op := .store 1 (.loc 8) (.loc 4) }] }
def slaws_markLoggedS_r10 : Reg :=
  { id := 11, ops := [{ op := .mv (.slot 1) },
      { op := .bin .add (.loc 0) (.con (.sc (.int .i64 1))) },
      { op := .mv (.loc 1) }], sets := [(1, 2)] }
def slaws_markLoggedS_r11 : Reg :=
  { id := 12, ops := [{ op := .mv (.slot 0) },
      { op := .mv (.slot 3) },
      { op := .mv (.slot 1) },
      { op := .indexAddr 8 (.loc 0) (.loc 1) },
      { op := .fieldAddr (.loc 3) 3 },
      { op := .fieldAddr (.loc 4) 0 },
      { op := .fieldAddr (.loc 5) 1 },
      { op := .store 1 (.loc 6) (.loc 2) }] }
def slaws_markLoggedS_r12 : Reg :=
  { id := 13, ops := [{ op := .mv (.slot 1) },
      { op := .bin .add (.loc 0) (.con (.sc (.int .i64 1))) },
      { op := .mv (.loc 1) }], sets := [(1, 2)] }
def slaws_markLoggedS_r13 : Reg :=
  { id := 14, fresh := [1], ops := [{ op := .mv (.slot 0) },
      { op := .mv (.slot 3) },
      { op := .indexAddr 8 (.loc 0) (.loc 1) },
      { op := .fieldAddr (.loc 2) 3 },
      { op := .fieldAddr (.loc 3) 0 },
      { op := .fieldAddr (.loc 4) 2 },
      { op := .take 1 (.loc 5) },
      { op := .mv (.slot 1) },
      { op := .call 52 [(true, .loc 6), (false, .loc 7)] [] },
      { op := .mv (.loc 8) }], sets := [(1, 9)], ghosts := [.untake 1] }
def slaws_markLoggedS_r14 : Reg :=
  { id := 15, ops := [{ op := .mv (.slot 0) },
      { op := .mv (.slot 3) },
      { op := .mv (.slot 1) },
      { op := .indexAddr 8 (.loc 0) (.loc 1) },
      { op := .fieldAddr (.loc 3) 3 },
      { op := .fieldAddr (.loc 4) 3 },
      { op := .store 1 (.loc 5) (.loc 2) }] }
def slaws_markLoggedS_r15 : Reg :=
  { id := 16, ops := [{ op := .mv (.slot 1) },
      { op := .bin .add (.loc 0) (.con (.sc (.int .i64 1))) },
      { op := .mv (.loc 1) }], sets := [(1, 2)] }
def slaws_markLoggedS_r16 : Reg :=
  { id := 17, fresh := [2], ops := [{ op := .mv (.slot 0) },
      { op := .mv (.slot 3) },
      { op := .indexAddr 8 (.loc 0) (.loc 1) },
      { op := .fieldAddr (.loc 2) 3 },
      { op := .fieldAddr (.loc 3) 4 },
      { op := .take 2 (.loc 4) },
      { op := .mv (.slot 1) },
      { op := .call 52 [(true, .loc 5), (false, .loc 6)] [] },
      { op := .mv (.loc 7) }], sets := [(1, 8)], ghosts := [.untake 2] }
def slaws_markLoggedS_r17 : Reg :=
  { id := 3, ops := [{ op := .mv (.slot 3) },
      { op := .bin .add (.loc 0) (.con (.sc (.int .i64 1))) },
      { op := .mv (.loc 1) }], sets := [(3, 2)] }
def slaws_markLoggedS_r18 : Reg :=
  { id := 18, ops := [{ op := .mv (.slot 1) },
      { op := .mv (.loc 0) }], sets := [(2, 1)], clr := [0, 1, 3] }
def slaws_markLoggedS_b : SC := .seq (.reg slaws_markLoggedS_r0) (.seq (.seq (.reg slaws_markLoggedS_r1) (.block 0 (.loop (.seq (.seq (.reg slaws_markLoggedS_r2) (.cond 4 (.skip) (.exit 0))) (.seq (.block 1 (.seq (.reg slaws_markLoggedS_r3) (.seq (.reg slaws_markLoggedS_r4) (.seq (.reg slaws_markLoggedS_r5) (.seq (.reg slaws_markLoggedS_r6) (.seq (.reg slaws_markLoggedS_r7) (.seq (.reg slaws_markLoggedS_r8) (.seq (.reg slaws_markLoggedS_r9) (.seq (.reg slaws_markLoggedS_r10) (.seq (.reg slaws_markLoggedS_r11) (.seq (.reg slaws_markLoggedS_r12) (.seq (.reg slaws_markLoggedS_r13) (.seq (.reg slaws_markLoggedS_r14) (.seq (.reg slaws_markLoggedS_r15) (.reg slaws_markLoggedS_r16))))))))))))))) (.reg slaws_markLoggedS_r17)))))) (.seq (.reg slaws_markLoggedS_r18) (.ret)))
def slaws_markLoggedS : SFn := { nslots := 5, nobjs := 3, params := [0, 1], ngiven := 1, bor := false, takes := [1, 2], body := slaws_markLoggedS_b, results := [.slot 2] }
def slaws_markLoggedS_t : List Tmp := [0, 1, 4, 5, 9]
attribute [simp] slaws_markLoggedS_r0 slaws_markLoggedS_r1 slaws_markLoggedS_r2 slaws_markLoggedS_r3 slaws_markLoggedS_r4 slaws_markLoggedS_r5 slaws_markLoggedS_r6 slaws_markLoggedS_r7 slaws_markLoggedS_r8 slaws_markLoggedS_r9 slaws_markLoggedS_r10 slaws_markLoggedS_r11 slaws_markLoggedS_r12 slaws_markLoggedS_r13 slaws_markLoggedS_r14 slaws_markLoggedS_r15 slaws_markLoggedS_r16 slaws_markLoggedS_r17 slaws_markLoggedS_r18 slaws_markLoggedS_b slaws_markLoggedS
def sspec_CountIn_r0 : Reg :=
  { id := 0, ops := [{ op := .box 0 (.slot 0) },
      { op := .mv (.con (.sc (.int .i64 0))) }], sets := [(2, 0)], clr := [0, 3] }
def sspec_CountIn_r1 : Reg :=
  { id := 1, ops := [{ op := .load (some 4) (.slot 2) },
      { op := .call 145 [(false, .loc 0)] [] },
      { op := .un .not (.loc 1) },
      { op := .mv (.loc 2) },
      { op := .fieldAddr (.slot 2) 3, guard := some (3, false) },
      { op := .load none (.loc 4), guard := some (3, false) },
      { op := .pick (.loc 3) (.con (.sc (.bool true))) (.loc 5) },
      { op := .mv (.loc 6) },
      { op := .mv (.slot 1), guard := some (7, false) },
      { op := .call 71 [(false, .loc 8), (false, .con (.sc (.int .i64 0))), (false, .con (.sc (.int .i64 10000)))] [], guard := some (7, false) },
      { op := .un .not (.loc 9), guard := some (7, false) },
      { op := .pick (.loc 7) (.con (.sc (.bool true))) (.loc 10) }], sets := [(4, 11)] }
def sspec_CountIn_r2 : Reg :=
  { id := 2, ops := [{ op := .mv (.con (.sc (.int .i64 0))) }], sets := [(3, 0)], clr := [1, 2] }
def sspec_CountIn_r3 : Reg :=
  { id := 3, ops := [{ op := .mv (.slot 1) },
      { op := .fieldAddr (.slot 2) 1 },
      { op := .load none (.loc 1) },
      { op := .fieldAddr (.slot 2) 2 },
      { op := .load none (.loc 3) },
      { op := .indexAddr 1 (.loc 2) (.loc 4) },
      { op := .load none (.loc 5) },
      { op := .bin .mul (.loc 0) (.loc 6) },
      { op := .call 284 [(false, .loc 7), (false, .con (.sc (.int .i64 100)))] [] },
      { op := .mv (.loc 8) }], sets := [(3, 9)], clr := [1, 2] }
def sspec_CountIn_b : SC := .seq (.reg sspec_CountIn_r0) (.seq (.seq (.reg sspec_CountIn_r1) (.cond 4 (.seq (.reg sspec_CountIn_r2) (.ret)) (.skip))) (.seq (.reg sspec_CountIn_r3) (.ret)))
def sspec_CountIn : SFn := { nslots := 5, nobjs := 1, params := [0, 1], ngiven := 0, bor := false, takes := [], body := sspec_CountIn_b, results := [.slot 3] }
def sspec_CountIn_t : List Tmp := [0, 1, 2, 4, 16]
attribute [simp] sspec_CountIn_r0 sspec_CountIn_r1 sspec_CountIn_r2 sspec_CountIn_r3 sspec_CountIn_b sspec_CountIn
def simpl_CountIn_r0 : Reg :=
  { id := 0, ops := [{ op := .box 0 (.slot 0) },
      { op := .mv (.con (.sc (.int .i64 0))) }], sets := [(2, 0)], clr := [0, 3] }
def simpl_CountIn_r1 : Reg :=
  { id := 1, ops := [{ op := .load (some 4) (.slot 2) },
      { op := .call 176 [(false, .loc 0)] [] },
      { op := .un .not (.loc 1) },
      { op := .mv (.loc 2) },
      { op := .fieldAddr (.slot 2) 3, guard := some (3, false) },
      { op := .load none (.loc 4), guard := some (3, false) },
      { op := .pick (.loc 3) (.con (.sc (.bool true))) (.loc 5) },
      { op := .mv (.loc 6) },
      { op := .mv (.slot 1), guard := some (7, false) },
      { op := .call 114 [(false, .loc 8), (false, .con (.sc (.int .i64 0))), (false, .con (.sc (.int .i64 10000)))] [], guard := some (7, false) },
      { op := .un .not (.loc 9), guard := some (7, false) },
      { op := .pick (.loc 7) (.con (.sc (.bool true))) (.loc 10) }], sets := [(4, 11)] }
def simpl_CountIn_r2 : Reg :=
  { id := 2, ops := [{ op := .mv (.con (.sc (.int .i64 0))) }], sets := [(3, 0)], clr := [1, 2] }
def simpl_CountIn_r3 : Reg :=
  { id := 3, ops := [{ op := .mv (.slot 1) },
      { op := .fieldAddr (.slot 2) 1 },
      { op := .load none (.loc 1) },
      { op := .fieldAddr (.slot 2) 2 },
      { op := .load none (.loc 3) },
      { op := .indexAddr 1 (.loc 2) (.loc 4) },
      { op := .load none (.loc 5) },
      { op := .bin .mul (.loc 0) (.loc 6) },
      { op := .call 291 [(false, .loc 7), (false, .con (.sc (.int .i64 100)))] [] },
      { op := .mv (.loc 8) }], sets := [(3, 9)], clr := [1, 2] }
def simpl_CountIn_b : SC := .seq (.reg simpl_CountIn_r0) (.seq (.seq (.reg simpl_CountIn_r1) (.cond 4 (.seq (.reg simpl_CountIn_r2) (.ret)) (.skip))) (.seq (.reg simpl_CountIn_r3) (.ret)))
def simpl_CountIn : SFn := { nslots := 5, nobjs := 1, params := [0, 1], ngiven := 0, bor := false, takes := [], body := simpl_CountIn_b, results := [.slot 3] }
def simpl_CountIn_t : List Tmp := [0, 1, 2, 4, 16]
attribute [simp] simpl_CountIn_r0 simpl_CountIn_r1 simpl_CountIn_r2 simpl_CountIn_r3 simpl_CountIn_b simpl_CountIn
def sspec_IsRollout_r0 : Reg :=
  { id := 0, ops := [{ op := .box 0 (.slot 0) },
      { op := .mv (.con (.sc (.bool false))) }], sets := [(1, 0)], clr := [0, 2] }
def sspec_IsRollout_r1 : Reg :=
  { id := 1, ops := [{ op := .mv (.con (.sc (.int .i64 0))) }], sets := [(3, 0)] }
def sspec_IsRollout_r2 : Reg :=
  { id := 2, ops := [{ op := .mv (.slot 3) },
      { op := .fieldAddr (.slot 1) 1 },
      { op := .load none (.loc 1) },
      { op := .len false (.loc 2) },
      { op := .bin .lss (.loc 0) (.loc 3) }], sets := [(4, 4)] }
def sspec_IsRollout_r3 : Reg :=
  { id := 4, draw := true, ops := [{ op := .fieldAddr (.slot 1) 1, tau := some [], om := [] },
      { op := .load none (.loc 0), tau := some [0], om := [] },
      { op := .mv (.slot 3), tau := some [], om := [] },
      { op := .indexAddr 1 (.loc 1) (.loc 2), tau := some [], om := [] },
      { op := .load none (.loc 3), tau := some [], om := [] },
      { op := .call 71 [(false, .loc 4), (false, .con (.sc (.int .i64 1))), (false, .con (.sc (.int .i64 100)))] [], tau := some [], om := [] },
      { op := .un .not (.loc 5), tau := some [], om := [] },
      { op := .mv (.loc 6), tau := some [], om := [] },
      { op := .mv (.slot 3), guard := some (7, false), tau := some [], om := [] },
      { op := .bin .gtr (.loc 8) (.con (.sc (.int .i64 0))), guard := some (7, false), tau := some [], om := [] },
      { op := .mv (.loc 9), guard := some (7, false), tau := some [], om := [] },
      { op := .fieldAddr (.slot 1) 1, guard := some (10, true), tau := some [], om := [] },
      { op := .load none (.loc 11), guard := some (10, true), tau := some [0], om := [] },
      { op := .mv (.slot 3), guard := some (10, true), tau := some [], om := [] },
      { op := .bin .sub (.loc 13) (.con (.sc (.int .i64 1))), guard := some (10, true), tau := some [], om := [] },
      { op := .indexAddr 1 (.loc 12) (.loc 14), guard := some (10, true), tau := some [], om := [] },
      { op := .load none (.loc 15), guard := some (10, true), tau := some [], om := [] },
      { op := .fieldAddr (.slot 1) 1, guard := some (10, true), tau := some [], om := [] },
      { op := .load none (.loc 17), guard := some (10, true), tau := some [0], om := [] },
      { op := .mv (.slot 3), guard := some (10, true), tau := some [], om := [] },
      { op := .indexAddr 1 (.loc 18) (.loc 19), guard := some (10, true), tau := some [], om := [] },
      { op := .load none (.loc 20), guard := some (10, true), tau := some [], om := [] },
      { op := .bin .geq (.loc 16) (.loc 21), guard := some (10, true), tau := some [], om := [] },
      { op := .pick (.loc 10) (.loc 22) (.con (.sc (.bool false))), guard := some (7, false), tau := some [], om := [] },
      { op := .pick (.loc 7) (.con (.sc (.bool true))) (.loc 23), tau := some [], om := [] }], sets := [(5, 24)] }
def sspec_IsRollout_r4 : Reg :=
  { id := 5, ops := [{ op := .mv (.con (.sc (.bool false))) }], sets := [(2, 0)], clr := [1, 3] }
def sspec_IsRollout_r5 : Reg :=
  { id := 3, ops := [{ op := .mv (.slot 3) },
      { op := .bin .add (.loc 0) (.con (.sc (.int .i64 1))) },
      { op := .mv (.loc 1) }], sets := [(3, 2)] }
def sspec_IsRollout_r6 : Reg :=
  { id := 6, ops := [{ op := .fieldAddr (.slot 1) 0 },
      { op := .load none (.loc 0) },
      { op := .call 71 [(false, .loc 1), (false, .con (.sc (.int .i64 1))), (false, .con (.sc (.int .i64 9)))] [] },
      { op := .mv (.loc 2) },
      { op := .fieldAddr (.slot 1) 1, guard := some (3, true) },
      { op := .load none (.loc 4), guard := some (3, true) },
      { op := .len false (.loc 5), guard := some (3, true) },
      { op := .call 71 [(false, .loc 6), (false, .con (.sc (.int .i64 1))), (false, .con (.sc (.int .i64 5)))] [], guard := some (3, true) },
      { op := .pick (.loc 3) (.loc 7) (.con (.sc (.bool false))) },
      { op := .mv (.loc 8) },
      { op := .fieldAddr (.slot 1) 1, guard := some (9, true) },
      { op := .load none (.loc 10), guard := some (9, true) },
      { op := .fieldAddr (.slot 1) 1, guard := some (9, true) },
      { op := .load none (.loc 12), guard := some (9, true) },
      { op := .len false (.loc 13), guard := some (9, true) },
      { op := .bin .sub (.loc 14) (.con (.sc (.int .i64 1))), guard := some (9, true) },
      { op := .indexAddr 1 (.loc 11) (.loc 15), guard := some (9, true) },
      { op := .load none (.loc 16), guard := some (9, true) },
      { op := .bin .eql (.loc 17) (.con (.sc (.int .i64 100))), guard := some (9, true) },
      { op := .pick (.loc 9) (.loc 18) (.con (.sc (.bool false))) },
      { op := .mv (.loc 19) },
      { op := .fieldAddr (.slot 1) 2, guard := some (20, true) },
      { op := .load none (.loc 21), guard := some (20, true) },
      { op := .fieldAddr (.slot 1) 1, guard := some (20, true) },
      { op := .load none (.loc 23), guard := some (20, true) },
      { op := .len false (.loc 24), guard := some (20, true) },
      { op := .bin .sub (.loc 25) (.con (.sc (.int .i64 1))), guard := some (20, true) },
      { op := .call 71 [(false, .loc 22), (false, .con (.sc (.int .i64 0))), (false, .loc 26)] [], guard := some (20, true) },
      { op := .pick (.loc 20) (.loc 27) (.con (.sc (.bool false))) },
      { op := .mv (.loc 28) }], sets := [(2, 29)], clr := [1, 3] }
def sspec_IsRollout_b : SC := .seq (.reg sspec_IsRollout_r0) (.seq (.seq (.reg sspec_IsRollout_r1) (.block 0 (.loop (.seq (.seq (.reg sspec_IsRollout_r2) (.cond 4 (.skip) (.exit 0))) (.seq (.block 1 (.seq (.reg sspec_IsRollout_r3) (.cond 5 (.seq (.reg sspec_IsRollout_r4) (.ret)) (.skip)))) (.reg sspec_IsRollout_r5)))))) (.seq (.reg sspec_IsRollout_r6) (.ret)))
def sspec_IsRollout : SFn := { nslots := 6, nobjs := 1, params := [0], ngiven := 0, bor := false, takes := [], body := sspec_IsRollout_b, results := [.slot 2] }
def sspec_IsRollout_t : List Tmp := [0, 1, 2, 3, 8, 35]
attribute [simp] sspec_IsRollout_r0 sspec_IsRollout_r1 sspec_IsRollout_r2 sspec_IsRollout_r3 sspec_IsRollout_r4 sspec_IsRollout_r5 sspec_IsRollout_r6 sspec_IsRollout_b sspec_IsRollout
def sspec_CeilDiv_r0 : Reg :=
  { id := 0, ops := [{ op := .mv (.con (.sc (.int .i64 0))) }], clr := [2] }
def sspec_CeilDiv_r1 : Reg :=
  { id := 1, ops := [{ op := .mv (.slot 0) },
      { op := .call 71 [(false, .loc 0), (false, .con (.sc (.int .i64 0))), (false, .con (.sc (.int .i64 1000000000000)))] [] },
      { op := .un .not (.loc 1) },
      { op := .mv (.loc 2) },
      { op := .mv (.slot 1), guard := some (3, false) },
      { op := .call 71 [(false, .loc 4), (false, .con (.sc (.int .i64 1))), (false, .con (.sc (.int .i64 1000000000000)))] [], guard := some (3, false) },
      { op := .un .not (.loc 5), guard := some (3, false) },
      { op := .pick (.loc 3) (.con (.sc (.bool true))) (.loc 6) }], sets := [(3, 7)] }
def sspec_CeilDiv_r2 : Reg :=
  { id := 2, ops := [{ op := .mv (.con (.sc (.int .i64 0))) }], sets := [(2, 0)], clr := [0, 1] }
def sspec_CeilDiv_r3 : Reg :=
  { id := 3, ops := [{ op := .mv (.slot 0) },
      { op := .mv (.slot 1) },
      { op := .bin .add (.loc 0) (.loc 1) },
      { op := .bin .sub (.loc 2) (.con (.sc (.int .i64 1))) },
      { op := .mv (.slot 1) },
      { op := .bin .quo (.loc 3) (.loc 4) },
      { op := .mv (.loc 5) }], sets := [(2, 6)], clr := [0, 1] }
def sspec_CeilDiv_b : SC := .seq (.reg sspec_CeilDiv_r0) (.seq (.seq (.reg sspec_CeilDiv_r1) (.cond 3 (.seq (.reg sspec_CeilDiv_r2) (.ret)) (.skip))) (.seq (.reg sspec_CeilDiv_r3) (.ret)))
def sspec_CeilDiv : SFn := { nslots := 4, nobjs := 0, params := [0, 1], ngiven := 0, bor := false, takes := [], body := sspec_CeilDiv_b, results := [.slot 2] }
def sspec_CeilDiv_t : List Tmp := [0, 1, 4, 12]
attribute [simp] sspec_CeilDiv_r0 sspec_CeilDiv_r1 sspec_CeilDiv_r2 sspec_CeilDiv_r3 sspec_CeilDiv_b sspec_CeilDiv
def simpl_IsRollout_r0 : Reg :=
  { id := 0, ops := [{ op := .box 0 (.slot 0) },
      { op := .mv (.con (.sc (.bool false))) }], sets := [(1, 0)], clr := [0, 2] }
def simpl_IsRollout_r1 : Reg :=
  { id := 1, ops := [{ op := .fieldAddr (.slot 1) 1 },
      { op := .load none (.loc 0) },
      { op := .len false (.loc 1) },
      { op := .mv (.con (.sc (.int .i64 0))) }], sets := [(5, 1), (6, 2), (7, 3)] }
def simpl_IsRollout_r2 : Reg :=
  { id := 2, ops := [{ op := .bin .lss (.slot 7) (.slot 6) }], sets := [(8, 0)] }
def simpl_IsRollout_r3 : Reg :=
  { id := 3, ops := [{ op := .mv (.slot 7) },
      { op := .indexAddr 1 (.slot 5) (.slot 7) },
      { op := .load none (.loc 1) },
      { op := .mv (.loc 0) },
      { op := .mv (.loc 2) }], sets := [(3, 3), (4, 4)] }
def simpl_IsRollout_r4 : Reg :=
  { id := 4, ops := [{ op := .mv (.slot 4) },
      { op := .call 114 [(false, .loc 0), (false, .con (.sc (.int .i64 1))), (false, .con (.sc (.int .i64 100)))] [] },
      { op := .un .not (.loc 1) },
      { op := .mv (.loc 2) },
      { op := .mv (.slot 3), guard := some (3, false) },
      { op := .bin .gtr (.loc 4) (.con (.sc (.int .i64 0))), guard := some (3, false) },
      { op := .mv (.loc 5), guard := some (3, false) },
      { op := .fieldAddr (.slot 1) 1, guard := some (6, true) },
      { op := .load none (.loc 7), guard := some (6, true) },
      { op := .mv (.slot 3), guard := some (6, true) },
      { op := .bin .sub (.loc 9) (.con (.sc (.int .i64 1))), guard := some (6, true) },
      { op := .indexAddr 1 (.loc 8) (.loc 10), guard := some (6, true) },
      { op := .load none (.loc 11), guard := some (6, true) },
      { op := .mv (.slot 4), guard := some (6, true) },
      { op := .bin .geq (.loc 12) (.loc 13), guard := some (6, true) },
      { op := .pick (.loc 6) (.loc 14) (.con (.sc (.bool false))), guard := some (3, false) },
      { op := .pick (.loc 3) (.con (.sc (.bool true))) (.loc 15) }], sets := [(9, 16)], clr := [3, 4] }
def simpl_IsRollout_r5 : Reg :=
  { id := 5, ops := [{ op := .mv (.con (.sc (.bool false))) }], sets := [(2, 0)], clr := [1, 5, 6, 7] }
def simpl_IsRollout_r6 : Reg :=
  { id := 6, ops := [{ op := .bin .add (.slot 7) (.con (.sc (.int .i64 1))) },
      { op := .mv (.loc 0) }], sets := [(7, 1)] }
def simpl_IsRollout_r7 : Reg :=
  { id := 7, ops := [{ op := .fieldAddr (.slot 1) 0 },
      { op := .load none (.loc 0) },
      { op := .call 114 [(false, .loc 1), (false, .con (.sc (.int .i64 1))), (false, .con (.sc (.int .i64 9)))] [] },
      { op := .mv (.loc 2) },
      { op := .fieldAddr (.slot 1) 1, guard := some (3, true) },
      { op := .load none (.loc 4), guard := some (3, true) },
      { op := .len false (.loc 5), guard := some (3, true) },
      { op := .call 114 [(false, .loc 6), (false, .con (.sc (.int .i64 1))), (false, .con (.sc (.int .i64 5)))] [], guard := some (3, true) },
      { op := .pick (.loc 3) (.loc 7) (.con (.sc (.bool false))) },
      { op := .mv (.loc 8) },
      { op := .fieldAddr (.slot 1) 1, guard := some (9, true) },
      { op := .load none (.loc 10), guard := some (9, true) },
      { op := .fieldAddr (.slot 1) 1, guard := some (9, true) },
      { op := .load none (.loc 12), guard := some (9, true) },
      { op := .len false (.loc 13), guard := some (9, true) },
      { op := .bin .sub (.loc 14) (.con (.sc (.int .i64 1))), guard := some (9, true) },
      { op := .indexAddr 1 (.loc 11) (.loc 15), guard := some (9, true) },
      { op := .load none (.loc 16), guard := some (9, true) },
      { op := .bin .eql (.loc 17) (.con (.sc (.int .i64 100))), guard := some (9, true) },
      { op := .pick (.loc 9) (.loc 18) (.con (.sc (.bool false))) },
      { op := .mv (.loc 19) },
      { op := .fieldAddr (.slot 1) 2, guard := some (20, true) },
      { op := .load none (.loc 21), guard := some (20, true) },
      { op := .fieldAddr (.slot 1) 1, guard := some (20, true) },
      { op := .load none (.loc 23), guard := some (20, true) },
      { op := .len false (.loc 24), guard := some (20, true) },
      { op := .bin .sub (.loc 25) (.con (.sc (.int .i64 1))), guard := some (20, true) },
      { op := .call 114 [(false, .loc 22), (false, .con (.sc (.int .i64 0))), (false, .loc 26)] [], guard := some (20, true) },
      { op := .pick (.loc 20) (.loc 27) (.con (.sc (.bool false))) },
      { op := .mv (.loc 28) }], sets := [(2, 29)], clr := [1, 5, 6, 7] }
def simpl_IsRollout_b : SC := .seq (.reg simpl_IsRollout_r0) (.seq (.seq (.reg simpl_IsRollout_r1) (.block 0 (.loop (.seq (.reg simpl_IsRollout_r2) (.seq (.cond 8 (.skip) (.exit 0)) (.seq (.block 1 (.seq (.reg simpl_IsRollout_r3) (.seq (.reg simpl_IsRollout_r4) (.cond 9 (.seq (.reg simpl_IsRollout_r5) (.ret)) (.skip))))) (.reg simpl_IsRollout_r6))))))) (.seq (.reg simpl_IsRollout_r7) (.ret)))
def simpl_IsRollout : SFn := { nslots := 10, nobjs := 1, params := [0], ngiven := 0, bor := false, takes := [], body := simpl_IsRollout_b, results := [.slot 2] }
def simpl_IsRollout_t : List Tmp := [0, 1, 2, 3, 4, 6, 7, 8, 9, 29]
attribute [simp] simpl_IsRollout_r0 simpl_IsRollout_r1 simpl_IsRollout_r2 simpl_IsRollout_r3 simpl_IsRollout_r4 simpl_IsRollout_r5 simpl_IsRollout_r6 simpl_IsRollout_r7 simpl_IsRollout_b simpl_IsRollout
def simpl_CeilDiv_r0 : Reg :=
  { id := 0, ops := [{ op := .mv (.con (.sc (.int .i64 0))) }], clr := [2] }
def simpl_CeilDiv_r1 : Reg :=
  { id := 1, ops := [{ op := .mv (.slot 0) },
      { op := .call 114 [(false, .loc 0), (false, .con (.sc (.int .i64 0))), (false, .con (.sc (.int .i64 1000000000000)))] [] },
      { op := .un .not (.loc 1) },
      { op := .mv (.loc 2) },
      { op := .mv (.slot 1), guard := some (3, false) },
      { op := .call 114 [(false, .loc 4), (false, .con (.sc (.int .i64 1))), (false, .con (.sc (.int .i64 1000000000000)))] [], guard := some (3, false) },
      { op := .un .not (.loc 5), guard := some (3, false) },
      { op := .pick (.loc 3) (.con (.sc (.bool true))) (.loc 6) }], sets := [(3, 7)] }
def simpl_CeilDiv_r2 : Reg :=
  { id := 2, ops := [{ op := .mv (.con (.sc (.int .i64 0))) }], sets := [(2, 0)], clr := [0, 1] }
def simpl_CeilDiv_r3 : Reg :=
  { id := 3, ops := [{ op := .mv (.slot 0) },
      { op := .mv (.slot 1) },
      { op := .bin .add (.loc 0) (.loc 1) },
      { op := .bin .sub (.loc 2) (.con (.sc (.int .i64 1))) },
      { op := .mv (.slot 1) },
      { op := .bin .quo (.loc 3) (.loc 4) },
      { op := .mv (.loc 5) }], sets := [(2, 6)], clr := [0, 1] }
def simpl_CeilDiv_b : SC := .seq (.reg simpl_CeilDiv_r0) (.seq (.seq (.reg simpl_CeilDiv_r1) (.cond 3 (.seq (.reg simpl_CeilDiv_r2) (.ret)) (.skip))) (.seq (.reg simpl_CeilDiv_r3) (.ret)))
def simpl_CeilDiv : SFn := { nslots := 4, nobjs := 0, params := [0, 1], ngiven := 0, bor := false, takes := [], body := simpl_CeilDiv_b, results := [.slot 2] }
def simpl_CeilDiv_t : List Tmp := [0, 1, 4, 12]
attribute [simp] simpl_CeilDiv_r0 simpl_CeilDiv_r1 simpl_CeilDiv_r2 simpl_CeilDiv_r3 simpl_CeilDiv_b simpl_CeilDiv
def slaws_heldWorld_r0 : Reg :=
  { id := 0, ops := [{ op := .box 0 (.slot 0) },
      { op := .mv (.con (.sc (.int .i64 0))) }], sets := [(2, 0)], clr := [0, 3] }
def slaws_heldWorld_r1 : Reg :=
  { id := 1, ops := [{ op := .fieldAddr (.slot 2) 0 },
      { op := .load none (.loc 0) },
      { op := .mv (.slot 1) },
      { op := .call 57 [(false, .loc 1), (false, .loc 2)] [] },
      { op := .mv (.loc 3) }], sets := [(1, 4)] }
def slaws_heldWorld_r2 : Reg :=
  { id := 2, ops := [{ op := .mv (.slot 1) },
      { op := .bin .lss (.loc 0) (.con (.sc (.int .i64 0))) }], sets := [(4, 1)] }
def slaws_heldWorld_r3 : Reg :=
  { id := 3, ops := [{ op := .mv (.con (.sc (.int .i64 (-1)))) }], sets := [(3, 0)], clr := [1, 2] }
def slaws_heldWorld_r4 : Reg :=
  { id := 4, ops := [{ op := .fieldAddr (.slot 2) 1 },
      { op := .load none (.loc 0) },
      { op := .mv (.slot 1) },
      { op := .call 57 [(false, .loc 1), (false, .loc 2)] [] },
      { op := .mv (.loc 3) }], sets := [(1, 4)] }
def slaws_heldWorld_r5 : Reg :=
  { id := 5, ops := [{ op := .mv (.slot 1) },
      { op := .bin .lss (.loc 0) (.con (.sc (.int .i64 0))) }], sets := [(5, 1)] }
def slaws_heldWorld_r6 : Reg :=
  { id := 6, ops := [{ op := .mv (.con (.sc (.int .i64 (-1)))) }], sets := [(3, 0)], clr := [1, 2] }
def slaws_heldWorld_r7 : Reg :=
  { id := 7, ops := [{ op := .fieldAddr (.slot 2) 3 },
      { op := .load none (.loc 0) },
      { op := .mv (.slot 1) },
      { op := .call 58 [(false, .loc 1), (false, .loc 2)] [] },
      { op := .mv (.loc 3) }], sets := [(1, 4)] }
def slaws_heldWorld_r8 : Reg :=
  { id := 8, ops := [{ op := .mv (.slot 1) },
      { op := .bin .lss (.loc 0) (.con (.sc (.int .i64 0))) }], sets := [(6, 1)] }
def slaws_heldWorld_r9 : Reg :=
  { id := 9, ops := [{ op := .mv (.con (.sc (.int .i64 (-1)))) }], sets := [(3, 0)], clr := [1, 2] }
def slaws_heldWorld_r10 : Reg :=
  { id := 10, ops := [{ op := .fieldAddr (.slot 2) 4 },
      { op := .load (some 4) (.loc 0) },
      { op := .mv (.slot 1) },
      { op := .call 59 [(false, .loc 1), (false, .loc 2)] [] },
      { op := .mv (.loc 3) }], sets := [(1, 4)] }
def slaws_heldWorld_r11 : Reg :=
  { id := 11, ops := [{ op := .mv (.slot 1) },
      { op := .bin .lss (.loc 0) (.con (.sc (.int .i64 0))) }], sets := [(7, 1)] }
def slaws_heldWorld_r12 : Reg :=
  { id := 12, ops := [{ op := .mv (.con (.sc (.int .i64 (-1)))) }], sets := [(3, 0)], clr := [1, 2] }
def slaws_heldWorld_r13 : Reg :=
  { id := 13, ops := [{ op := .fieldAddr (.slot 2) 10 },
      { op := .load none (.loc 0) },
      { op := .mv (.slot 1) },
      { op := .call 60 [(false, .loc 1), (false, .loc 2)] [] },
      { op := .mv (.loc 3) }], sets := [(1, 4)] }
def slaws_heldWorld_r14 : Reg :=
  { id := 14, ops := [{ op := .mv (.slot 1) },
      { op := .bin .lss (.loc 0) (.con (.sc (.int .i64 0))) }], sets := [(8, 1)] }
def slaws_heldWorld_r15 : Reg :=
  { id := 15, ops := [{ op := .mv (.con (.sc (.int .i64 (-1)))) }], sets := [(3, 0)], clr := [1, 2] }
def slaws_heldWorld_r16 : Reg :=
  { id := 16, ops := [{ op := .fieldAddr (.slot 2) 11 },
      { op := .load none (.loc 0) },
      { op := .mv (.slot 1) },
      { op := .call 61 [(false, .loc 1), (false, .loc 2)] [] },
      { op := .mv (.loc 3) }], sets := [(1, 4)], clr := [2] }
def slaws_heldWorld_r17 : Reg :=
  { id := 17, ops := [{ op := .mv (.slot 1) },
      { op := .bin .lss (.loc 0) (.con (.sc (.int .i64 0))) }], sets := [(9, 1)] }
def slaws_heldWorld_r18 : Reg :=
  { id := 18, ops := [{ op := .mv (.con (.sc (.int .i64 (-1)))) }], sets := [(3, 0)], clr := [1] }
def slaws_heldWorld_r19 : Reg :=
  { id := 19, ops := [{ op := .mv (.slot 1) },
      { op := .mv (.loc 0) }], sets := [(3, 1)], clr := [1] }
def slaws_heldWorld_b : SC := .seq (.reg slaws_heldWorld_r0) (.seq (.reg slaws_heldWorld_r1) (.seq (.seq (.reg slaws_heldWorld_r2) (.cond 4 (.seq (.reg slaws_heldWorld_r3) (.ret)) (.skip))) (.seq (.reg slaws_heldWorld_r4) (.seq (.seq (.reg slaws_heldWorld_r5) (.cond 5 (.seq (.reg slaws_heldWorld_r6) (.ret)) (.skip))) (.seq (.reg slaws_heldWorld_r7) (.seq (.seq (.reg slaws_heldWorld_r8) (.cond 6 (.seq (.reg slaws_heldWorld_r9) (.ret)) (.skip))) (.seq (.reg slaws_heldWorld_r10) (.seq (.seq (.reg slaws_heldWorld_r11) (.cond 7 (.seq (.reg slaws_heldWorld_r12) (.ret)) (.skip))) (.seq (.reg slaws_heldWorld_r13) (.seq (.seq (.reg slaws_heldWorld_r14) (.cond 8 (.seq (.reg slaws_heldWorld_r15) (.ret)) (.skip))) (.seq (.reg slaws_heldWorld_r16) (.seq (.seq (.reg slaws_heldWorld_r17) (.cond 9 (.seq (.reg slaws_heldWorld_r18) (.ret)) (.skip))) (.seq (.reg slaws_heldWorld_r19) (.ret))))))))))))))
def slaws_heldWorld : SFn := { nslots := 10, nobjs := 1, params := [0, 1], ngiven := 0, bor := false, takes := [], body := slaws_heldWorld_b, results := [.slot 3] }
def slaws_heldWorld_t : List Tmp := [0, 1, 2, 4, 10, 16, 22, 28, 34, 40]
attribute [simp] slaws_heldWorld_r0 slaws_heldWorld_r1 slaws_heldWorld_r2 slaws_heldWorld_r3 slaws_heldWorld_r4 slaws_heldWorld_r5 slaws_heldWorld_r6 slaws_heldWorld_r7 slaws_heldWorld_r8 slaws_heldWorld_r9 slaws_heldWorld_r10 slaws_heldWorld_r11 slaws_heldWorld_r12 slaws_heldWorld_r13 slaws_heldWorld_r14 slaws_heldWorld_r15 slaws_heldWorld_r16 slaws_heldWorld_r17 slaws_heldWorld_r18 slaws_heldWorld_r19 slaws_heldWorld_b slaws_heldWorld
def sspec_l32Copy_r0 : Reg :=
  { id := 0, ops := [{ op := .box 0 (.slot 0) },
      { op := .alloc 1 [.nil 1, .nil 1, .sc (.int .i64 0), .nil 4, .sc (.int .i64 0), .nil 1, .sc (.int .i64 0), .sc (.bool false), .sc (.int .i64 0), .sc (.int .i64 0), .nil 5, .nil 8, .sc (.int .i64 0), .sc (.int .i64 0), .sc (.int .i64 0)] }], sets := [(1, 0), (2, 1)], clr := [0] }
def sspec_l32Copy_r1 : Reg :=
  { id := 1, ops := [{ op := .load (some 15) (.slot 1) },
      { op := .alloc 2 [.nil 1, .nil 1, .sc (.int .i64 0), .nil 4, .sc (.int .i64 0), .nil 1, .sc (.int .i64 0), .sc (.bool false), .sc (.int .i64 0), .sc (.int .i64 0), .nil 5, .nil 8, .sc (.int .i64 0), .sc (.int .i64 0), .sc (.int .i64 0)] },
      { op := .store 15 (.loc 1) (.loc 0) }], sets := [(3, 1)] }
def sspec_l32Copy_r2 : Reg :=
  { id := 2, ops := [{ op := .buildSlice 3 1 0 [] },
      { op := .fieldAddr (.slot 1) 0 },
      { op := .load none (.loc 1) },
      { op := .append 4 1 8 false (.loc 0) (.loc 2) },
      { op := .fieldAddr (.slot 3) 0 },
      { op := .store 1 (.loc 4) (.loc 3) }] }
def sspec_l32Copy_r3 : Reg :=
  { id := 3, ops := [{ op := .buildSlice 5 1 0 [] },
      { op := .fieldAddr (.slot 1) 1 },
      { op := .load none (.loc 1) },
      { op := .append 6 1 8 false (.loc 0) (.loc 2) },
      { op := .fieldAddr (.slot 3) 1 },
      { op := .store 1 (.loc 4) (.loc 3) }] }
def sspec_l32Copy_r4 : Reg :=
  { id := 4, ops := [{ op := .buildSlice 7 4 0 [] },
      { op := .fieldAddr (.slot 3) 3 },
      { op := .store 1 (.loc 1) (.loc 0) }], ghosts := [.ren 7 24] }
def sspec_l32Copy_r5 : Reg :=
  { id := 5, ops := [{ op := .mv (.con (.sc (.int .i64 0))) }], sets := [(4, 0)] }
def sspec_l32Copy_r6 : Reg :=
  { id := 6, ops := [{ op := .mv (.slot 4) },
      { op := .fieldAddr (.slot 1) 3 },
      { op := .load none (.loc 1) },
      { op := .len false (.loc 2) },
      { op := .bin .lss (.loc 0) (.loc 3) }], sets := [(7, 4)] }
def sspec_l32Copy_r7 : Reg :=
  { id := 8, draw := true, fresh := [8, 9, 10, 11, 12], ops := [{ op := .fieldAddr (.slot 3) 3, tau := some [], om := [] },
      { op := .load none (.loc 0), tau := some [2], om := [] },
      { op := .fieldAddr (.slot 1) 3, tau := some [], om := [] },
      { op := .load none (.loc 2), tau := some [0], om := [] },
      { op := .mv (.slot 4), tau := some [], om := [] },
      { op := .indexAddr 4 (.loc 3) (.loc 4), tau := some [], om := [] },
      { op := .load (some 4) (.loc 5), tau := some [], om := [] },
      { op := .call 65 [(false, .loc 6)] [8, 9, 10], tau := some [8, 9, 10], om := [8, 9, 10] },
      { op := .buildSlice 11 4 1 [.loc 7], tau := some [8, 9, 10, 11], om := [8, 9, 10, 11] },
      { op := .append 12 4 80 true (.loc 1) (.loc 8), tau := some [11, 12, 24], om := [11, 12, 24] },
      { op := .fieldAddr (.slot 3) 3, tau := some [], om := [] },
      { op := .store 1 (.loc 10) (.loc 9), tau := some [2], om := [2] }], ghosts := [.ren 12 24] }
def sspec_l32Copy_r8 : Reg :=
  { id := 7, ops := [{ op := .mv (.slot 4) },
      { op := .bin .add (.loc 0) (.con (.sc (.int .i64 1))) },
      { op := .mv (.loc 1) }], sets := [(4, 2)] }
def sspec_l32Copy_r9 : Reg :=
  { id := 9, ops := [{ op := .fieldAddr (.slot 1) 4 },
      { op := .load (some 4) (.loc 0) },
      { op := .call 66 [(false, .loc 1)] [13] },
      { op := .fieldAddr (.slot 3) 4 },
      { op := .store 4 (.loc 3) (.loc 2) }], clr := [4] }
def sspec_l32Copy_r10 : Reg :=
  { id := 10, ops := [{ op := .buildSlice 14 5 0 [] },
      { op := .fieldAddr (.slot 3) 10 },
      { op := .store 1 (.loc 1) (.loc 0) }], ghosts := [.ren 14 25] }
def sspec_l32Copy_r11 : Reg :=
  { id := 11, ops := [{ op := .mv (.con (.sc (.int .i64 0))) }], sets := [(5, 0)] }
def sspec_l32Copy_r12 : Reg :=
  { id := 12, ops := [{ op := .mv (.slot 5) },
      { op := .fieldAddr (.slot 1) 10 },
      { op := .load none (.loc 1) },
      { op := .len false (.loc 2) },
      { op := .bin .lss (.loc 0) (.loc 3) }], sets := [(8, 4)] }
def sspec_l32Copy_r13 : Reg :=
  { id := 14, draw := true, fresh := [15, 16, 17, 18], ops := [{ op := .fieldAddr (.slot 3) 10, tau := some [], om := [] },
      { op := .load none (.loc 0), tau := some [2], om := [] },
      { op := .fieldAddr (.slot 1) 10, tau := some [], om := [] },
      { op := .load none (.loc 2), tau := some [0], om := [] },
      { op := .mv (.slot 5), tau := some [], om := [] },
      { op := .indexAddr 5 (.loc 3) (.loc 4), tau := some [], om := [] },
      { op := .load (some 5) (.loc 5), tau := some [], om := [] },
      { op := .call 67 [(false, .loc 6)] [15, 16], tau := some [15, 16], om := [15, 16] },
      { op := .buildSlice 17 5 1 [.loc 7], tau := some [15, 16, 17], om := [15, 16, 17] },
      { op := .append 18 5 72 true (.loc 1) (.loc 8), tau := some [17, 18, 25], om := [17, 18, 25] },
      { op := .fieldAddr (.slot 3) 10, tau := some [], om := [] },
      { op := .store 1 (.loc 10) (.loc 9), tau := some [2], om := [2] }], ghosts := [.ren 18 25] }
def sspec_l32Copy_r14 : Reg :=
  { id := 13, ops := [{ op := .mv (.slot 5) },
      { op := .bin .add (.loc 0) (.con (.sc (.int .i64 1))) },
      { op := .mv (.loc 1) }], sets := [(5, 2)] }
def sspec_l32Copy_r15 : Reg :=
  { id := 15, ops := [{ op := .buildSlice 19 8 0 [] },
      { op := .fieldAddr (.slot 3) 11 },
      { op := .store 1 (.loc 1) (.loc 0) }], ghosts := [.ren 19 26], clr := [5] }
def sspec_l32Copy_r16 : Reg :=
  { id := 16, ops := [{ op := .mv (.con (.sc (.int .i64 0))) }], sets := [(6, 0)] }
def sspec_l32Copy_r17 : Reg :=
  { id := 17, ops := [{ op := .mv (.slot 6) },
      { op := .fieldAddr (.slot 1) 11 },
      { op := .load none (.loc 1) },
      { op := .len false (.loc 2) },
      { op := .bin .lss (.loc 0) (.loc 3) }], sets := [(9, 4)] }
def sspec_l32Copy_r18 : Reg :=
  { id := 19, draw := true, fresh := [20, 21, 22, 23], ops := [{ op := .fieldAddr (.slot 3) 11, tau := some [], om := [] },
      { op := .load none (.loc 0), tau := some [2], om := [] },
      { op := .fieldAddr (.slot 1) 11, tau := some [], om := [] },
      { op := .load none (.loc 2), tau := some [0], om := [] },
      { op := .mv (.slot 6), tau := some [], om := [] },
      { op := .indexAddr 8 (.loc 3) (.loc 4), tau := some [], om := [] },
      { op := .fieldAddr (.loc 5) 0, tau := some [], om := [] },
      { op := .load none (.loc 6), tau := some [], om := [] },
      { op := .fieldAddr (.slot 1) 11, tau := some [], om := [] },
      { op := .load none (.loc 8), tau := some [0], om := [] },
      { op := .mv (.slot 6), tau := some [], om := [] },
      { op := .indexAddr 8 (.loc 9) (.loc 10), tau := some [], om := [] },
      { op := .fieldAddr (.loc 11) 1, tau := some [], om := [] },
      { op := .load none (.loc 12), tau := some [], om := [] },
      { op := .fieldAddr (.slot 1) 11, tau := some [], om := [] },
      { op := .load none (.loc 14), tau := some [0], om := [] },
      { op := .mv (.slot 6), tau := some [], om := [] },
      { op := .indexAddr 8 (.loc 15) (.loc 16), tau := some [], om := [] },
      { op := .fieldAddr (.loc 17) 2, tau := some [], om := [] },
      { op := .load none (.loc 18), tau := some [], om := [] },
      { op := .fieldAddr (.slot 1) 11, tau := some [], om := [] },
      { op := .load none (.loc 20), tau := some [0], om := [] },
      { op := .mv (.slot 6), tau := some [], om := [] },
      { op := .indexAddr 8 (.loc 21) (.loc 22), tau := some [], om := [] },
      { op := .fieldAddr (.loc 23) 3, tau := some [], om := [] },
      { op := .load (some 5) (.loc 24), tau := some [], om := [] },
      { op := .call 67 [(false, .loc 25)] [20, 21], tau := some [20, 21], om := [20, 21] },
      { op := .build [.sc (.int .i64 0), .sc (.int .i64 0), .sc (.bool false), .sc (.bool false), .sc (.int .i64 0), .nil 1, .sc (.int .i64 0), .nil 1] [(0, 1, .loc 7), (1, 1, .loc 13), (2, 1, .loc 19), (3, 5, .loc 26)], tau := some [], om := [] },
      { op := .buildSlice 22 8 1 [.loc 27], tau := some [20, 21, 22], om := [20, 21, 22] },
      { op := .append 23 8 96 true (.loc 1) (.loc 28), tau := some [22, 23, 26], om := [22, 23, 26] },
      { op := .fieldAddr (.slot 3) 11, tau := some [], om := [] },
      { op := .store 1 (.loc 30) (.loc 29), tau := some [2], om := [2] }], ghosts := [.ren 23 26] }
def sspec_l32Copy_r19 : Reg :=
  { id := 18, ops := [{ op := .mv (.slot 6) },
      { op := .bin .add (.loc 0) (.con (.sc (.int .i64 1))) },
      { op := .mv (.loc 1) }], sets := [(6, 2)] }
def sspec_l32Copy_r20 : Reg :=
  { id := 20, ops := [{ op := .load (some 15) (.slot 3) },
      { op := .store 15 (.slot 2) (.loc 0) }], clr := [1, 3, 6] }
def sspec_l32Copy_b : SC := .seq (.reg sspec_l32Copy_r0) (.seq (.reg sspec_l32Copy_r1) (.seq (.reg sspec_l32Copy_r2) (.seq (.reg sspec_l32Copy_r3) (.seq (.reg sspec_l32Copy_r4) (.seq (.seq (.reg sspec_l32Copy_r5) (.block 0 (.loop (.seq (.seq (.reg sspec_l32Copy_r6) (.cond 7 (.skip) (.exit 0))) (.seq (.block 1 (.reg sspec_l32Copy_r7)) (.reg sspec_l32Copy_r8)))))) (.seq (.reg sspec_l32Copy_r9) (.seq (.reg sspec_l32Copy_r10) (.seq (.seq (.reg sspec_l32Copy_r11) (.block 2 (.loop (.seq (.seq (.reg sspec_l32Copy_r12) (.cond 8 (.skip) (.exit 2))) (.seq (.block 3 (.reg sspec_l32Copy_r13)) (.reg sspec_l32Copy_r14)))))) (.seq (.reg sspec_l32Copy_r15) (.seq (.seq (.reg sspec_l32Copy_r16) (.block 4 (.loop (.seq (.seq (.reg sspec_l32Copy_r17) (.cond 9 (.skip) (.exit 4))) (.seq (.block 5 (.reg sspec_l32Copy_r18)) (.reg sspec_l32Copy_r19)))))) (.seq (.reg sspec_l32Copy_r20) (.ret))))))))))))
def sspec_l32Copy : SFn := { nslots := 10, nobjs := 27, params := [0], ngiven := 0, bor := false, takes := [], body := sspec_l32Copy_b, results := [.cell 2 (some 15)] }
def sspec_l32Copy_t : List Tmp := [0, 1, 2, 3, 4, 5, 6, 24, 48, 68]
attribute [simp] sspec_l32Copy_r0 sspec_l32Copy_r1 sspec_l32Copy_r2 sspec_l32Copy_r3 sspec_l32Copy_r4 sspec_l32Copy_r5 sspec_l32Copy_r6 sspec_l32Copy_r7 sspec_l32Copy_r8 sspec_l32Copy_r9 sspec_l32Copy_r10 sspec_l32Copy_r11 sspec_l32Copy_r12 sspec_l32Copy_r13 sspec_l32Copy_r14 sspec_l32Copy_r15 sspec_l32Copy_r16 sspec_l32Copy_r17 sspec_l32Copy_r18 sspec_l32Copy_r19 sspec_l32Copy_r20 sspec_l32Copy_b sspec_l32Copy
def simpl_copyWorld_r0 : Reg :=
  { id := 0, ops := [{ op := .box 0 (.slot 0) },
      { op := .alloc 1 [.nil 1, .nil 1, .sc (.int .i64 0), .nil 4, .sc (.int .i64 0), .nil 1, .sc (.int .i64 0), .sc (.bool false), .sc (.int .i64 0), .sc (.int .i64 0), .nil 5, .nil 8, .sc (.int .i64 0), .sc (.int .i64 0), .sc (.int .i64 0)] }], sets := [(1, 0), (2, 1)], clr := [0] }
def simpl_copyWorld_r1 : Reg :=
  { id := 1, ops := [{ op := .load (some 15) (.slot 1) },
      { op := .alloc 2 [.nil 1, .nil 1, .sc (.int .i64 0), .nil 4, .sc (.int .i64 0), .nil 1, .sc (.int .i64 0), .sc (.bool false), .sc (.int .i64 0), .sc (.int .i64 0), .nil 5, .nil 8, .sc (.int .i64 0), .sc (.int .i64 0), .sc (.int .i64 0)] },
      { op := .store 15 (.loc 1) (.loc 0) }], sets := [(3, 1)] }
def simpl_copyWorld_r2 : Reg :=
  { id := 2, draw := true, ops := [{ op := .buildSlice 3 1 0 [], tau := some [3], om := [3] },
      { op := .fieldAddr (.slot 1) 0, tau := some [], om := [] },
      { op := .load none (.loc 1), tau := some [0], om := [] },
      { op := .append 4 1 8 false (.loc 0) (.loc 2), tau := some [3, 4], om := [3, 4] },
      { op := .buildSlice 5 1 0 [], tau := some [5], om := [5] },
      { op := .fieldAddr (.slot 1) 1, tau := some [], om := [] },
      { op := .load none (.loc 5), tau := some [0], om := [] },
      { op := .append 6 1 8 false (.loc 4) (.loc 6), tau := some [5, 6], om := [5, 6] },
      { op := .fieldAddr (.slot 1) 4, tau := some [], om := [] },
      { op := .load (some 4) (.loc 8), tau := some [0], om := [] },
      { op := .call 101 [(false, .loc 9)] [7], tau := some [7], om := [7] },
      { op := .fieldAddr (.slot 3) 0, tau := some [], om := [] },
      { op := .store 1 (.loc 11) (.loc 3), tau := some [2], om := [2] },
      { op := .fieldAddr (.slot 3) 1, tau := some [], om := [] },
      { op := .store 1 (.loc 13) (.loc 7), tau := some [2], om := [2] },
      { op := .fieldAddr (.slot 3) 4, tau := some [], om := [] },
      { op := .store 4 (.loc 15) (.loc 10), tau := some [2], om := [2] }] }
def simpl_copyWorld_r3 : Reg :=
  { id := 3, ops := [{ op := .fieldAddr (.slot 3) 3 },
      { op := .store 1 (.loc 0) (.con (.nil 4)) },
      { op := .fieldAddr (.slot 3) 10 },
      { op := .store 1 (.loc 2) (.con (.nil 5)) },
      { op := .fieldAddr (.slot 3) 11 },
      { op := .store 1 (.loc 4) (.con (.nil 8)) }], ghosts := [.ownc 2 10 25, .ownc 2 11 26, .ownc 2 3 24] }
def simpl_copyWorld_r4 : Reg :=
  { id := 4, ops := [{ op := .fieldAddr (.slot 1) 3 },
      { op := .load none (.loc 0) },
      { op := .len false (.loc 1) },
      { op := .mv (.con (.sc (.int .i64 0))) }], sets := [(7, 1), (8, 2), (9, 3)] }
def simpl_copyWorld_r5 : Reg :=
  { id := 5, ops := [{ op := .bin .lss (.slot 9) (.slot 8) }], sets := [(10, 0)] }
def simpl_copyWorld_r6 : Reg :=
  { id := 6, fresh := [8], ops := [{ op := .indexAddr 4 (.slot 7) (.slot 9) },
      { op := .load (some 4) (.loc 0) },
      { op := .alloc 8 [.nil 1, .nil 1, .nil 4, .sc (.int .i64 0)] },
      { op := .store 4 (.loc 2) (.loc 1) }], sets := [(4, 2)] }
def simpl_copyWorld_r7 : Reg :=
  { id := 7, draw := true, fresh := [9, 10, 11, 12, 13], ops := [{ op := .fieldAddr (.slot 3) 3, tau := some [], om := [] },
      { op := .load none (.loc 0), tau := some [2], om := [] },
      { op := .load (some 4) (.slot 4), tau := some [8], om := [] },
      { op := .call 102 [(false, .loc 2)] [9, 10, 11], tau := some [9, 10, 11], om := [9, 10, 11] },
      { op := .buildSlice 12 4 1 [.loc 3], tau := some [9, 10, 11, 12], om := [9, 10, 11, 12] },
      { op := .append 13 4 80 true (.loc 1) (.loc 4), tau := some [12, 13, 24], om := [12, 13, 24] },
      { op := .fieldAddr (.slot 3) 3, tau := some [], om := [] },
      { op := .store 1 (.loc 6) (.loc 5), tau := some [2], om := [2] }], ghosts := [.ren 13 24], clr := [4] }
def simpl_copyWorld_r8 : Reg :=
  { id := 8, ops := [{ op := .bin .add (.slot 9) (.con (.sc (.int .i64 1))) },
      { op := .mv (.loc 0) }], sets := [(9, 1)] }
def simpl_copyWorld_r9 : Reg :=
  { id := 9, ops := [{ op := .fieldAddr (.slot 1) 10 },
      { op := .load none (.loc 0) },
      { op := .len false (.loc 1) },
      { op := .mv (.con (.sc (.int .i64 0))) }], sets := [(11, 1), (12, 2), (13, 3)], clr := [7, 8, 9] }
def simpl_copyWorld_r10 : Reg :=
  { id := 10, ops := [{ op := .bin .lss (.slot 13) (.slot 12) }], sets := [(14, 0)] }
def simpl_copyWorld_r11 : Reg :=
  { id := 11, fresh := [14], ops := [{ op := .indexAddr 5 (.slot 11) (.slot 13) },
      { op := .load (some 5) (.loc 0) },
      { op := .alloc 14 [.sc (.bool false), .sc (.int .i64 0), .nil 1, .sc (.int .i64 0), .nil 1] },
      { op := .store 5 (.loc 2) (.loc 1) }], sets := [(5, 2)] }
def simpl_copyWorld_r12 : Reg :=
  { id := 12, draw := true, fresh := [15, 16, 17, 18], ops := [{ op := .fieldAddr (.slot 3) 10, tau := some [], om := [] },
      { op := .load none (.loc 0), tau := some [2], om := [] },
      { op := .load (some 5) (.slot 5), tau := some [14], om := [] },
      { op := .call 103 [(false, .loc 2)] [15, 16], tau := some [15, 16], om := [15, 16] },
      { op := .buildSlice 17 5 1 [.loc 3], tau := some [15, 16, 17], om := [15, 16, 17] },
      { op := .append 18 5 72 true (.loc 1) (.loc 4), tau := some [17, 18, 25], om := [17, 18, 25] },
      { op := .fieldAddr (.slot 3) 10, tau := some [], om := [] },
      { op := .store 1 (.loc 6) (.loc 5), tau := some [2], om := [2] }], ghosts := [.ren 18 25], clr := [5] }
def simpl_copyWorld_r13 : Reg :=
  { id := 13, ops := [{ op := .bin .add (.slot 13) (.con (.sc (.int .i64 1))) },
      { op := .mv (.loc 0) }], sets := [(13, 1)] }
def simpl_copyWorld_r14 : Reg :=
  { id := 14, ops := [{ op := .fieldAddr (.slot 1) 11 },
      { op := .load none (.loc 0) },
      { op := .len false (.loc 1) },
      { op := .mv (.con (.sc (.int .i64 0))) }], sets := [(15, 1), (16, 2), (17, 3)], clr := [1, 11, 12, 13] }
def simpl_copyWorld_r15 : Reg :=
  { id := 15, ops := [{ op := .bin .lss (.slot 17) (.slot 16) }], sets := [(18, 0)] }
def simpl_copyWorld_r16 : Reg :=
  { id := 16, fresh := [19], ops := [{ op := .indexAddr 8 (.slot 15) (.slot 17) },
      { op := .load (some 8) (.loc 0) },
      { op := .alloc 19 [.sc (.int .i64 0), .sc (.int .i64 0), .sc (.bool false), .sc (.bool false), .sc (.int .i64 0), .nil 1, .sc (.int .i64 0), .nil 1] },
      { op := .store 8 (.loc 2) (.loc 1) }], sets := [(6, 2)] }
def simpl_copyWorld_r17 : Reg :=
  { id := 17, fresh := [20, 21], ops := [{ op := .fieldAddr (.slot 6) 3 },
      { op := .load (some 5) (.loc 0) },
      { op := .call 103 [(false, .loc 1)] [20, 21] },
      { op := .fieldAddr (.slot 6) 3 },
      { op := .store 5 (.loc 3) (.loc 2) }] }
def simpl_copyWorld_r18 : Reg :=
  { id := 18, fresh := [22, 23], ops := [{ op := .fieldAddr (.slot 3) 11 },
      { op := .load none (.loc 0) },
      { op := .load (some 8) (.slot 6) },
      { op := .buildSlice 22 8 1 [.loc 2] },
      { op := .append 23 8 96 true (.loc 1) (.loc 3) },
      { op := .fieldAddr (.slot 3) 11 },
      { op := .store 1 (.loc 5) (.loc 4) }], ghosts := [.ren 23 26], clr := [6] }
def simpl_copyWorld_r19 : Reg :=
  { id := 19, ops := [{ op := .bin .add (.slot 17) (.con (.sc (.int .i64 1))) },
      { op := .mv (.loc 0) }], sets := [(17, 1)] }
def simpl_copyWorld_r20 : Reg :=
  { id := 20, ops := [{ op := .load (some 15) (.slot 3) },
      { op := .store 15 (.slot 2) (.loc 0) }], clr := [3, 15, 16, 17] }
def simpl_copyWorld_b : SC := .seq (.reg simpl_copyWorld_r0) (.seq (.reg simpl_copyWorld_r1) (.seq (.reg simpl_copyWorld_r2) (.seq (.reg simpl_copyWorld_r3) (.seq (.seq (.reg simpl_copyWorld_r4) (.block 0 (.loop (.seq (.reg simpl_copyWorld_r5) (.seq (.cond 10 (.skip) (.exit 0)) (.seq (.block 1 (.seq (.reg simpl_copyWorld_r6) (.reg simpl_copyWorld_r7))) (.reg simpl_copyWorld_r8))))))) (.seq (.seq (.reg simpl_copyWorld_r9) (.block 2 (.loop (.seq (.reg simpl_copyWorld_r10) (.seq (.cond 14 (.skip) (.exit 2)) (.seq (.block 3 (.seq (.reg simpl_copyWorld_r11) (.reg simpl_copyWorld_r12))) (.reg simpl_copyWorld_r13))))))) (.seq (.seq (.reg simpl_copyWorld_r14) (.block 4 (.loop (.seq (.reg simpl_copyWorld_r15) (.seq (.cond 18 (.skip) (.exit 4)) (.seq (.block 5 (.seq (.reg simpl_copyWorld_r16) (.seq (.reg simpl_copyWorld_r17) (.reg simpl_copyWorld_r18)))) (.reg simpl_copyWorld_r19))))))) (.seq (.reg simpl_copyWorld_r20) (.ret))))))))
def simpl_copyWorld : SFn := { nslots := 19, nobjs := 27, params := [0], ngiven := 0, bor := false, takes := [], body := simpl_copyWorld_b, results := [.cell 2 (some 15)] }
def simpl_copyWorld_t : List Tmp := [0, 1, 2, 3, 5, 7, 9, 29, 30, 31, 32, 44, 45, 46, 47, 59, 60, 61, 62]
attribute [simp] simpl_copyWorld_r0 simpl_copyWorld_r1 simpl_copyWorld_r2 simpl_copyWorld_r3 simpl_copyWorld_r4 simpl_copyWorld_r5 simpl_copyWorld_r6 simpl_copyWorld_r7 simpl_copyWorld_r8 simpl_copyWorld_r9 simpl_copyWorld_r10 simpl_copyWorld_r11 simpl_copyWorld_r12 simpl_copyWorld_r13 simpl_copyWorld_r14 simpl_copyWorld_r15 simpl_copyWorld_r16 simpl_copyWorld_r17 simpl_copyWorld_r18 simpl_copyWorld_r19 simpl_copyWorld_r20 simpl_copyWorld_b simpl_copyWorld
def slaws_heldRollout_r0 : Reg :=
  { id := 0, ops := [{ op := .box 0 (.slot 0) },
      { op := .mv (.con (.sc (.int .i64 0))) }], sets := [(2, 0)], clr := [0, 3] }
def slaws_heldRollout_r1 : Reg :=
  { id := 1, ops := [{ op := .fieldAddr (.slot 2) 1 },
      { op := .load none (.loc 0) },
      { op := .mv (.slot 1) },
      { op := .call 57 [(false, .loc 1), (false, .loc 2)] [] },
      { op := .mv (.loc 3) }], sets := [(1, 4)], clr := [2] }
def slaws_heldRollout_r2 : Reg :=
  { id := 2, ops := [{ op := .mv (.slot 1) },
      { op := .bin .lss (.loc 0) (.con (.sc (.int .i64 0))) }], sets := [(4, 1)] }
def slaws_heldRollout_r3 : Reg :=
  { id := 3, ops := [{ op := .mv (.con (.sc (.int .i64 (-1)))) }], sets := [(3, 0)], clr := [1] }
def slaws_heldRollout_r4 : Reg :=
  { id := 4, ops := [{ op := .mv (.slot 1) },
      { op := .mv (.loc 0) }], sets := [(3, 1)], clr := [1] }
def slaws_heldRollout_b : SC := .seq (.reg slaws_heldRollout_r0) (.seq (.reg slaws_heldRollout_r1) (.seq (.seq (.reg slaws_heldRollout_r2) (.cond 4 (.seq (.reg slaws_heldRollout_r3) (.ret)) (.skip))) (.seq (.reg slaws_heldRollout_r4) (.ret))))
def slaws_heldRollout : SFn := { nslots := 5, nobjs := 1, params := [0, 1], ngiven := 0, bor := false, takes := [], body := slaws_heldRollout_b, results := [.slot 3] }
def slaws_heldRollout_t : List Tmp := [0, 1, 2, 4, 10]
attribute [simp] slaws_heldRollout_r0 slaws_heldRollout_r1 slaws_heldRollout_r2 slaws_heldRollout_r3 slaws_heldRollout_r4 slaws_heldRollout_b slaws_heldRollout
def slaws_heldDialedS_r0 : Reg :=
  { id := 0, ops := [{ op := .mv (.con (.sc (.int .i64 0))) }], clr := [2] }
def slaws_heldDialedS_r1 : Reg :=
  { id := 1, ops := [{ op := .mv (.con (.sc (.int .i64 0))) }], sets := [(3, 0)] }
def slaws_heldDialedS_r2 : Reg :=
  { id := 2, ops := [{ op := .mv (.slot 3) },
      { op := .mv (.slot 0) },
      { op := .len false (.loc 1) },
      { op := .bin .lss (.loc 0) (.loc 2) }], sets := [(4, 3)] }
def slaws_heldDialedS_r3 : Reg :=
  { id := 4, ops := [{ op := .mv (.slot 0) },
      { op := .mv (.slot 3) },
      { op := .indexAddr 5 (.loc 0) (.loc 1) },
      { op := .fieldAddr (.loc 2) 0 },
      { op := .fieldAddr (.loc 3) 0 },
      { op := .load none (.loc 4) },
      { op := .mv (.slot 1) },
      { op := .bin .rem (.loc 6) (.con (.sc (.int .i64 3))) },
      { op := .bin .eql (.loc 7) (.con (.sc (.int .i64 0))) },
      { op := .beq true (.loc 5) (.loc 8) }], sets := [(5, 9)] }
def slaws_heldDialedS_r4 : Reg :=
  { id := 5, ops := [{ op := .mv (.con (.sc (.int .i64 (-1)))) }], sets := [(2, 0)], clr := [0, 1, 3] }
def slaws_heldDialedS_r5 : Reg :=
  { id := 6, ops := [{ op := .mv (.slot 1) },
      { op := .bin .add (.loc 0) (.con (.sc (.int .i64 1))) },
      { op := .mv (.loc 1) }], sets := [(1, 2)] }
def slaws_heldDialedS_r6 : Reg :=
  { id := 7, ops := [{ op := .mv (.slot 0) },
      { op := .mv (.slot 3) },
      { op := .indexAddr 5 (.loc 0) (.loc 1) },
      { op := .fieldAddr (.loc 2) 0 },
      { op := .fieldAddr (.loc 3) 1 },
      { op := .load none (.loc 4) },
      { op := .mv (.slot 1) },
      { op := .bin .neq (.loc 5) (.loc 6) }], sets := [(6, 7)] }
def slaws_heldDialedS_r7 : Reg :=
  { id := 8, ops := [{ op := .mv (.con (.sc (.int .i64 (-1)))) }], sets := [(2, 0)], clr := [0, 1, 3] }
def slaws_heldDialedS_r8 : Reg :=
  { id := 9, ops := [{ op := .mv (.slot 1) },
      { op := .bin .add (.loc 0) (.con (.sc (.int .i64 1))) },
      { op := .mv (.loc 1) }], sets := [(1, 2)] }
def slaws_heldDialedS_r9 : Reg :=
  { id := 10, ops := [{ op := .mv (.slot 0) },
      { op := .mv (.slot 3) },
      { op := .indexAddr 5 (.loc 0) (.loc 1) },
      { op := .fieldAddr (.loc 2) 0 },
      { op := .fieldAddr (.loc 3) 2 },
      { op := .load none (.loc 4) },
      { op := .mv (.slot 1) },
      { op := .call 57 [(false, .loc 5), (false, .loc 6)] [] },
      { op := .mv (.loc 7) }], sets := [(1, 8)] }
def slaws_heldDialedS_r10 : Reg :=
  { id := 11, ops := [{ op := .mv (.slot 1) },
      { op := .bin .lss (.loc 0) (.con (.sc (.int .i64 0))) }], sets := [(7, 1)] }
def slaws_heldDialedS_r11 : Reg :=
  { id := 12, ops := [{ op := .mv (.con (.sc (.int .i64 (-1)))) }], sets := [(2, 0)], clr := [0, 1, 3] }
def slaws_heldDialedS_r12 : Reg :=
  { id := 13, ops := [{ op := .mv (.slot 0) },
      { op := .mv (.slot 3) },
      { op := .indexAddr 5 (.loc 0) (.loc 1) },
      { op := .fieldAddr (.loc 2) 3 },
      { op := .load none (.loc 3) },
      { op := .mv (.slot 1) },
      { op := .bin .neq (.loc 4) (.loc 5) }], sets := [(8, 6)] }
def slaws_heldDialedS_r13 : Reg :=
  { id := 14, ops := [{ op := .mv (.con (.sc (.int .i64 (-1)))) }], sets := [(2, 0)], clr := [0, 1, 3] }
def slaws_heldDialedS_r14 : Reg :=
  { id := 15, ops := [{ op := .mv (.slot 1) },
      { op := .bin .add (.loc 0) (.con (.sc (.int .i64 1))) },
      { op := .mv (.loc 1) }], sets := [(1, 2)] }
def slaws_heldDialedS_r15 : Reg :=
  { id := 16, ops := [{ op := .mv (.slot 0) },
      { op := .mv (.slot 3) },
      { op := .indexAddr 5 (.loc 0) (.loc 1) },
      { op := .fieldAddr (.loc 2) 4 },
      { op := .load none (.loc 3) },
      { op := .mv (.slot 1) },
      { op := .call 57 [(false, .loc 4), (false, .loc 5)] [] },
      { op := .mv (.loc 6) }], sets := [(1, 7)] }
def slaws_heldDialedS_r16 : Reg :=
  { id := 17, ops := [{ op := .mv (.slot 1) },
      { op := .bin .lss (.loc 0) (.con (.sc (.int .i64 0))) }], sets := [(9, 1)] }
def slaws_heldDialedS_r17 : Reg :=
  { id := 18, ops := [{ op := .mv (.con (.sc (.int .i64 (-1)))) }], sets := [(2, 0)], clr := [0, 1, 3] }
def slaws_heldDialedS_r18 : Reg :=
  { id := 3, ops := [{ op := .mv (.slot 3) },
      { op := .bin .add (.loc 0) (.con (.sc (.int .i64 1))) },
      { op := .mv (.loc 1) }], sets := [(3, 2)] }
def slaws_heldDialedS_r19 : Reg :=
  { id := 19, ops := [{ op := .mv (.slot 1) },
      { op := .mv (.loc 0) }], sets := [(2, 1)], clr := [0, 1, 3] }
def slaws_heldDialedS_b : SC := .seq (.reg slaws_heldDialedS_r0) (.seq (.seq (.reg slaws_heldDialedS_r1) (.block 0 (.loop (.seq (.seq (.reg slaws_heldDialedS_r2) (.cond 4 (.skip) (.exit 0))) (.seq (.block 1 (.seq (.seq (.reg slaws_heldDialedS_r3) (.cond 5 (.seq (.reg slaws_heldDialedS_r4) (.ret)) (.skip))) (.seq (.reg slaws_heldDialedS_r5) (.seq (.seq (.reg slaws_heldDialedS_r6) (.cond 6 (.seq (.reg slaws_heldDialedS_r7) (.ret)) (.skip))) (.seq (.reg slaws_heldDialedS_r8) (.seq (.reg slaws_heldDialedS_r9) (.seq (.seq (.reg slaws_heldDialedS_r10) (.cond 7 (.seq (.reg slaws_heldDialedS_r11) (.ret)) (.skip))) (.seq (.seq (.reg slaws_heldDialedS_r12) (.cond 8 (.seq (.reg slaws_heldDialedS_r13) (.ret)) (.skip))) (.seq (.reg slaws_heldDialedS_r14) (.seq (.reg slaws_heldDialedS_r15) (.seq (.reg slaws_heldDialedS_r16) (.cond 9 (.seq (.reg slaws_heldDialedS_r17) (.ret)) (.skip))))))))))))) (.reg slaws_heldDialedS_r18)))))) (.seq (.reg slaws_heldDialedS_r19) (.ret)))
def slaws_heldDialedS : SFn := { nslots := 10, nobjs := 0, params := [0, 1], ngiven := 0, bor := false, takes := [], body := slaws_heldDialedS_b, results := [.slot 2] }
def slaws_heldDialedS_t : List Tmp := [0, 1, 4, 5, 9, 21, 31, 43, 50, 61]
attribute [simp] slaws_heldDialedS_r0 slaws_heldDialedS_r1 slaws_heldDialedS_r2 slaws_heldDialedS_r3 slaws_heldDialedS_r4 slaws_heldDialedS_r5 slaws_heldDialedS_r6 slaws_heldDialedS_r7 slaws_heldDialedS_r8 slaws_heldDialedS_r9 slaws_heldDialedS_r10 slaws_heldDialedS_r11 slaws_heldDialedS_r12 slaws_heldDialedS_r13 slaws_heldDialedS_r14 slaws_heldDialedS_r15 slaws_heldDialedS_r16 slaws_heldDialedS_r17 slaws_heldDialedS_r18 slaws_heldDialedS_r19 slaws_heldDialedS_b slaws_heldDialedS
def slaws_heldLoggedS_r0 : Reg :=
  { id := 0, ops := [{ op := .mv (.con (.sc (.int .i64 0))) }], clr := [2] }
def slaws_heldLoggedS_r1 : Reg :=
  { id := 1, ops := [{ op := .mv (.con (.sc (.int .i64 0))) }], sets := [(3, 0)] }
def slaws_heldLoggedS_r2 : Reg :=
  { id := 2, ops := [{ op := .mv (.slot 3) },
      { op := .mv (.slot 0) },
      { op := .len false (.loc 1) },
      { op := .bin .lss (.loc 0) (.loc 2) }], sets := [(4, 3)] }
def slaws_heldLoggedS_r3 : Reg :=
  { id := 4, ops := [{ op := .mv (.slot 0) },
      { op := .mv (.slot 3) },
      { op := .indexAddr 8 (.loc 0) (.loc 1) },
      { op := .fieldAddr (.loc 2) 0 },
      { op := .load none (.loc 3) },
      { op := .mv (.slot 1) },
      { op := .bin .neq (.loc 4) (.loc 5) }], sets := [(5, 6)] }
def slaws_heldLoggedS_r4 : Reg :=
  { id := 5, ops := [{ op := .mv (.con (.sc (.int .i64 (-1)))) }], sets := [(2, 0)], clr := [0, 1, 3] }
def slaws_heldLoggedS_r5 : Reg :=
  { id := 6, ops := [{ op := .mv (.slot 1) },
      { op := .bin .add (.loc 0) (.con (.sc (.int .i64 1))) },
      { op := .mv (.loc 1) }], sets := [(1, 2)] }
def slaws_heldLoggedS_r6 : Reg :=
  { id := 7, ops := [{ op := .mv (.slot 0) },
      { op := .mv (.slot 3) },
      { op := .indexAddr 8 (.loc 0) (.loc 1) },
      { op := .fieldAddr (.loc 2) 1 },
      { op := .load none (.loc 3) },
      { op := .mv (.slot 1) },
      { op := .bin .neq (.loc 4) (.loc 5) }], sets := [(6, 6)] }
def slaws_heldLoggedS_r7 : Reg :=
  { id := 8, ops := [{ op := .mv (.con (.sc (.int .i64 (-1)))) }], sets := [(2, 0)], clr := [0, 1, 3] }
def slaws_heldLoggedS_r8 : Reg :=
  { id := 9, ops := [{ op := .mv (.slot 1) },
      { op := .bin .add (.loc 0) (.con (.sc (.int .i64 1))) },
      { op := .mv (.loc 1) }], sets := [(1, 2)] }
def slaws_heldLoggedS_r9 : Reg :=
  { id := 10, ops := [{ op := .mv (.slot 0) },
      { op := .mv (.slot 3) },
      { op := .indexAddr 8 (.loc 0) (.loc 1) },
      { op := .fieldAddr (.loc 2) 2 },
      { op := .load none (.loc 3) },
      { op := .mv (.slot 1) },
      { op := .bin .rem (.loc 5) (.con (.sc (.int .i64 3))) },
      { op := .bin .eql (.loc 6) (.con (.sc (.int .i64 0))) },
      { op := .beq true (.loc 4) (.loc 7) }], sets := [(7, 8)] }
def slaws_heldLoggedS_r10 : Reg :=
  { id := 11, ops := [{ op := .mv (.con (.sc (.int .i64 (-1)))) }], sets := [(2, 0)], clr := [0, 1, 3] }
def slaws_heldLoggedS_r11 : Reg :=
  { id := 12, ops := [{ op := .mv (.slot 1) },
      { op := .bin .add (.loc 0) (.con (.sc (.int .i64 1))) },
      { op := .mv (.loc 1) }], sets := [(1, 2)] }
def slaws_heldLoggedS_r12 : Reg :=
  { id := 13, ops := [{ op := .mv (.slot 0) },
      { op := .mv (.slot 3) },
      { op := .indexAddr 8 (.loc 0) (.loc 1) },
      { op := .fieldAddr (.loc 2) 3 },
      { op := .fieldAddr (.loc 3) 0 },
      { op := .fieldAddr (.loc 4) 0 },
      { op := .load none (.loc 5) },
      { op := .mv (.slot 1) },
      { op := .bin .rem (.loc 7) (.con (.sc (.int .i64 3))) },
      { op := .bin .eql (.loc 8) (.con (.sc (.int .i64 0))) },
      { op := .beq true (.loc 6) (.loc 9) }], sets := [(8, 10)] }
def slaws_heldLoggedS_r13 : Reg :=
  { id := 14, ops := [{ op := .mv (.con (.sc (.int .i64 (-1)))) }], sets := [(2, 0)], clr := [0, 1, 3] }
def slaws_heldLoggedS_r14 : Reg :=
  { id := 15, ops := [{ op := .mv (.slot 1) },
      { op := .bin .add (.loc 0) (.con (.sc (.int .i64 1))) },
      { op := .mv (.loc 1) }], sets := [(1, 2)] }
def slaws_heldLoggedS_r15 : Reg :=
  { id := 16, ops := [{ op := .mv (.slot 0) },
      { op := .mv (.slot 3) },
      { op := .indexAddr 8 (.loc 0) (.loc 1) },
      { op := .fieldAddr (.loc 2) 3 },
      { op := .fieldAddr (.loc 3) 0 },
      { op := .fieldAddr (.loc 4) 1 },
      { op := .load none (.loc 5) },
      { op := .mv (.slot 1) },
      { op := .bin .neq (.loc 6) (.loc 7) }], sets := [(9, 8)] }
def slaws_heldLoggedS_r16 : Reg :=
  { id := 17, ops := [{ op := .mv (.con (.sc (.int .i64 (-1)))) }], sets := [(2, 0)], clr := [0, 1, 3] }
def slaws_heldLoggedS_r17 : Reg :=
  { id := 18, ops := [{ op := .mv (.slot 1) },
      { op := .bin .add (.loc 0) (.con (.sc (.int .i64 1))) },
      { op := .mv (.loc 1) }], sets := [(1, 2)] }
def slaws_heldLoggedS_r18 : Reg :=
  { id := 19, ops := [{ op := .mv (.slot 0) },
      { op := .mv (.slot 3) },
      { op := .indexAddr 8 (.loc 0) (.loc 1) },
      { op := .fieldAddr (.loc 2) 3 },
      { op := .fieldAddr (.loc 3) 0 },
      { op := .fieldAddr (.loc 4) 2 },
      { op := .load none (.loc 5) },
      { op := .mv (.slot 1) },
      { op := .call 57 [(false, .loc 6), (false, .loc 7)] [] },
      { op := .mv (.loc 8) }], sets := [(1, 9)] }
def slaws_heldLoggedS_r19 : Reg :=
  { id := 20, ops := [{ op := .mv (.slot 1) },
      { op := .bin .lss (.loc 0) (.con (.sc (.int .i64 0))) }], sets := [(10, 1)] }
def slaws_heldLoggedS_r20 : Reg :=
  { id := 21, ops := [{ op := .mv (.con (.sc (.int .i64 (-1)))) }], sets := [(2, 0)], clr := [0, 1, 3] }
def slaws_heldLoggedS_r21 : Reg :=
  { id := 22, ops := [{ op := .mv (.slot 0) },
      { op := .mv (.slot 3) },
      { op := .indexAddr 8 (.loc 0) (.loc 1) },
      { op := .fieldAddr (.loc 2) 3 },
      { op := .fieldAddr (.loc 3) 3 },
      { op := .load none (.loc 4) },
      { op := .mv (.slot 1) },
      { op := .bin .neq (.loc 5) (.loc 6) }], sets := [(11, 7)] }
def slaws_heldLoggedS_r22 : Reg :=
  { id := 23, ops := [{ op := .mv (.con (.sc (.int .i64 (-1)))) }], sets := [(2, 0)], clr := [0, 1, 3] }
def slaws_heldLoggedS_r23 : Reg :=
  { id := 24, ops := [{ op := .mv (.slot 1) },
      { op := .bin .add (.loc 0) (.con (.sc (.int .i64 1))) },
      { op := .mv (.loc 1) }], sets := [(1, 2)] }
def slaws_heldLoggedS_r24 : Reg :=
  { id := 25, ops := [{ op := .mv (.slot 0) },
      { op := .mv (.slot 3) },
      { op := .indexAddr 8 (.loc 0) (.loc 1) },
      { op := .fieldAddr (.loc 2) 3 },
      { op := .fieldAddr (.loc 3) 4 },
      { op := .load none (.loc 4) },
      { op := .mv (.slot 1) },
      { op := .call 57 [(false, .loc 5), (false, .loc 6)] [] },
      { op := .mv (.loc 7) }], sets := [(1, 8)] }
def slaws_heldLoggedS_r25 : Reg :=
  { id := 26, ops := [{ op := .mv (.slot 1) },
      { op := .bin .lss (.loc 0) (.con (.sc (.int .i64 0))) }], sets := [(12, 1)] }
def slaws_heldLoggedS_r26 : Reg :=
  { id := 27, ops := [{ op := .mv (.con (.sc (.int .i64 (-1)))) }], sets := [(2, 0)], clr := [0, 1, 3] }
def slaws_heldLoggedS_r27 : Reg :=
  { id := 3, ops := [{ op := .mv (.slot 3) },
      { op := .bin .add (.loc 0) (.con (.sc (.int .i64 1))) },
      { op := .mv (.loc 1) }], sets := [(3, 2)] }
def slaws_heldLoggedS_r28 : Reg :=
  { id := 28, ops := [{ op := .mv (.slot 1) },
      { op := .mv (.loc 0) }], sets := [(2, 1)], clr := [0, 1, 3] }
def slaws_heldLoggedS_b : SC := .seq (.reg slaws_heldLoggedS_r0) (.seq (.seq (.reg slaws_heldLoggedS_r1) (.block 0 (.loop (.seq (.seq (.reg slaws_heldLoggedS_r2) (.cond 4 (.skip) (.exit 0))) (.seq (.block 1 (.seq (.seq (.reg slaws_heldLoggedS_r3) (.cond 5 (.seq (.reg slaws_heldLoggedS_r4) (.ret)) (.skip))) (.seq (.reg slaws_heldLoggedS_r5) (.seq (.seq (.reg slaws_heldLoggedS_r6) (.cond 6 (.seq (.reg slaws_heldLoggedS_r7) (.ret)) (.skip))) (.seq (.reg slaws_heldLoggedS_r8) (.seq (.seq (.reg slaws_heldLoggedS_r9) (.cond 7 (.seq (.reg slaws_heldLoggedS_r10) (.ret)) (.skip))) (.seq (.reg slaws_heldLoggedS_r11) (.seq (.seq (.reg slaws_heldLoggedS_r12) (.cond 8 (.seq (.reg slaws_heldLoggedS_r13) (.ret)) (.skip))) (.seq (.reg slaws_heldLoggedS_r14) (.seq (.seq (.reg slaws_heldLoggedS_r15) (.cond 9 (.seq (.reg slaws_heldLoggedS_r16) (.ret)) (.skip))) (.seq (.reg slaws_heldLoggedS_r17) (.seq (.reg slaws_heldLoggedS_r18) (.seq (.seq (.reg slaws_heldLoggedS_r19) (.cond 10 (.seq (.reg slaws_heldLoggedS_r20) (.ret)) (.skip))) (.seq (.seq (.reg slaws_heldLoggedS_r21) (.cond 11 (.seq (.reg slaws_heldLoggedS_r22) (.ret)) (.skip))) (.seq (.reg slaws_heldLoggedS_r23) (.seq (.reg slaws_heldLoggedS_r24) (.seq (.reg slaws_heldLoggedS_r25) (.cond 12 (.seq (.reg slaws_heldLoggedS_r26) (.ret)) (.skip))))))))))))))))))) (.reg slaws_heldLoggedS_r27)))))) (.seq (.reg slaws_heldLoggedS_r28) (.ret)))
def slaws_heldLoggedS : SFn := { nslots := 13, nobjs := 0, params := [0, 1], ngiven := 0, bor := false, takes := [], body := slaws_heldLoggedS_b, results := [.slot 2] }
def slaws_heldLoggedS_t : List Tmp := [0, 1, 4, 5, 9, 18, 27, 38, 51, 62, 75, 83, 95]
attribute [simp] slaws_heldLoggedS_r0 slaws_heldLoggedS_r1 slaws_heldLoggedS_r2 slaws_heldLoggedS_r3 slaws_heldLoggedS_r4 slaws_heldLoggedS_r5 slaws_heldLoggedS_r6 slaws_heldLoggedS_r7 slaws_heldLoggedS_r8 slaws_heldLoggedS_r9 slaws_heldLoggedS_r10 slaws_heldLoggedS_r11 slaws_heldLoggedS_r12 slaws_heldLoggedS_r13 slaws_heldLoggedS_r14 slaws_heldLoggedS_r15 slaws_heldLoggedS_r16 slaws_heldLoggedS_r17 slaws_heldLoggedS_r18 slaws_heldLoggedS_r19 slaws_heldLoggedS_r20 slaws_heldLoggedS_r21 slaws_heldLoggedS_r22 slaws_heldLoggedS_r23 slaws_heldLoggedS_r24 slaws_heldLoggedS_r25 slaws_heldLoggedS_r26 slaws_heldLoggedS_r27 slaws_heldLoggedS_r28 slaws_heldLoggedS_b slaws_heldLoggedS
def simpl_copyPath_r0 : Reg :=
  { id := 0, ops := [{ op := .mv (.con (.nil 4)) }], clr := [1] }
def simpl_copyPath_r1 : Reg :=
  { id := 1, ops := [{ op := .buildSlice 0 4 0 [] },
      { op := .mv (.loc 0) }], sets := [(2, 1)], ghosts := [.ren 0 8] }
def simpl_copyPath_r2 : Reg :=
  { id := 2, ops := [{ op := .mv (.slot 0) },
      { op := .len false (.loc 0) },
      { op := .mv (.con (.sc (.int .i64 0))) }], sets := [(4, 0), (5, 1), (6, 2)], clr := [0] }
def simpl_copyPath_r3 : Reg :=
  { id := 3, ops := [{ op := .bin .lss (.slot 6) (.slot 5) }], sets := [(7, 0)] }
def simpl_copyPath_r4 : Reg :=
  { id := 4, fresh := [1], ops := [{ op := .indexAddr 4 (.slot 4) (.slot 6) },
      { op := .load (some 4) (.loc 0) },
      { op := .alloc 1 [.sc (.int .i64 0), .nil 1, .nil 1, .sc (.bool false)] },
      { op := .store 4 (.loc 2) (.loc 1) }], sets := [(3, 2)] }
def simpl_copyPath_r5 : Reg :=
  { id := 5, draw := true, fresh := [2, 3, 4, 5, 6, 7], ops := [{ op := .mv (.slot 2), tau := some [], om := [] },
      { op := .fieldAddr (.slot 3) 0, tau := some [], om := [] },
      { op := .load none (.loc 1), tau := some [1], om := [] },
      { op := .buildSlice 2 1 0 [], tau := some [2], om := [2] },
      { op := .fieldAddr (.slot 3) 1, tau := some [], om := [] },
      { op := .load none (.loc 4), tau := some [1], om := [] },
      { op := .append 3 1 8 false (.loc 3) (.loc 5), tau := some [2, 3], om := [2, 3] },
      { op := .buildSlice 4 1 0 [], tau := some [4], om := [4] },
      { op := .fieldAddr (.slot 3) 2, tau := some [], om := [] },
      { op := .load none (.loc 8), tau := some [1], om := [] },
      { op := .append 5 1 8 false (.loc 7) (.loc 9), tau := some [4, 5], om := [4, 5] },
      { op := .fieldAddr (.slot 3) 3, tau := some [], om := [] },
      { op := .load none (.loc 11), tau := some [1], om := [] },
      { op := .build [.sc (.int .i64 0), .nil 1, .nil 1, .sc (.bool false)] [(0, 1, .loc 2), (1, 1, .loc 6), (2, 1, .loc 10), (3, 1, .loc 12)], tau := some [], om := [] },
      { op := .buildSlice 6 4 1 [.loc 13], tau := some [3, 5, 6], om := [3, 5, 6] },
      { op := .append 7 4 64 true (.loc 0) (.loc 14), tau := some [6, 7, 8], om := [6, 7, 8] },
      { op := .mv (.loc 15), tau := some [], om := [] }], sets := [(2, 16)], ghosts := [.ren 7 8], clr := [3] }
def simpl_copyPath_r6 : Reg :=
  { id := 6, ops := [{ op := .bin .add (.slot 6) (.con (.sc (.int .i64 1))) },
      { op := .mv (.loc 0) }], sets := [(6, 1)] }
def simpl_copyPath_r7 : Reg :=
  { id := 7, ops := [{ op := .mv (.slot 2) },
      { op := .mv (.loc 0) }], sets := [(1, 1)], clr := [2, 4, 5, 6] }
def simpl_copyPath_b : SC := .seq (.reg simpl_copyPath_r0) (.seq (.reg simpl_copyPath_r1) (.seq (.seq (.reg simpl_copyPath_r2) (.block 0 (.loop (.seq (.reg simpl_copyPath_r3) (.seq (.cond 7 (.skip) (.exit 0)) (.seq (.block 1 (.seq (.reg simpl_copyPath_r4) (.reg simpl_copyPath_r5))) (.reg simpl_copyPath_r6))))))) (.seq (.reg simpl_copyPath_r7) (.ret))))
def simpl_copyPath : SFn := { nslots := 8, nobjs := 9, params := [0], ngiven := 0, bor := false, takes := [], body := simpl_copyPath_b, results := [.slot 1] }
def simpl_copyPath_t : List Tmp := [0, 2, 3, 5, 7, 8, 9, 10]
attribute [simp] simpl_copyPath_r0 simpl_copyPath_r1 simpl_copyPath_r2 simpl_copyPath_r3 simpl_copyPath_r4 simpl_copyPath_r5 simpl_copyPath_r6 simpl_copyPath_r7 simpl_copyPath_b simpl_copyPath
def sspec_l32End_r0 : Reg :=
  { id := 0, ops := [{ op := .box 0 (.slot 0) },
      { op := .alloc 1 [.nil 1, .nil 1, .nil 4, .sc (.int .i64 0)] }], sets := [(1, 0), (2, 1)], clr := [0] }

end Go.Eng.T

namespace Go.Eng.T
def sspec_l32End_r1 : Reg :=
  { id := 1, draw := true, ops := [{ op := .buildSlice 2 1 0 [], tau := some [2], om := [2] },
      { op := .fieldAddr (.slot 1) 0, tau := some [], om := [] },
      { op := .load none (.loc 1), tau := some [0], om := [] },
      { op := .append 3 1 8 false (.loc 0) (.loc 2), tau := some [2, 3], om := [2, 3] },
      { op := .buildSlice 4 1 0 [], tau := some [4], om := [4] },
      { op := .fieldAddr (.slot 1) 1, tau := some [], om := [] },
      { op := .load none (.loc 5), tau := some [0], om := [] },
      { op := .append 5 1 8 false (.loc 4) (.loc 6), tau := some [4, 5], om := [4, 5] },
      { op := .fieldAddr (.slot 1) 3, tau := some [], om := [] },
      { op := .load none (.loc 8), tau := some [0], om := [] },
      { op := .build [.nil 1, .nil 1, .nil 4, .sc (.int .i64 0)] [(0, 1, .loc 3), (1, 1, .loc 7), (3, 1, .loc 9)], tau := some [], om := [] },
      { op := .alloc 6 [.nil 1, .nil 1, .nil 4, .sc (.int .i64 0)], tau := some [6], om := [6] },
      { op := .store 4 (.loc 11) (.loc 10), tau := some [6], om := [6] }], sets := [(3, 11)], ghosts := [.ownc 6 2 14] }
def sspec_l32End_r2 : Reg :=
  { id := 2, ops := [{ op := .mv (.con (.sc (.int .i64 0))) }], sets := [(4, 0)] }
def sspec_l32End_r3 : Reg :=
  { id := 3, ops := [{ op := .mv (.slot 4) },
      { op := .fieldAddr (.slot 1) 2 },
      { op := .load none (.loc 1) },
      { op := .len false (.loc 2) },
      { op := .bin .lss (.loc 0) (.loc 3) }], sets := [(6, 4)] }
def sspec_l32End_r4 : Reg :=
  { id := 5, fresh := [7], ops := [{ op := .fieldAddr (.slot 1) 2 },
      { op := .load none (.loc 0) },
      { op := .mv (.slot 4) },
      { op := .indexAddr 4 (.loc 1) (.loc 2) },
      { op := .load (some 4) (.loc 3) },
      { op := .alloc 7 [.sc (.int .i64 0), .nil 1, .nil 1, .sc (.bool false)] },
      { op := .store 4 (.loc 5) (.loc 4) }], sets := [(5, 5)] }
def sspec_l32End_r5 : Reg :=
  { id := 6, draw := true, fresh := [8, 9, 10, 11, 12, 13], ops := [{ op := .fieldAddr (.slot 3) 2, tau := some [], om := [] },
      { op := .load none (.loc 0), tau := some [6], om := [] },
      { op := .fieldAddr (.slot 5) 0, tau := some [], om := [] },
      { op := .load none (.loc 2), tau := some [7], om := [] },
      { op := .buildSlice 8 1 0 [], tau := some [8], om := [8] },
      { op := .fieldAddr (.slot 5) 1, tau := some [], om := [] },
      { op := .load none (.loc 5), tau := some [7], om := [] },
      { op := .append 9 1 8 false (.loc 4) (.loc 6), tau := some [8, 9], om := [8, 9] },
      { op := .buildSlice 10 1 0 [], tau := some [10], om := [10] },
      { op := .fieldAddr (.slot 5) 2, tau := some [], om := [] },
      { op := .load none (.loc 9), tau := some [7], om := [] },
      { op := .append 11 1 8 false (.loc 8) (.loc 10), tau := some [10, 11], om := [10, 11] },
      { op := .fieldAddr (.slot 5) 3, tau := some [], om := [] },
      { op := .load none (.loc 12), tau := some [7], om := [] },
      { op := .build [.sc (.int .i64 0), .nil 1, .nil 1, .sc (.bool false)] [(0, 1, .loc 3), (1, 1, .loc 7), (2, 1, .loc 11), (3, 1, .loc 13)], tau := some [], om := [] },
      { op := .buildSlice 12 4 1 [.loc 14], tau := some [9, 11, 12], om := [9, 11, 12] },
      { op := .append 13 4 64 true (.loc 1) (.loc 15), tau := some [12, 13, 14], om := [12, 13, 14] },
      { op := .fieldAddr (.slot 3) 2, tau := some [], om := [] },
      { op := .store 1 (.loc 17) (.loc 16), tau := some [6], om := [6] }], ghosts := [.ren 13 14], clr := [5] }
def sspec_l32End_r6 : Reg :=
  { id := 4, ops := [{ op := .mv (.slot 4) },
      { op := .bin .add (.loc 0) (.con (.sc (.int .i64 1))) },
      { op := .mv (.loc 1) }], sets := [(4, 2)] }
def sspec_l32End_r7 : Reg :=
  { id := 7, ops := [{ op := .load (some 4) (.slot 3) },
      { op := .store 4 (.slot 2) (.loc 0) }], clr := [1, 3, 4] }
def sspec_l32End_b : SC := .seq (.reg sspec_l32End_r0) (.seq (.reg sspec_l32End_r1) (.seq (.seq (.reg sspec_l32End_r2) (.block 0 (.loop (.seq (.seq (.reg sspec_l32End_r3) (.cond 6 (.skip) (.exit 0))) (.seq (.block 1 (.seq (.reg sspec_l32End_r4) (.reg sspec_l32End_r5))) (.reg sspec_l32End_r6)))))) (.seq (.reg sspec_l32End_r7) (.ret))))
def sspec_l32End : SFn := { nslots := 7, nobjs := 15, params := [0], ngiven := 0, bor := false, takes := [], body := sspec_l32End_b, results := [.cell 2 (some 4)] }
def sspec_l32End_t : List Tmp := [0, 1, 2, 3, 4, 5, 21]
attribute [simp] sspec_l32End_r0 sspec_l32End_r1 sspec_l32End_r2 sspec_l32End_r3 sspec_l32End_r4 sspec_l32End_r5 sspec_l32End_r6 sspec_l32End_r7 sspec_l32End_b sspec_l32End
def sspec_l26Copy_r0 : Reg :=
  { id := 0, ops := [{ op := .box 0 (.slot 0) },
      { op := .alloc 1 [.sc (.int .i64 0), .nil 1, .sc (.int .i64 0), .sc (.bool false)] }], sets := [(1, 0), (2, 1)], clr := [0] }
def sspec_l26Copy_r1 : Reg :=
  { id := 1, ops := [{ op := .buildSlice 2 1 0 [] },
      { op := .fieldAddr (.slot 1) 1 },
      { op := .load none (.loc 1) },
      { op := .append 3 1 8 false (.loc 0) (.loc 2) },
      { op := .fieldAddr (.slot 1) 1 },
      { op := .store 1 (.loc 4) (.loc 3) }] }
def sspec_l26Copy_r2 : Reg :=
  { id := 2, ops := [{ op := .load (some 4) (.slot 1) },
      { op := .store 4 (.slot 2) (.loc 0) }], clr := [1] }
def sspec_l26Copy_b : SC := .seq (.reg sspec_l26Copy_r0) (.seq (.reg sspec_l26Copy_r1) (.seq (.reg sspec_l26Copy_r2) (.ret)))
def sspec_l26Copy : SFn := { nslots := 3, nobjs := 4, params := [0], ngiven := 0, bor := false, takes := [], body := sspec_l26Copy_b, results := [.cell 2 (some 4)] }
def sspec_l26Copy_t : List Tmp := [0, 1, 2]
attribute [simp] sspec_l26Copy_r0 sspec_l26Copy_r1 sspec_l26Copy_r2 sspec_l26Copy_b sspec_l26Copy
def sspec_l32Dialed_r0 : Reg :=
  { id := 0, ops := [{ op := .box 0 (.slot 0) },
      { op := .alloc 1 [.sc (.bool false), .sc (.int .i64 0), .nil 1, .sc (.int .i64 0), .nil 1] }], sets := [(1, 0), (2, 1)], clr := [0] }
def sspec_l32Dialed_r1 : Reg :=
  { id := 1, ops := [{ op := .buildSlice 2 1 0 [] },
      { op := .fieldAddr (.slot 1) 0 },
      { op := .fieldAddr (.loc 1) 2 },
      { op := .load none (.loc 2) },
      { op := .append 3 1 8 false (.loc 0) (.loc 3) },
      { op := .fieldAddr (.slot 1) 0 },
      { op := .fieldAddr (.loc 5) 2 },
      { op := .store 1 (.loc 6) (.loc 4) }] }
def sspec_l32Dialed_r2 : Reg :=
  { id := 2, ops := [{ op := .buildSlice 4 1 0 [] },
      { op := .fieldAddr (.slot 1) 4 },
      { op := .load none (.loc 1) },
      { op := .append 5 1 8 false (.loc 0) (.loc 2) },
      { op := .fieldAddr (.slot 1) 4 },
      { op := .store 1 (.loc 4) (.loc 3) }] }
def sspec_l32Dialed_r3 : Reg :=
  { id := 3, ops := [{ op := .load (some 5) (.slot 1) },
      { op := .store 5 (.slot 2) (.loc 0) }], clr := [1] }
def sspec_l32Dialed_b : SC := .seq (.reg sspec_l32Dialed_r0) (.seq (.reg sspec_l32Dialed_r1) (.seq (.reg sspec_l32Dialed_r2) (.seq (.reg sspec_l32Dialed_r3) (.ret))))
def sspec_l32Dialed : SFn := { nslots := 3, nobjs := 6, params := [0], ngiven := 0, bor := false, takes := [], body := sspec_l32Dialed_b, results := [.cell 2 (some 5)] }
def sspec_l32Dialed_t : List Tmp := [0, 1, 2]
attribute [simp] sspec_l32Dialed_r0 sspec_l32Dialed_r1 sspec_l32Dialed_r2 sspec_l32Dialed_r3 sspec_l32Dialed_b sspec_l32Dialed
def simpl_copyRollout_r0 : Reg :=
  { id := 0, ops := [{ op := .box 0 (.slot 0) },
      { op := .alloc 1 [.sc (.int .i64 0), .nil 1, .sc (.int .i64 0), .sc (.bool false)] }], sets := [(1, 0), (2, 1)], clr := [0] }
def simpl_copyRollout_r1 : Reg :=
  { id := 1, ops := [{ op := .buildSlice 2 1 0 [] },
      { op := .fieldAddr (.slot 1) 1 },
      { op := .load none (.loc 1) },
      { op := .append 3 1 8 false (.loc 0) (.loc 2) },
      { op := .fieldAddr (.slot 1) 1 },
      { op := .store 1 (.loc 4) (.loc 3) }] }
def simpl_copyRollout_r2 : Reg :=
  { id := 2, ops := [{ op := .load (some 4) (.slot 1) },
      { op := .store 4 (.slot 2) (.loc 0) }], clr := [1] }
def simpl_copyRollout_b : SC := .seq (.reg simpl_copyRollout_r0) (.seq (.reg simpl_copyRollout_r1) (.seq (.reg simpl_copyRollout_r2) (.ret)))
def simpl_copyRollout : SFn := { nslots := 3, nobjs := 4, params := [0], ngiven := 0, bor := false, takes := [], body := simpl_copyRollout_b, results := [.cell 2 (some 4)] }
def simpl_copyRollout_t : List Tmp := [0, 1, 2]
attribute [simp] simpl_copyRollout_r0 simpl_copyRollout_r1 simpl_copyRollout_r2 simpl_copyRollout_b simpl_copyRollout
def simpl_copyEndpoint_r0 : Reg :=
  { id := 0, ops := [{ op := .box 0 (.slot 0) },
      { op := .alloc 1 [.nil 1, .nil 1, .nil 4, .sc (.int .i64 0)] }], sets := [(1, 0), (2, 1)], clr := [0] }
def simpl_copyEndpoint_r1 : Reg :=
  { id := 1, draw := true, ops := [{ op := .buildSlice 2 1 0 [], tau := some [2], om := [2] },
      { op := .fieldAddr (.slot 1) 0, tau := some [], om := [] },
      { op := .load none (.loc 1), tau := some [0], om := [] },
      { op := .append 3 1 8 false (.loc 0) (.loc 2), tau := some [2, 3], om := [2, 3] },
      { op := .buildSlice 4 1 0 [], tau := some [4], om := [4] },
      { op := .fieldAddr (.slot 1) 1, tau := some [], om := [] },
      { op := .load none (.loc 5), tau := some [0], om := [] },
      { op := .append 5 1 8 false (.loc 4) (.loc 6), tau := some [4, 5], om := [4, 5] },
      { op := .fieldAddr (.slot 1) 2, tau := some [], om := [] },
      { op := .load none (.loc 8), tau := some [0], om := [] },
      { op := .call 172 [(false, .loc 9)] [6], tau := some [6], om := [6] },
      { op := .fieldAddr (.slot 1) 3, tau := some [], om := [] },
      { op := .load none (.loc 11), tau := some [0], om := [] },
      { op := .build [.nil 1, .nil 1, .nil 4, .sc (.int .i64 0)] [(0, 1, .loc 3), (1, 1, .loc 7), (2, 1, .loc 10), (3, 1, .loc 12)], tau := some [], om := [] },
      { op := .store 4 (.slot 2) (.loc 13), tau := some [1], om := [1] }], clr := [1] }
def simpl_copyEndpoint_b : SC := .seq (.reg simpl_copyEndpoint_r0) (.seq (.reg simpl_copyEndpoint_r1) (.ret))
def simpl_copyEndpoint : SFn := { nslots := 3, nobjs := 7, params := [0], ngiven := 0, bor := false, takes := [], body := simpl_copyEndpoint_b, results := [.cell 2 (some 4)] }
def simpl_copyEndpoint_t : List Tmp := [0, 1, 2]
attribute [simp] simpl_copyEndpoint_r0 simpl_copyEndpoint_r1 simpl_copyEndpoint_b simpl_copyEndpoint
def simpl_copyDialed_r0 : Reg :=
  { id := 0, ops := [{ op := .box 0 (.slot 0) },
      { op := .alloc 1 [.sc (.bool false), .sc (.int .i64 0), .nil 1, .sc (.int .i64 0), .nil 1] }], sets := [(1, 0), (2, 1)], clr := [0] }
def simpl_copyDialed_r1 : Reg :=
  { id := 1, draw := true, ops := [{ op := .buildSlice 2 1 0 [], tau := some [2], om := [2] },
      { op := .fieldAddr (.slot 1) 0, tau := some [], om := [] },
      { op := .fieldAddr (.loc 1) 2, tau := some [], om := [] },
      { op := .load none (.loc 2), tau := some [0], om := [] },
      { op := .append 3 1 8 false (.loc 0) (.loc 3), tau := some [2, 3], om := [2, 3] },
      { op := .buildSlice 4 1 0 [], tau := some [4], om := [4] },
      { op := .fieldAddr (.slot 1) 4, tau := some [], om := [] },
      { op := .load none (.loc 6), tau := some [0], om := [] },
      { op := .append 5 1 8 false (.loc 5) (.loc 7), tau := some [4, 5], om := [4, 5] },
      { op := .fieldAddr (.slot 1) 0, tau := some [], om := [] },
      { op := .fieldAddr (.loc 9) 2, tau := some [], om := [] },
      { op := .store 1 (.loc 10) (.loc 4), tau := some [0], om := [0] },
      { op := .fieldAddr (.slot 1) 4, tau := some [], om := [] },
      { op := .store 1 (.loc 12) (.loc 8), tau := some [0], om := [0] }] }
def simpl_copyDialed_r2 : Reg :=
  { id := 2, ops := [{ op := .load (some 5) (.slot 1) },
      { op := .store 5 (.slot 2) (.loc 0) }], clr := [1] }
def simpl_copyDialed_b : SC := .seq (.reg simpl_copyDialed_r0) (.seq (.reg simpl_copyDialed_r1) (.seq (.reg simpl_copyDialed_r2) (.ret)))
def simpl_copyDialed : SFn := { nslots := 3, nobjs := 6, params := [0], ngiven := 0, bor := false, takes := [], body := simpl_copyDialed_b, results := [.cell 2 (some 5)] }
def simpl_copyDialed_t : List Tmp := [0, 1, 2]
attribute [simp] simpl_copyDialed_r0 simpl_copyDialed_r1 simpl_copyDialed_r2 simpl_copyDialed_b simpl_copyDialed
def sspec_StepStart_r0 : Reg :=
  { id := 0, ops := [{ op := .box 0 (.slot 0) },
      { op := .alloc 1 [.nil 1, .nil 1, .sc (.int .i64 0), .nil 4, .sc (.int .i64 0), .nil 1, .sc (.int .i64 0), .sc (.bool false), .sc (.int .i64 0), .sc (.int .i64 0), .nil 5, .nil 8, .sc (.int .i64 0), .sc (.int .i64 0), .sc (.int .i64 0)] },
      { op := .mv (.con (.sc (.bool false))) }], sets := [(1, 0), (2, 1)], clr := [0, 3] }
def sspec_StepStart_r1 : Reg :=
  { id := 1, ops := [{ op := .fieldAddr (.slot 1) 14 },
      { op := .load none (.loc 0) },
      { op := .bin .neq (.loc 1) (.con (.sc (.int .i64 0))) },
      { op := .mv (.loc 2) },
      { op := .fieldAddr (.slot 1) 4, guard := some (3, false) },
      { op := .load (some 4) (.loc 4), guard := some (3, false) },
      { op := .call 145 [(false, .loc 5)] [], guard := some (3, false) },
      { op := .un .not (.loc 6), guard := some (3, false) },
      { op := .pick (.loc 3) (.con (.sc (.bool true))) (.loc 7) },
      { op := .mv (.loc 8) },
      { op := .fieldAddr (.slot 1) 4, guard := some (9, false) },
      { op := .fieldAddr (.loc 10) 3, guard := some (9, false) },
      { op := .load none (.loc 11), guard := some (9, false) },
      { op := .pick (.loc 9) (.con (.sc (.bool true))) (.loc 12) }], sets := [(4, 13)] }
def sspec_StepStart_r2 : Reg :=
  { id := 2, ops := [{ op := .load (some 15) (.slot 1) },
      { op := .call 22 [(false, .loc 0)] [2, 3, 4, 5, 6, 7] },
      { op := .store 15 (.slot 2) (.loc 1) },
      { op := .mv (.con (.sc (.bool false))) }], sets := [(3, 3)], clr := [1] }
def sspec_StepStart_r3 : Reg :=
  { id := 3, ops := [{ op := .load (some 15) (.slot 1) },
      { op := .call 146 [(false, .loc 0)] [8, 9, 10, 11, 12, 13] },
      { op := .store 15 (.slot 2) (.loc 1) },
      { op := .mv (.con (.sc (.bool true))) }], sets := [(3, 3)], clr := [1] }
def sspec_StepStart_b : SC := .seq (.reg sspec_StepStart_r0) (.seq (.seq (.reg sspec_StepStart_r1) (.cond 4 (.seq (.reg sspec_StepStart_r2) (.ret)) (.skip))) (.seq (.reg sspec_StepStart_r3) (.ret)))
def sspec_StepStart : SFn := { nslots := 5, nobjs := 14, params := [0], ngiven := 0, bor := false, takes := [], body := sspec_StepStart_b, results := [.cell 2 (some 15), .slot 3] }
def sspec_StepStart_t : List Tmp := [0, 1, 2, 3, 17]
attribute [simp] sspec_StepStart_r0 sspec_StepStart_r1 sspec_StepStart_r2 sspec_StepStart_r3 sspec_StepStart_b sspec_StepStart
def simpl_StepStart_r0 : Reg :=
  { id := 0, ops := [{ op := .box 0 (.slot 0) },
      { op := .alloc 1 [.nil 1, .nil 1, .sc (.int .i64 0), .nil 4, .sc (.int .i64 0), .nil 1, .sc (.int .i64 0), .sc (.bool false), .sc (.int .i64 0), .sc (.int .i64 0), .nil 5, .nil 8, .sc (.int .i64 0), .sc (.int .i64 0), .sc (.int .i64 0)] },
      { op := .mv (.con (.sc (.bool false))) }], sets := [(1, 0), (2, 1)], clr := [0, 3] }
def simpl_StepStart_r1 : Reg :=
  { id := 1, ops := [{ op := .fieldAddr (.slot 1) 14 },
      { op := .load none (.loc 0) },
      { op := .bin .neq (.loc 1) (.con (.sc (.int .i64 0))) },
      { op := .mv (.loc 2) },
      { op := .fieldAddr (.slot 1) 4, guard := some (3, false) },
      { op := .load (some 4) (.loc 4), guard := some (3, false) },
      { op := .call 176 [(false, .loc 5)] [], guard := some (3, false) },
      { op := .un .not (.loc 6), guard := some (3, false) },
      { op := .pick (.loc 3) (.con (.sc (.bool true))) (.loc 7) },
      { op := .mv (.loc 8) },
      { op := .fieldAddr (.slot 1) 4, guard := some (9, false) },
      { op := .fieldAddr (.loc 10) 3, guard := some (9, false) },
      { op := .load none (.loc 11), guard := some (9, false) },
      { op := .pick (.loc 9) (.con (.sc (.bool true))) (.loc 12) }], sets := [(4, 13)] }
def simpl_StepStart_r2 : Reg :=
  { id := 2, ops := [{ op := .load (some 15) (.slot 1) },
      { op := .call 38 [(false, .loc 0)] [2, 3, 4, 5, 6, 7] },
      { op := .store 15 (.slot 2) (.loc 1) },
      { op := .mv (.con (.sc (.bool false))) }], sets := [(3, 3)], clr := [1] }
def simpl_StepStart_r3 : Reg :=
  { id := 3, ops := [{ op := .load (some 15) (.slot 1) },
      { op := .call 177 [(false, .loc 0)] [8, 9, 10, 11, 12, 13] },
      { op := .store 15 (.slot 2) (.loc 1) },
      { op := .mv (.con (.sc (.bool true))) }], sets := [(3, 3)], clr := [1] }
def simpl_StepStart_b : SC := .seq (.reg simpl_StepStart_r0) (.seq (.seq (.reg simpl_StepStart_r1) (.cond 4 (.seq (.reg simpl_StepStart_r2) (.ret)) (.skip))) (.seq (.reg simpl_StepStart_r3) (.ret)))
def simpl_StepStart : SFn := { nslots := 5, nobjs := 14, params := [0], ngiven := 0, bor := false, takes := [], body := simpl_StepStart_b, results := [.cell 2 (some 15), .slot 3] }
def simpl_StepStart_t : List Tmp := [0, 1, 2, 3, 17]
attribute [simp] simpl_StepStart_r0 simpl_StepStart_r1 simpl_StepStart_r2 simpl_StepStart_r3 simpl_StepStart_b simpl_StepStart
def sspec_EnterStage_r0 : Reg :=
  { id := 0, ops := [{ op := .box 0 (.slot 0) },
      { op := .alloc 1 [.nil 1, .nil 1, .sc (.int .i64 0), .nil 4, .sc (.int .i64 0), .nil 1, .sc (.int .i64 0), .sc (.bool false), .sc (.int .i64 0), .sc (.int .i64 0), .nil 5, .nil 8, .sc (.int .i64 0), .sc (.int .i64 0), .sc (.int .i64 0)] }], sets := [(1, 0), (2, 1)], clr := [0] }
def sspec_EnterStage_r1 : Reg :=
  { id := 1, ops := [{ op := .load (some 15) (.slot 1) },
      { op := .call 22 [(false, .loc 0)] [2, 3, 4, 5, 6, 7] },
      { op := .alloc 8 [.nil 1, .nil 1, .sc (.int .i64 0), .nil 4, .sc (.int .i64 0), .nil 1, .sc (.int .i64 0), .sc (.bool false), .sc (.int .i64 0), .sc (.int .i64 0), .nil 5, .nil 8, .sc (.int .i64 0), .sc (.int .i64 0), .sc (.int .i64 0)] },
      { op := .store 15 (.loc 2) (.loc 1) }], sets := [(3, 2)] }
def sspec_EnterStage_r2 : Reg :=
  { id := 2, ops := [{ op := .fieldAddr (.slot 1) 4 },
      { op := .load (some 4) (.loc 0) },
      { op := .call 145 [(false, .loc 1)] [] },
      { op := .un .not (.loc 2) },
      { op := .mv (.loc 3) },
      { op := .fieldAddr (.slot 1) 4, guard := some (4, false) },
      { op := .fieldAddr (.loc 5) 3, guard := some (4, false) },
      { op := .load none (.loc 6), guard := some (4, false) },
      { op := .pick (.loc 4) (.con (.sc (.bool true))) (.loc 7) }], sets := [(5, 8)] }
def sspec_EnterStage_r3 : Reg :=
  { id := 3, ops := [{ op := .load (some 15) (.slot 3) },
      { op := .store 15 (.slot 2) (.loc 0) }], clr := [1, 3] }
def sspec_EnterStage_r4 : Reg :=
  { id := 4, ops := [{ op := .mv (.con (.sc (.int .i64 0))) }], sets := [(4, 0)] }
def sspec_EnterStage_r5 : Reg :=
  { id := 5, ops := [{ op := .mv (.slot 4) },
      { op := .fieldAddr (.slot 3) 3 },
      { op := .load none (.loc 1) },
      { op := .len false (.loc 2) },
      { op := .bin .lss (.loc 0) (.loc 3) }], sets := [(6, 4)] }
def sspec_EnterStage_r6 : Reg :=
  { id := 7, ops := [{ op := .fieldAddr (.slot 1) 4 },
      { op := .load (some 4) (.loc 0) },
      { op := .mv (.slot 4) },
      { op := .fieldAddr (.slot 3) 3 },
      { op := .load none (.loc 3) },
      { op := .len false (.loc 4) },
      { op := .call 214 [(false, .loc 1), (false, .loc 2), (false, .loc 5)] [] }], sets := [(7, 6)] }
def sspec_EnterStage_r7 : Reg :=
  { id := 8, draw := true, fresh := [9], ops := [{ op := .fieldAddr (.slot 3) 3, tau := some [], om := [] },
      { op := .load none (.loc 0), tau := some [8], om := [] },
      { op := .mv (.slot 4), tau := some [], om := [] },
      { op := .fieldAddr (.slot 3) 3, tau := some [], om := [] },
      { op := .load none (.loc 3), tau := some [8], om := [] },
      { op := .mv (.slot 4), tau := some [], om := [] },
      { op := .indexAddr 4 (.loc 4) (.loc 5), tau := some [4], om := [] },
      { op := .fieldAddr (.loc 6) 0, tau := some [], om := [] },
      { op := .load none (.loc 7), tau := some [4], om := [] },
      { op := .fieldAddr (.slot 1) 4, tau := some [], om := [] },
      { op := .fieldAddr (.loc 9) 0, tau := some [], om := [] },
      { op := .load none (.loc 10), tau := some [0], om := [] },
      { op := .call 159 [(false, .loc 8), (false, .loc 11)] [9], tau := some [9], om := [9] },
      { op := .indexAddr 4 (.loc 1) (.loc 2), tau := some [4], om := [] },
      { op := .fieldAddr (.loc 13) 0, tau := some [], om := [] },
      { op := .store 1 (.loc 14) (.loc 12), tau := some [4, 9], om := [4, 9] }] }
def sspec_EnterStage_r8 : Reg :=
  { id := 6, ops := [{ op := .mv (.slot 4) },
      { op := .bin .add (.loc 0) (.con (.sc (.int .i64 1))) },
      { op := .mv (.loc 1) }], sets := [(4, 2)] }
def sspec_EnterStage_r9 : Reg :=
  { id := 9, ops := [{ op := .buildSlice 10 5 0 [] },
      { op := .fieldAddr (.slot 3) 10 },
      { op := .store 1 (.loc 1) (.loc 0) }], clr := [4] }
def sspec_EnterStage_r10 : Reg :=
  { id := 10, ops := [{ op := .fieldAddr (.slot 1) 14 },
      { op := .load none (.loc 0) },
      { op := .fieldAddr (.slot 1) 4 },
      { op := .fieldAddr (.loc 2) 2 },
      { op := .load none (.loc 3) },
      { op := .bin .add (.loc 4) (.con (.sc (.int .i64 1))) },
      { op := .call 215 [(false, .loc 1), (false, .loc 5)] [] },
      { op := .fieldAddr (.slot 3) 14 },
      { op := .store 1 (.loc 7) (.loc 6) }], clr := [1] }
def sspec_EnterStage_r11 : Reg :=
  { id := 11, ops := [{ op := .load (some 15) (.slot 3) },
      { op := .store 15 (.slot 2) (.loc 0) }], clr := [3] }
def sspec_EnterStage_b : SC := .seq (.reg sspec_EnterStage_r0) (.seq (.reg sspec_EnterStage_r1) (.seq (.seq (.reg sspec_EnterStage_r2) (.cond 5 (.seq (.reg sspec_EnterStage_r3) (.ret)) (.skip))) (.seq (.seq (.reg sspec_EnterStage_r4) (.block 0 (.loop (.seq (.seq (.reg sspec_EnterStage_r5) (.cond 6 (.skip) (.exit 0))) (.seq (.block 1 (.seq (.reg sspec_EnterStage_r6) (.cond 7 (.reg sspec_EnterStage_r7) (.skip)))) (.reg sspec_EnterStage_r8)))))) (.seq (.reg sspec_EnterStage_r9) (.seq (.reg sspec_EnterStage_r10) (.seq (.reg sspec_EnterStage_r11) (.ret)))))))
def sspec_EnterStage : SFn := { nslots := 8, nobjs := 11, params := [0], ngiven := 0, bor := true, takes := [], body := sspec_EnterStage_b, results := [.cell 2 (some 15)] }
def sspec_EnterStage_t : List Tmp := [0, 1, 2, 3, 4, 15, 21, 30]
attribute [simp] sspec_EnterStage_r0 sspec_EnterStage_r1 sspec_EnterStage_r2 sspec_EnterStage_r3 sspec_EnterStage_r4 sspec_EnterStage_r5 sspec_EnterStage_r6 sspec_EnterStage_r7 sspec_EnterStage_r8 sspec_EnterStage_r9 sspec_EnterStage_r10 sspec_EnterStage_r11 sspec_EnterStage_b sspec_EnterStage
def sspec_l4Put_r0 : Reg :=
  { id := 0, ops := [{ op := .mv (.con (.nil 1)) }], clr := [2] }
def sspec_l4Put_r1 : Reg :=
  { id := 1, ops := [{ op := .mv (.con (.sc (.int .i64 0))) }], sets := [(3, 0)] }
def sspec_l4Put_r2 : Reg :=
  { id := 2, ops := [{ op := .mv (.slot 3) },
      { op := .mv (.slot 0) },
      { op := .len false (.loc 1) },
      { op := .bin .lss (.loc 0) (.loc 2) },
      { op := .mv (.loc 3) },
      { op := .mv (.slot 0), guard := some (4, true) },
      { op := .mv (.slot 3), guard := some (4, true) },
      { op := .indexAddr 1 (.loc 5) (.loc 6), guard := some (4, true) },
      { op := .load none (.loc 7), guard := some (4, true) },
      { op := .mv (.slot 1), guard := some (4, true) },
      { op := .bin .lss (.loc 8) (.loc 9), guard := some (4, true) },
      { op := .pick (.loc 4) (.loc 10) (.con (.sc (.bool false))) }], sets := [(4, 11)] }
def sspec_l4Put_r3 : Reg :=
  { id := 3, ops := [{ op := .mv (.slot 3) },
      { op := .bin .add (.loc 0) (.con (.sc (.int .i64 1))) },
      { op := .mv (.loc 1) }], sets := [(3, 2)] }
def sspec_l4Put_r4 : Reg :=
  { id := 4, ops := [{ op := .mv (.slot 3) },
      { op := .mv (.slot 0) },
      { op := .len false (.loc 1) },
      { op := .bin .lss (.loc 0) (.loc 2) },
      { op := .mv (.loc 3) },
      { op := .mv (.slot 0), guard := some (4, true) },
      { op := .mv (.slot 3), guard := some (4, true) },
      { op := .indexAddr 1 (.loc 5) (.loc 6), guard := some (4, true) },
      { op := .load none (.loc 7), guard := some (4, true) },
      { op := .mv (.slot 1), guard := some (4, true) },
      { op := .bin .eql (.loc 8) (.loc 9), guard := some (4, true) },
      { op := .pick (.loc 4) (.loc 10) (.con (.sc (.bool false))) }], sets := [(5, 11)] }
def sspec_l4Put_r5 : Reg :=
  { id := 5, ops := [{ op := .buildSlice 0 1 0 [] },
      { op := .mv (.slot 0) },
      { op := .append 1 1 8 false (.loc 0) (.loc 1) },
      { op := .mv (.loc 2) }], sets := [(2, 3)], clr := [0, 1, 3] }
def sspec_l4Put_r6 : Reg :=
  { id := 6, draw := true, ops := [{ op := .buildSlice 2 1 0 [], tau := some [2], om := [2] },
      { op := .mv (.slot 0), tau := some [], om := [] },
      { op := .mv (.slot 3), tau := some [], om := [] },
      { op := .slice 1 (.loc 1) none (some (.loc 2)), tau := some [], om := [] },
      { op := .append 3 1 8 false (.loc 0) (.loc 3), tau := some [2, 3], om := [2, 3] },
      { op := .mv (.slot 1), tau := some [], om := [] },
      { op := .buildSlice 4 1 1 [.loc 5], tau := some [4], om := [4] },
      { op := .append 5 1 8 false (.loc 4) (.loc 6), tau := some [3, 4, 5], om := [3, 5] },
      { op := .mv (.slot 0), tau := some [], om := [] },
      { op := .mv (.slot 3), tau := some [], om := [] },
      { op := .slice 1 (.loc 8) (some (.loc 9)) none, tau := some [], om := [] },
      { op := .append 6 1 8 false (.loc 7) (.loc 10), tau := some [5, 6], om := [5, 6] },
      { op := .mv (.loc 11), tau := some [], om := [] }], sets := [(2, 12)], clr := [0, 1, 3] }
def sspec_l4Put_b : SC := .seq (.reg sspec_l4Put_r0) (.seq (.reg sspec_l4Put_r1) (.seq (.block 0 (.loop (.seq (.seq (.reg sspec_l4Put_r2) (.cond 4 (.skip) (.exit 0))) (.block 1 (.reg sspec_l4Put_r3))))) (.seq (.seq (.reg sspec_l4Put_r4) (.cond 5 (.seq (.reg sspec_l4Put_r5) (.ret)) (.skip))) (.seq (.reg sspec_l4Put_r6) (.ret)))))
def sspec_l4Put : SFn := { nslots := 6, nobjs := 7, params := [0, 1], ngiven := 0, bor := false, takes := [], body := sspec_l4Put_b, results := [.slot 2] }
def sspec_l4Put_t : List Tmp := [0, 1, 4, 5, 17, 31]
attribute [simp] sspec_l4Put_r0 sspec_l4Put_r1 sspec_l4Put_r2 sspec_l4Put_r3 sspec_l4Put_r4 sspec_l4Put_r5 sspec_l4Put_r6 sspec_l4Put_b sspec_l4Put
def sspec_Max_r0 : Reg :=
  { id := 0, ops := [{ op := .mv (.con (.sc (.int .i64 0))) }], clr := [2] }
def sspec_Max_r1 : Reg :=
  { id := 1, ops := [{ op := .mv (.slot 1) },
      { op := .mv (.slot 0) },
      { op := .bin .gtr (.loc 0) (.loc 1) }], sets := [(3, 2)] }
def sspec_Max_r2 : Reg :=
  { id := 2, ops := [{ op := .mv (.slot 1) },
      { op := .mv (.loc 0) }], sets := [(2, 1)], clr := [0, 1] }
def sspec_Max_r3 : Reg :=
  { id := 3, ops := [{ op := .mv (.slot 0) },
      { op := .mv (.loc 0) }], sets := [(2, 1)], clr := [0, 1] }
def sspec_Max_b : SC := .seq (.reg sspec_Max_r0) (.seq (.seq (.reg sspec_Max_r1) (.cond 3 (.seq (.reg sspec_Max_r2) (.ret)) (.skip))) (.seq (.reg sspec_Max_r3) (.ret)))
def sspec_Max : SFn := { nslots := 4, nobjs := 0, params := [0, 1], ngiven := 0, bor := false, takes := [], body := sspec_Max_b, results := [.slot 2] }
def sspec_Max_t : List Tmp := [0, 1, 4, 7]
attribute [simp] sspec_Max_r0 sspec_Max_r1 sspec_Max_r2 sspec_Max_r3 sspec_Max_b sspec_Max

end Go.Eng.T

