/- Own work: part 44 of the proof of FnExactStepStage. -/
import Derived.Test.YtncobgjmochecacGreatP43
set_option linter.unusedSimpArgs false
set_option linter.unusedVariables false
namespace Go.Eng.T
def sspec_l32Copy_r18 : Reg :=
  { id := 19, draw := true, fresh := [20, 21, 22, 23], ops := [{ op := .fieldAddr (.slot 3) 11, tau := some [], om := [] },
      { op := .load none (.loc 0), tau := some [2], om := [] },
      { op := .fieldAddr (.slot 1) 11, tau := some [], om := [] },
      { op := .load none (.loc 2), tau := some [0], om := [] },
      { op := .mv (.slot 6), tau := some [], om := [] },
      { op := .indexAddr 8 (.loc 3) (.loc 4), tau := some [], om := [] },
      { op := .fieldAddr (.loc 5) 0, tau := some [], om := [] },
      { op := .load none (.loc 6), tau := some [], om := [] },
      { op := .fieldAddr (.slot 1) 11, tau := some [], om := [] },
      { op := .load none (.loc 8), tau := some [0], om := [] },
      { op := .mv (.slot 6), tau := some [], om := [] },
      { op := .indexAddr 8 (.loc 9) (.loc 10), tau := some [], om := [] },
      { op := .fieldAddr (.loc 11) 1, tau := some [], om := [] },
      { op := .load none (.loc 12), tau := some [], om := [] },
      { op := .fieldAddr (.slot 1) 11, tau := some [], om := [] },
      { op := .load none (.loc 14), tau := some [0], om := [] },
      { op := .mv (.slot 6), tau := some [], om := [] },
      { op := .indexAddr 8 (.loc 15) (.loc 16), tau := some [], om := [] },
      { op := .fieldAddr (.loc 17) 2, tau := some [], om := [] },
      { op := .load none (.loc 18), tau := some [], om := [] },
      { op := .fieldAddr (.slot 1) 11, tau := some [], om := [] },
      { op := .load none (.loc 20), tau := some [0], om := [] },
      { op := .mv (.slot 6), tau := some [], om := [] },
      { op := .indexAddr 8 (.loc 21) (.loc 22), tau := some [], om := [] },
      { op := .fieldAddr (.loc 23) 3, tau := some [], om := [] },
      { op := .load (some 5) (.loc 24), tau := some [], om := [] },
      { op := .call 67 [(false, .loc 25)] [20, 21], tau := some [20, 21], om := [20, 21] },
      { op := .build [.sc (.int .i64 0), .sc (.int .i64 0), .sc (.bool false), .sc (.bool false), .sc (.int .i64 0), .nil 1, .sc (.int .i64 0), .nil 1] [(0, 1, .loc 7), (1, 1, .loc 13), (2, 1, .loc 19), (3, 5, .loc 26)], tau := some [], om := [] },
      { op := .buildSlice 22 8 1 [.loc 27], tau := some [20, 21, 22], om := [20, 21, 22] },
      { op := .append 23 8 96 true (.loc 1) (.loc 28), tau := some [22, 23, 26], om := [22, 23, 26] },
      { op := .fieldAddr (.slot 3) 11, tau := some [], om := [] },
      { op := .store 1 (.loc 30) (.loc 29), tau := some [2], om := [2] }], ghosts := [.ren 23 26] }
def sspec_l32Copy_r19 : Reg :=
  { id := 18, ops := [{ op := .mv (.slot 6) },
      { op := .bin .add (.loc 0) (.con (.sc (.int .i64 1))) },
      { op := .mv (.loc 1) }], sets := [(6, 2)] }
def sspec_l32Copy_r20 : Reg :=
  { id := 20, ops := [{ op := .load (some 15) (.slot 3) },
      { op := .store 15 (.slot 2) (.loc 0) }], clr := [1, 3, 6] }
def sspec_l32Copy_b : SC := .seq (.reg sspec_l32Copy_r0) (.seq (.reg sspec_l32Copy_r1) (.seq (.reg sspec_l32Copy_r2) (.seq (.reg sspec_l32Copy_r3) (.seq (.reg sspec_l32Copy_r4) (.seq (.seq (.reg sspec_l32Copy_r5) (.block 0 (.loop (.seq (.seq (.reg sspec_l32Copy_r6) (.cond 7 (.skip) (.exit 0))) (.seq (.block 1 (.reg sspec_l32Copy_r7)) (.reg sspec_l32Copy_r8)))))) (.seq (.reg sspec_l32Copy_r9) (.seq (.reg sspec_l32Copy_r10) (.seq (.seq (.reg sspec_l32Copy_r11) (.block 2 (.loop (.seq (.seq (.reg sspec_l32Copy_r12) (.cond 8 (.skip) (.exit 2))) (.seq (.block 3 (.reg sspec_l32Copy_r13)) (.reg sspec_l32Copy_r14)))))) (.seq (.reg sspec_l32Copy_r15) (.seq (.seq (.reg sspec_l32Copy_r16) (.block 4 (.loop (.seq (.seq (.reg sspec_l32Copy_r17) (.cond 9 (.skip) (.exit 4))) (.seq (.block 5 (.reg sspec_l32Copy_r18)) (.reg sspec_l32Copy_r19)))))) (.seq (.reg sspec_l32Copy_r20) (.ret))))))))))))
def sspec_l32Copy : SFn := { nslots := 10, nobjs := 27, params := [0], ngiven := 0, bor := false, takes := [], body := sspec_l32Copy_b, results := [.cell 2 (some 15)] }
def sspec_l32Copy_t : List Tmp := [0, 1, 2, 3, 4, 5, 6, 24, 48, 68]
attribute [simp] sspec_l32Copy_r0 sspec_l32Copy_r1 sspec_l32Copy_r2 sspec_l32Copy_r3 sspec_l32Copy_r4 sspec_l32Copy_r5 sspec_l32Copy_r6 sspec_l32Copy_r7 sspec_l32Copy_r8 sspec_l32Copy_r9 sspec_l32Copy_r10 sspec_l32Copy_r11 sspec_l32Copy_r12 sspec_l32Copy_r13 sspec_l32Copy_r14 sspec_l32Copy_r15 sspec_l32Copy_r16 sspec_l32Copy_r17 sspec_l32Copy_r18 sspec_l32Copy_r19 sspec_l32Copy_r20 sspec_l32Copy_b sspec_l32Copy
def simpl_copyWorld_r0 : Reg :=
  { id := 0, ops := [{ op := .box 0 (.slot 0) },
      { op := .alloc 1 [.nil 1, .nil 1, .sc (.int .i64 0), .nil 4, .sc (.int .i64 0), .nil 1, .sc (.int .i64 0), .sc (.bool false), .sc (.int .i64 0), .sc (.int .i64 0), .nil 5, .nil 8, .sc (.int .i64 0), .sc (.int .i64 0), .sc (.int .i64 0)] }], sets := [(1, 0), (2, 1)], clr := [0] }
def simpl_copyWorld_r1 : Reg :=
  { id := 1, ops := [{ op := .load (some 15) (.slot 1) },
      { op := .alloc 2 [.nil 1, .nil 1, .sc (.int .i64 0), .nil 4, .sc (.int .i64 0), .nil 1, .sc (.int .i64 0), .sc (.bool false), .sc (.int .i64 0), .sc (.int .i64 0), .nil 5, .nil 8, .sc (.int .i64 0), .sc (.int .i64 0), .sc (.int .i64 0)] },
      { op := .store 15 (.loc 1) (.loc 0) }], sets := [(3, 1)] }
def simpl_copyWorld_r2 : Reg :=
  { id := 2, draw := true, ops := [{ op := .buildSlice 3 1 0 [], tau := some [3], om := [3] },
      { op := .fieldAddr (.slot 1) 0, tau := some [], om := [] },
      { op := .load none (.loc 1), tau := some [0], om := [] },
      { op := .append 4 1 8 false (.loc 0) (.loc 2), tau := some [3, 4], om := [3, 4] },
      { op := .buildSlice 5 1 0 [], tau := some [5], om := [5] },
      { op := .fieldAddr (.slot 1) 1, tau := some [], om := [] },
      { op := .load none (.loc 5), tau := some [0], om := [] },
      { op := .append 6 1 8 false (.loc 4) (.loc 6), tau := some [5, 6], om := [5, 6] },
      { op := .fieldAddr (.slot 1) 4, tau := some [], om := [] },
      { op := .load (some 4) (.loc 8), tau := some [0], om := [] },
      { op := .call 101 [(false, .loc 9)] [7], tau := some [7], om := [7] },
      { op := .fieldAddr (.slot 3) 0, tau := some [], om := [] },
      { op := .store 1 (.loc 11) (.loc 3), tau := some [2], om := [2] },
      { op := .fieldAddr (.slot 3) 1, tau := some [], om := [] },
      { op := .store 1 (.loc 13) (.loc 7), tau := some [2], om := [2] },
      { op := .fieldAddr (.slot 3) 4, tau := some [], om := [] },
      { op := .store 4 (.loc 15) (.loc 10), tau := some [2], om := [2] }] }
def simpl_copyWorld_r3 : Reg :=
  { id := 3, ops := [{ op := .fieldAddr (.slot 3) 3 },
      { op := .store 1 (.loc 0) (.con (.nil 4)) },
      { op := .fieldAddr (.slot 3) 10 },
      { op := .store 1 (.loc 2) (.con (.nil 5)) },
      { op := .fieldAddr (.slot 3) 11 },
      { op := .store 1 (.loc 4) (.con (.nil 8)) }], ghosts := [.ownc 2 10 25, .ownc 2 11 26, .ownc 2 3 24] }
def simpl_copyWorld_r4 : Reg :=
  { id := 4, ops := [{ op := .fieldAddr (.slot 1) 3 },
      { op := .load none (.loc 0) },
      { op := .len false (.loc 1) },
      { op := .mv (.con (.sc (.int .i64 0))) }], sets := [(7, 1), (8, 2), (9, 3)] }
def simpl_copyWorld_r5 : Reg :=
  { id := 5, ops := [{ op := .bin .lss (.slot 9) (.slot 8) }], sets := [(10, 0)] }
def simpl_copyWorld_r6 : Reg :=
  { id := 6, fresh := [8], ops := [{ op := .indexAddr 4 (.slot 7) (.slot 9) },
      { op := .load (some 4) (.loc 0) },
      { op := .alloc 8 [.nil 1, .nil 1, .nil 4, .sc (.int .i64 0)] },
      { op := .store 4 (.loc 2) (.loc 1) }], sets := [(4, 2)] }
def simpl_copyWorld_r7 : Reg :=
  { id := 7, draw := true, fresh := [9, 10, 11, 12, 13], ops := [{ op := .fieldAddr (.slot 3) 3, tau := some [], om := [] },
      { op := .load none (.loc 0), tau := some [2], om := [] },
      { op := .load (some 4) (.slot 4), tau := some [8], om := [] },
      { op := .call 102 [(false, .loc 2)] [9, 10, 11], tau := some [9, 10, 11], om := [9, 10, 11] },
      { op := .buildSlice 12 4 1 [.loc 3], tau := some [9, 10, 11, 12], om := [9, 10, 11, 12] },
      { op := .append 13 4 80 true (.loc 1) (.loc 4), tau := some [12, 13, 24], om := [12, 13, 24] },
      { op := .fieldAddr (.slot 3) 3, tau := some [], om := [] },
      { op := .store 1 (.loc 6) (.loc 5), tau := some [2], om := [2] }], ghosts := [.ren 13 24], clr := [4] }
def simpl_copyWorld_r8 : Reg :=
  { id := 8, ops := [{ op := .bin .add (.slot 9) (.con (.sc (.int .i64 1))) },
      { op := .mv (.loc 0) }], sets := [(9, 1)] }
def simpl_copyWorld_r9 : Reg :=
  { id := 9, ops := [{ op := .fieldAddr (.slot 1) 10 },
      { op := .load none (.loc 0) },
      { op := .len false (.loc 1) },
      { op := .mv (.con (.sc (.int .i64 0))) }], sets := [(11, 1), (12, 2), (13, 3)], clr := [7, 8, 9] }
def simpl_copyWorld_r10 : Reg :=
  { id := 10, ops := [{ op := .bin .lss (.slot 13) (.slot 12) }], sets := [(14, 0)] }
def simpl_copyWorld_r11 : Reg :=
  { id := 11, fresh := [14], ops := [{ op := .indexAddr 5 (.slot 11) (.slot 13) },
      { op := .load (some 5) (.loc 0) },
      { op := .alloc 14 [.sc (.bool false), .sc (.int .i64 0), .nil 1, .sc (.int .i64 0), .nil 1] },
      { op := .store 5 (.loc 2) (.loc 1) }], sets := [(5, 2)] }
def simpl_copyWorld_r12 : Reg :=
  { id := 12, draw := true, fresh := [15, 16, 17, 18], ops := [{ op := .fieldAddr (.slot 3) 10, tau := some [], om := [] },
      { op := .load none (.loc 0), tau := some [2], om := [] },
      { op := .load (some 5) (.slot 5), tau := some [14], om := [] },
      { op := .call 103 [(false, .loc 2)] [15, 16], tau := some [15, 16], om := [15, 16] },
      { op := .buildSlice 17 5 1 [.loc 3], tau := some [15, 16, 17], om := [15, 16, 17] },
      { op := .append 18 5 72 true (.loc 1) (.loc 4), tau := some [17, 18, 25], om := [17, 18, 25] },
      { op := .fieldAddr (.slot 3) 10, tau := some [], om := [] },
      { op := .store 1 (.loc 6) (.loc 5), tau := some [2], om := [2] }], ghosts := [.ren 18 25], clr := [5] }
def simpl_copyWorld_r13 : Reg :=
  { id := 13, ops := [{ op := .bin .add (.slot 13) (.con (.sc (.int .i64 1))) },
      { op := .mv (.loc 0) }], sets := [(13, 1)] }
def simpl_copyWorld_r14 : Reg :=
  { id := 14, ops := [{ op := .fieldAddr (.slot 1) 11 },
      { op := .load none (.loc 0) },
      { op := .len false (.loc 1) },
      { op := .mv (.con (.sc (.int .i64 0))) }], sets := [(15, 1), (16, 2), (17, 3)], clr := [1, 11, 12, 13] }
def simpl_copyWorld_r15 : Reg :=
  { id := 15, ops := [{ op := .bin .lss (.slot 17) (.slot 16) }], sets := [(18, 0)] }
def simpl_copyWorld_r16 : Reg :=
  { id := 16, fresh := [19], ops := [{ op := .indexAddr 8 (.slot 15) (.slot 17) },
      { op := .load (some 8) (.loc 0) },
      { op := .alloc 19 [.sc (.int .i64 0), .sc (.int .i64 0), .sc (.bool false), .sc (.bool false), .sc (.int .i64 0), .nil 1, .sc (.int .i64 0), .nil 1] },
      { op := .store 8 (.loc 2) (.loc 1) }], sets := [(6, 2)] }
def simpl_copyWorld_r17 : Reg :=
  { id := 17, fresh := [20, 21], ops := [{ op := .fieldAddr (.slot 6) 3 },
      { op := .load (some 5) (.loc 0) },
      { op := .call 103 [(false, .loc 1)] [20, 21] },
      { op := .fieldAddr (.slot 6) 3 },
      { op := .store 5 (.loc 3) (.loc 2) }] }
def simpl_copyWorld_r18 : Reg :=
  { id := 18, fresh := [22, 23], ops := [{ op := .fieldAddr (.slot 3) 11 },
      { op := .load none (.loc 0) },
      { op := .load (some 8) (.slot 6) },
      { op := .buildSlice 22 8 1 [.loc 2] },
      { op := .append 23 8 96 true (.loc 1) (.loc 3) },
      { op := .fieldAddr (.slot 3) 11 },
      { op := .store 1 (.loc 5) (.loc 4) }], ghosts := [.ren 23 26], clr := [6] }
def simpl_copyWorld_r19 : Reg :=
  { id := 19, ops := [{ op := .bin .add (.slot 17) (.con (.sc (.int .i64 1))) },
      { op := .mv (.loc 0) }], sets := [(17, 1)] }
def simpl_copyWorld_r20 : Reg :=
  { id := 20, ops := [{ op := .load (some 15) (.slot 3) },
      { op := .store 15 (.slot 2) (.loc 0) }], clr := [3, 15, 16, 17] }
def simpl_copyWorld_b : SC := .seq (.reg simpl_copyWorld_r0) (.seq (.reg simpl_copyWorld_r1) (.seq (.reg simpl_copyWorld_r2) (.seq (.reg simpl_copyWorld_r3) (.seq (.seq (.reg simpl_copyWorld_r4) (.block 0 (.loop (.seq (.reg simpl_copyWorld_r5) (.seq (.cond 10 (.skip) (.exit 0)) (.seq (.block 1 (.seq (.reg simpl_copyWorld_r6) (.reg simpl_copyWorld_r7))) (.reg simpl_copyWorld_r8))))))) (.seq (.seq (.reg simpl_copyWorld_r9) (.block 2 (.loop (.seq (.reg simpl_copyWorld_r10) (.seq (.cond 14 (.skip) (.exit 2)) (.seq (.block 3 (.seq (.reg simpl_copyWorld_r11) (.reg simpl_copyWorld_r12))) (.reg simpl_copyWorld_r13))))))) (.seq (.seq (.reg simpl_copyWorld_r14) (.block 4 (.loop (.seq (.reg simpl_copyWorld_r15) (.seq (.cond 18 (.skip) (.exit 4)) (.seq (.block 5 (.seq (.reg simpl_copyWorld_r16) (.seq (.reg simpl_copyWorld_r17) (.reg simpl_copyWorld_r18)))) (.reg simpl_copyWorld_r19))))))) (.seq (.reg simpl_copyWorld_r20) (.ret))))))))
def simpl_copyWorld : SFn := { nslots := 19, nobjs := 27, params := [0], ngiven := 0, bor := false, takes := [], body := simpl_copyWorld_b, results := [.cell 2 (some 15)] }
def simpl_copyWorld_t : List Tmp := [0, 1, 2, 3, 5, 7, 9, 29, 30, 31, 32, 44, 45, 46, 47, 59, 60, 61, 62]
attribute [simp] simpl_copyWorld_r0 simpl_copyWorld_r1 simpl_copyWorld_r2 simpl_copyWorld_r3 simpl_copyWorld_r4 simpl_copyWorld_r5 simpl_copyWorld_r6 simpl_copyWorld_r7 simpl_copyWorld_r8 simpl_copyWorld_r9 simpl_copyWorld_r10 simpl_copyWorld_r11 simpl_copyWorld_r12 simpl_copyWorld_r13 simpl_copyWorld_r14 simpl_copyWorld_r15 simpl_copyWorld_r16 simpl_copyWorld_r17 simpl_copyWorld_r18 simpl_copyWorld_r19 simpl_copyWorld_r20 simpl_copyWorld_b simpl_copyWorld
def slaws_heldRollout_r0 : Reg :=
  { id := 0, ops := [{ op := .box 0 (.slot 0) },
      { op := .mv (.con (.sc (.int .i64 0))) }], sets := [(2, 0)], clr := [0, 3] }
def slaws_heldRollout_r1 : Reg :=
  { id := 1, ops := [{ op := .fieldAddr (.slot 2) 1 },
      { op := .load none (.loc 0) },
      { op := .mv (.slot 1) },
      { op := .call 57 [(false, .loc 1), (false, .loc 2)] [] },
      { op := .mv (.loc 3) }], sets := [(1, 4)], clr := [2] }
def slaws_heldRollout_r2 : Reg :=
  { id := 2, ops := [{ op := .mv (.slot 1) },
      { op := .bin .lss (.loc 0) (.con (.sc (.int .i64 0))) }], sets := [(4, 1)] }
def slaws_heldRollout_r3 : Reg :=
  { id := 3, ops := [{ op := .mv (.con (.sc (.int .i64 (-1)))) }], sets := [(3, 0)], clr := [1] }
def slaws_heldRollout_r4 : Reg :=
  { id := 4, ops := [{ op := .mv (.slot 1) },
      { op := .mv (.loc 0) }], sets := [(3, 1)], clr := [1] }
def slaws_heldRollout_b : SC := .seq (.reg slaws_heldRollout_r0) (.seq (.reg slaws_heldRollout_r1) (.seq (.seq (.reg slaws_heldRollout_r2) (.cond 4 (.seq (.reg slaws_heldRollout_r3) (.ret)) (.skip))) (.seq (.reg slaws_heldRollout_r4) (.ret))))
def slaws_heldRollout : SFn := { nslots := 5, nobjs := 1, params := [0, 1], ngiven := 0, bor := false, takes := [], body := slaws_heldRollout_b, results := [.slot 3] }
def slaws_heldRollout_t : List Tmp := [0, 1, 2, 4, 10]
attribute [simp] slaws_heldRollout_r0 slaws_heldRollout_r1 slaws_heldRollout_r2 slaws_heldRollout_r3 slaws_heldRollout_r4 slaws_heldRollout_b slaws_heldRollout
def slaws_heldDialedS_r0 : Reg :=
  { id := 0, ops := [{ op := .mv (.con (.sc (.int .i64 0))) }], clr := [2] }
def slaws_heldDialedS_r1 : Reg :=
  { id := 1, ops := [{ op := .mv (.con (.sc (.int .i64 0))) }], sets := [(3, 0)] }
def slaws_heldDialedS_r2 : Reg :=
  { id := 2, ops := [{ op := .mv (.slot 3) },
      { op := .mv (.slot 0) },
      { op := .len false (.loc 1) },
      { op := .bin .lss (.loc 0) (.loc 2) }], sets := [(4, 3)] }
def slaws_heldDialedS_r3 : Reg :=
  { id := 4, ops := [{ op := .mv (.slot 0) },
      { op := .mv (.slot 3) },
      { op := .indexAddr 5 (.loc 0) (.loc 1) },
      { op := .fieldAddr (.loc 2) 0 },
      { op := .fieldAddr (.loc 3) 0 },
      { op := .load none (.loc 4) },
      { op := .mv (.slot 1) },
      { op := .bin .rem (.loc 6) (.con (.sc (.int .i64 3))) },
      { op := .bin .eql (.loc 7) (.con (.sc (.int .i64 0))) },
      { op := .beq true (.loc 5) (.loc 8) }], sets := [(5, 9)] }
def slaws_heldDialedS_r4 : Reg :=
  { id := 5, ops := [{ op := .mv (.con (.sc (.int .i64 (-1)))) }], sets := [(2, 0)], clr := [0, 1, 3] }
def slaws_heldDialedS_r5 : Reg :=
  { id := 6, ops := [{ op := .mv (.slot 1) },
      { op := .bin .add (.loc 0) (.con (.sc (.int .i64 1))) },
      { op := .mv (.loc 1) }], sets := [(1, 2)] }
def slaws_heldDialedS_r6 : Reg :=
  { id := 7, ops := [{ op := .mv (.slot 0) },
      { op := .mv (.slot 3) },
      { op := .indexAddr 5 (.loc 0) (.loc 1) },
      { op := .fieldAddr (.loc 2) 0 },
      { op := .fieldAddr (.loc 3) 1 },
      { op := .load none (.loc 4) },
      { op := .mv (.slot 1) },
      { op := .bin .neq (.loc 5) (.loc 6) }], sets := [(6, 7)] }
def slaws_heldDialedS_r7 : Reg :=
  { id := 8, ops := [{ op := .mv (.con (.sc (.int .i64 (-1)))) }], sets := [(2, 0)], clr := [0, 1, 3] }
def slaws_heldDialedS_r8 : Reg :=
  { id := 9, ops := [{ op := .mv (.slot 1) },
      { op := .bin .add (.loc 0) (.con (.sc (.int .i64 1))) },
      { op := .mv (.loc 1) }], sets := [(1, 2)] }
def slaws_heldDialedS_r9 : Reg :=
  { id := 10, ops := [{ op := .mv (.slot 0) },
      { op := .mv (.slot 3) },
      { op := .indexAddr 5 (.loc 0) (.loc 1) },
      { op := .fieldAddr (.loc 2) 0 },
      { op := .fieldAddr (.loc 3) 2 },
      { op := .load none (.loc 4) },
      { op := .mv (.slot 1) },
      { op := .call 57 [(false, .loc 5), (false, .loc 6)] [] },
      { op := .mv (.loc 7) }], sets := [(1, 8)] }
def slaws_heldDialedS_r10 : Reg :=
  { id := 11, ops := [{ op := .mv (.slot 1) },
      { op := .bin .lss (.loc 0) (.con (.sc (.int .i64 0))) }], sets := [(7, 1)] }
def slaws_heldDialedS_r11 : Reg :=
  { id := 12, ops := [{ op := .mv (.con (.sc (.int .i64 (-1)))) }], sets := [(2, 0)], clr := [0, 1, 3] }
def slaws_heldDialedS_r12 : Reg :=
  { id := 13, ops := [{ op := .mv (.slot 0) },
      { op := .mv (.slot 3) },
      { op := .indexAddr 5 (.loc 0) (.loc 1) },
      { op := .fieldAddr (.loc 2) 3 },
      { op := .load none (.loc 3) },
      { op := .mv (.slot 1) },
      { op := .bin .neq (.loc 4) (.loc 5) }], sets := [(8, 6)] }
def slaws_heldDialedS_r13 : Reg :=
  { id := 14, ops := [{ op := .mv (.con (.sc (.int .i64 (-1)))) }], sets := [(2, 0)], clr := [0, 1, 3] }
def slaws_heldDialedS_r14 : Reg :=
  { id := 15, ops := [{ op := .mv (.slot 1) },
      { op := .bin .add (.loc 0) (.con (.sc (.int .i64 1))) },
      { op := .mv (.loc 1) }], sets := [(1, 2)] }
def slaws_heldDialedS_r15 : Reg :=
  { id := 16, ops := [{ op := .mv (.slot 0) },
      { op := .mv (.slot 3) },
      { op := .indexAddr 5 (.loc 0) (.loc 1) },
      { op := .fieldAddr (.loc 2) 4 },
      { op := .load none (.loc 3) },
      { op := .mv (.slot 1) },
      { op := .call 57 [(false, .loc 4), (false, .loc 5)] [] },
      { op := .mv (.loc 6) }], sets := [(1, 7)] }
def slaws_heldDialedS_r16 : Reg :=
  { id := 17, ops := [{ op := .mv (.slot 1) },
      { op := .bin .lss (.loc 0) (.con (.sc (.int .i64 0))) }], sets := [(9, 1)] }
def slaws_heldDialedS_r17 : Reg :=
  { id := 18, ops := [{ op := .mv (.con (.sc (.int .i64 (-1)))) }], sets := [(2, 0)], clr := [0, 1, 3] }
def slaws_heldDialedS_r18 : Reg :=
  { id := 3, ops := [{ op := .mv (.slot 3) },
      { op := .bin .add (.loc 0) (.con (.sc (.int .i64 1))) },
      { op := .mv (.loc 1) }], sets := [(3, 2)] }
def slaws_heldDialedS_r19 : Reg :=
  { id := 19, ops := [{ op := .mv (.slot 1) },
      { op := .mv (.loc 0) }], sets := [(2, 1)], clr := [0, 1, 3] }
def slaws_heldDialedS_b : SC := .seq (.reg slaws_heldDialedS_r0) (.seq (.seq (.reg slaws_heldDialedS_r1) (.block 0 (.loop (.seq (.seq (.reg slaws_heldDialedS_r2) (.cond 4 (.skip) (.exit 0))) (.seq (.block 1 (.seq (.seq (.reg slaws_heldDialedS_r3) (.cond 5 (.seq (.reg slaws_heldDialedS_r4) (.ret)) (.skip))) (.seq (.reg slaws_heldDialedS_r5) (.seq (.seq (.reg slaws_heldDialedS_r6) (.cond 6 (.seq (.reg slaws_heldDialedS_r7) (.ret)) (.skip))) (.seq (.reg slaws_heldDialedS_r8) (.seq (.reg slaws_heldDialedS_r9) (.seq (.seq (.reg slaws_heldDialedS_r10) (.cond 7 (.seq (.reg slaws_heldDialedS_r11) (.ret)) (.skip))) (.seq (.seq (.reg slaws_heldDialedS_r12) (.cond 8 (.seq (.reg slaws_heldDialedS_r13) (.ret)) (.skip))) (.seq (.reg slaws_heldDialedS_r14) (.seq (.reg slaws_heldDialedS_r15) (.seq (.reg slaws_heldDialedS_r16) (.cond 9 (.seq (.reg slaws_heldDialedS_r17) (.ret)) (.skip))))))))))))) (.reg slaws_heldDialedS_r18)))))) (.seq (.reg slaws_heldDialedS_r19) (.ret)))
def slaws_heldDialedS : SFn := { nslots := 10, nobjs := 0, params := [0, 1], ngiven := 0, bor := false, takes := [], body := slaws_heldDialedS_b, results := [.slot 2] }
def slaws_heldDialedS_t : List Tmp := [0, 1, 4, 5, 9, 21, 31, 43, 50, 61]
attribute [simp] slaws_heldDialedS_r0 slaws_heldDialedS_r1 slaws_heldDialedS_r2 slaws_heldDialedS_r3 slaws_heldDialedS_r4 slaws_heldDialedS_r5 slaws_heldDialedS_r6 slaws_heldDialedS_r7 slaws_heldDialedS_r8 slaws_heldDialedS_r9 slaws_heldDialedS_r10 slaws_heldDialedS_r11 slaws_heldDialedS_r12 slaws_heldDialedS_r13 slaws_heldDialedS_r14 slaws_heldDialedS_r15 slaws_heldDialedS_r16 slaws_heldDialedS_r17 slaws_heldDialedS_r18 slaws_heldDialedS_r19 slaws_heldDialedS_b slaws_heldDialedS
def slaws_heldLoggedS_r0 : Reg :=
  { id := 0, ops := [{ op := .mv (.con (.sc (.int .i64 0))) }], clr := [2] }
def slaws_heldLoggedS_r1 : Reg :=
  { id := 1, ops := [{ op := .mv (.con (.sc (.int .i64 0))) }], sets := [(3, 0)] }
def slaws_heldLoggedS_r2 : Reg :=
  { id := 2, ops := [{ op := .mv (.slot 3) },
      { op := .mv (.slot 0) },
      { op := .len false (.loc 1) },
      { op := .bin .lss (.loc 0) (.loc 2) }], sets := [(4, 3)] }
def slaws_heldLoggedS_r3 : Reg :=
  { id := 4, ops := [{ op := .mv (.slot 0) },
      { op := .mv (.slot 3) },
      { op := .indexAddr 8 (.loc 0) (.loc 1) },
      { op := .fieldAddr (.loc 2) 0 },
      { op := .load none (.loc 3) },
      { op := .mv (.slot 1) },
      { op := .bin .neq (.loc 4) (.loc 5) }], sets := [(5, 6)] }
def slaws_heldLoggedS_r4 : Reg :=
  { id := 5, ops := [{ op := .mv (.con (.sc (.int .i64 (-1)))) }], sets := [(2, 0)], clr := [0, 1, 3] }
def slaws_heldLoggedS_r5 : Reg :=
  { id := 6, ops := [{ op := .mv (.slot 1) },
      { op := .bin .add (.loc 0) (.con (.sc (.int .i64 1))) },
      { op := .mv (.loc 1) }], sets := [(1, 2)] }
def slaws_heldLoggedS_r6 : Reg :=
  { id := 7, ops := [{ op := .mv (.slot 0) },
      { op := .mv (.slot 3) },
      { op := .indexAddr 8 (.loc 0) (.loc 1) },
      { op := .fieldAddr (.loc 2) 1 },
      { op := .load none (.loc 3) },
      { op := .mv (.slot 1) },
      { op := .bin .neq (.loc 4) (.loc 5) }], sets := [(6, 6)] }
def slaws_heldLoggedS_r7 : Reg :=
  { id := 8, ops := [{ op := .mv (.con (.sc (.int .i64 (-1)))) }], sets := [(2, 0)], clr := [0, 1, 3] }
def slaws_heldLoggedS_r8 : Reg :=
  { id := 9, ops := [{ op := .mv (.slot 1) },
      { op := .bin .add (.loc 0) (.con (.sc (.int .i64 1))) },
      { op := .mv (.loc 1) }], sets := [(1, 2)] }
def slaws_heldLoggedS_r9 : Reg :=
  { id := 10, ops := [{ op := .mv (.slot 0) },
      { op := .mv (.slot 3) },
      { op := .indexAddr 8 (.loc 0) (.loc 1) },
      { op := .fieldAddr (.loc 2) 2 },
      { op := .load none (.loc 3) },
      { op := .mv (.slot 1) },
      { op := .bin .rem (.loc 5) (.con (.sc (.int .i64 3))) },
      { op := .bin .eql (.loc 6) (.con (.sc (.int .i64 0))) },
      { op := .beq true (.loc 4) (.loc 7) }], sets := [(7, 8)] }
def slaws_heldLoggedS_r10 : Reg :=
  { id := 11, ops := [{ op := .mv (.con (.sc (.int .i64 (-1)))) }], sets := [(2, 0)], clr := [0, 1, 3] }
def slaws_heldLoggedS_r11 : Reg :=
  { id := 12, ops := [{ op := .mv (.slot 1) },
      { op := .bin .add (.loc 0) (.con (.sc (.int .i64 1))) },
      { op := .mv (.loc 1) }], sets := [(1, 2)] }
def slaws_heldLoggedS_r12 : Reg :=
  { id := 13, ops := [{ op := .mv (.slot 0) },
      { op := .mv (.slot 3) },
      { op := .indexAddr 8 (.loc 0) (.loc 1) },
      { op := .fieldAddr (.loc 2) 3 },
      { op := .fieldAddr (.loc 3) 0 },
      { op := .fieldAddr (.loc 4) 0 },
      { op := .load none (.loc 5) },
      { op := .mv (.slot 1) },
      { op := .bin .rem (.loc 7) (.con (.sc (.int .i64 3))) },
      { op := .bin .eql (.loc 8) (.con (.sc (.int .i64 0))) },
      { op := .beq true (.loc 6) (.loc 9) }], sets := [(8, 10)] }
def slaws_heldLoggedS_r13 : Reg :=
  { id := 14, ops := [{ op := .mv (.con (.sc (.int .i64 (-1)))) }], sets := [(2, 0)], clr := [0, 1, 3] }
def slaws_heldLoggedS_r14 : Reg :=
  { id := 15, ops := [{ op := .mv (.slot 1) },
      { op := .bin .add (.loc 0) (.con (.sc (.int .i64 1))) },
      { op := .mv (.loc 1) }], sets := [(1, 2)] }
def slaws_heldLoggedS_r15 : Reg :=
  { id := 16, ops := [{ op := .mv (.slot 0) },
      { op := .mv (.slot 3) },
      { op := .indexAddr 8 (.loc 0) (.loc 1) },
      { op := .fieldAddr (.loc 2) 3 },
      { op := .fieldAddr (.loc 3) 0 },
      { op := .fieldAddr (.loc 4) 1 },
      { op := .load none (.loc 5) },
      { op := .mv (.slot 1) },
      { op := .bin .neq (.loc 6) (.loc 7) }], sets := [(9, 8)] }
def slaws_heldLoggedS_r16 : Reg :=
  { id := 17, ops := [{ op := .mv (.con (.sc (.int .i64 (-1)))) }], sets := [(2, 0)], clr := [0, 1, 3] }
def slaws_heldLoggedS_r17 : Reg :=
  { id := 18, ops := [{ op := .mv (.slot 1) },
      { op := .bin .add (.loc 0) (.con (.sc (.int .i64 1))) },
      { op := .mv (.loc 1) }], sets := [(1, 2)] }
def slaws_heldLoggedS_r18 : Reg :=
  { id := 19, ops := [{ op := .mv (.slot 0) },
      { op := .mv (.slot 3) },
      { op := .indexAddr 8 (.loc 0) (.loc 1) },
      { op := .fieldAddr (.loc 2) 3 },
      { op := .fieldAddr (.loc 3) 0 },
      { op := .fieldAddr (.loc 4) 2 },
      { op := .load none (.loc 5) },
      { op := .mv (.slot 1) },
      { op := .call 57 [(false, .loc 6), (false, .loc 7)] [] },
      { op := .mv (.loc 8) }], sets := [(1, 9)] }
def slaws_heldLoggedS_r19 : Reg :=
  { id := 20, ops := [{ op := .mv (.slot 1) },
      { op := .bin .lss (.loc 0) (.con (.sc (.int .i64 0))) }], sets := [(10, 1)] }
def slaws_heldLoggedS_r20 : Reg :=
  { id := 21, ops := [{ op := .mv (.con (.sc (.int .i64 (-1)))) }], sets := [(2, 0)], clr := [0, 1, 3] }
def slaws_heldLoggedS_r21 : Reg :=
  { id := 22, ops := [{ op := .mv (.slot 0) },
      { op := .mv (.slot 3) },
      { op := .indexAddr 8 (.loc 0) (.loc 1) },
      { op := .fieldAddr (.loc 2) 3 },
      { op := .fieldAddr (.loc 3) 3 },
      { op := .load none (.loc 4) },
      { op := .mv (.slot 1) },
      { op := .bin .neq (.loc 5) (.loc 6) }], sets := [(11, 7)] }
def slaws_heldLoggedS_r22 : Reg :=
  { id := 23, ops := [{ op := .mv (.con (.sc (.int .i64 (-1)))) }], sets := [(2, 0)], clr := [0, 1, 3] }
def slaws_heldLoggedS_r23 : Reg :=
  { id := 24, ops := [{ op := .mv (.slot 1) },
      { op := .bin .add (.loc 0) (.con (.sc (.int .i64 1))) },
      { op := .mv (.loc 1) }], sets := [(1, 2)] }
def slaws_heldLoggedS_r24 : Reg :=
  { id := 25, ops := [{ op := .mv (.slot 0) },
      { op := .mv (.slot 3) },
      { op := .indexAddr 8 (.loc 0) (.loc 1) },
      { op := .fieldAddr (.loc 2) 3 },
      { op := .fieldAddr (.loc 3) 4 },
      { op := .load none (.loc 4) },
      { op := .mv (.slot 1) },
      { op := .call 57 [(false, .loc 5), (false, .loc 6)] [] },
      { op := .mv (.loc 7) }], sets := [(1, 8)] }
def slaws_heldLoggedS_r25 : Reg :=
  { id := 26, ops := [{ op := .mv (.slot 1) },
      { op := .bin .lss (.loc 0) (.con (.sc (.int .i64 0))) }], sets := [(12, 1)] }
def slaws_heldLoggedS_r26 : Reg :=
  { id := 27, ops := [{ op := .mv (.con (.sc (.int .i64 (-1)))) }], sets := [(2, 0)], clr := [0, 1, 3] }
def slaws_heldLoggedS_r27 : Reg :=
  { id := 3, ops := [{ op := .mv (.slot 3) },
      { op := .bin .add (.loc 0) (.con (.sc (.int .i64 1))) },
      { op := .mv (.loc 1) }], sets := [(3, 2)] }
def slaws_heldLoggedS_r28 : Reg :=
  { id := 28, ops := [{ op := .mv (.slot 1) },
      { op := .mv (.loc 0) }], sets := [(2, 1)], clr := [0, 1, 3] }
def slaws_heldLoggedS_b : SC := .seq (.reg slaws_heldLoggedS_r0) (.seq (.seq (.reg slaws_heldLoggedS_r1) (.block 0 (.loop (.seq (.seq (.reg slaws_heldLoggedS_r2) (.cond 4 (.skip) (.exit 0))) (.seq (.block 1 (.seq (.seq (.reg slaws_heldLoggedS_r3) (.cond 5 (.seq (.reg slaws_heldLoggedS_r4) (.ret)) (.skip))) (.seq (.reg slaws_heldLoggedS_r5) (.seq (.seq (.reg slaws_heldLoggedS_r6) (.cond 6 (.seq (.reg slaws_heldLoggedS_r7) (.ret)) (.skip))) (.seq (.reg slaws_heldLoggedS_r8) (.seq (.seq (.reg slaws_heldLoggedS_r9) (.cond 7 (.seq (.reg slaws_heldLoggedS_r10) (.ret)) (.skip))) (.seq (.reg slaws_heldLoggedS_r11) (.seq (.seq (.reg slaws_heldLoggedS_r12) (.cond 8 (.seq (.reg slaws_heldLoggedS_r13) (.ret)) (.skip))) (.seq (.reg slaws_heldLoggedS_r14) (.seq (.seq (.reg slaws_heldLoggedS_r15) (.cond 9 (.seq (.reg slaws_heldLoggedS_r16) (.ret)) (.skip))) (.seq (.reg slaws_heldLoggedS_r17) (.seq (.reg slaws_heldLoggedS_r18) (.seq (.seq (.reg slaws_heldLoggedS_r19) (.cond 10 (.seq (.reg slaws_heldLoggedS_r20) (.ret)) (.skip))) (.seq (.seq (.reg slaws_heldLoggedS_r21) (.cond 11 (.seq (.reg slaws_heldLoggedS_r22) (.ret)) (.skip))) (.seq (.reg slaws_heldLoggedS_r23) (.seq (.reg slaws_heldLoggedS_r24) (.seq (.reg slaws_heldLoggedS_r25) (.cond 12 (.seq (.reg slaws_heldLoggedS_r26) (.ret)) (.skip))))))))))))))))))) (.reg slaws_heldLoggedS_r27)))))) (.seq (.reg slaws_heldLoggedS_r28) (.ret)))
def slaws_heldLoggedS : SFn := { nslots := 13, nobjs := 0, params := [0, 1], ngiven := 0, bor := false, takes := [], body := slaws_heldLoggedS_b, results := [.slot 2] }
def slaws_heldLoggedS_t : List Tmp := [0, 1, 4, 5, 9, 18, 27, 38, 51, 62, 75, 83, 95]
attribute [simp] slaws_heldLoggedS_r0 slaws_heldLoggedS_r1 slaws_heldLoggedS_r2 slaws_heldLoggedS_r3 slaws_heldLoggedS_r4 slaws_heldLoggedS_r5 slaws_heldLoggedS_r6 slaws_heldLoggedS_r7 slaws_heldLoggedS_r8 slaws_heldLoggedS_r9 slaws_heldLoggedS_r10 slaws_heldLoggedS_r11 slaws_heldLoggedS_r12 slaws_heldLoggedS_r13 slaws_heldLoggedS_r14 slaws_heldLoggedS_r15 slaws_heldLoggedS_r16 slaws_heldLoggedS_r17 slaws_heldLoggedS_r18 slaws_heldLoggedS_r19 slaws_heldLoggedS_r20 slaws_heldLoggedS_r21 slaws_heldLoggedS_r22 slaws_heldLoggedS_r23 slaws_heldLoggedS_r24 slaws_heldLoggedS_r25 slaws_heldLoggedS_r26 slaws_heldLoggedS_r27 slaws_heldLoggedS_r28 slaws_heldLoggedS_b slaws_heldLoggedS
def simpl_copyPath_r0 : Reg :=
  { id := 0, ops := [{ op := .mv (.con (.nil 4)) }], clr := [1] }
def simpl_copyPath_r1 : Reg :=
  { id := 1, ops := [{ op := .buildSlice 0 4 0 [] },
      { op := .mv (.loc 0) }], sets := [(2, 1)], ghosts := [.ren 0 8] }
def simpl_copyPath_r2 : Reg :=
  { id := 2, ops := [{ op := .mv (.slot 0) },
      { op := .len false (.loc 0) },
      { op := .mv (.con (.sc (.int .i64 0))) }], sets := [(4, 0), (5, 1), (6, 2)], clr := [0] }
def simpl_copyPath_r3 : Reg :=
  { id := 3, ops := [{ op := .bin .lss (.slot 6) (.slot 5) }], sets := [(7, 0)] }
def simpl_copyPath_r4 : Reg :=
  { id := 4, fresh := [1], ops := [{ op := .indexAddr 4 (.slot 4) (.slot 6) },
      { op := .load (some 4) (.loc 0) },
      { op := .alloc 1 [.sc (.int .i64 0), .nil 1, .nil 1, .sc (.bool false)] },
      { op := .store 4 (.loc 2) (.loc 1) }], sets := [(3, 2)] }
def simpl_copyPath_r5 : Reg :=
  { id := 5, draw := true, fresh := [2, 3, 4, 5, 6, 7], ops := [{ op := .mv (.slot 2), tau := some [], om := [] },
      { op := .fieldAddr (.slot 3) 0, tau := some [], om := [] },
      { op := .load none (.loc 1), tau := some [1], om := [] },
      { op := .buildSlice 2 1 0 [], tau := some [2], om := [2] },
      { op := .fieldAddr (.slot 3) 1, tau := some [], om := [] },
      { op := .load none (.loc 4), tau := some [1], om := [] },
      { op := .append 3 1 8 false (.loc 3) (.loc 5), tau := some [2, 3], om := [2, 3] },
      { op := .buildSlice 4 1 0 [], tau := some [4], om := [4] },
      { op := .fieldAddr (.slot 3) 2, tau := some [], om := [] },
      { op := .load none (.loc 8), tau := some [1], om := [] },
      { op := .append 5 1 8 false (.loc 7) (.loc 9), tau := some [4, 5], om := [4, 5] },
      { op := .fieldAddr (.slot 3) 3, tau := some [], om := [] },
      { op := .load none (.loc 11), tau := some [1], om := [] },
      { op := .build [.sc (.int .i64 0), .nil 1, .nil 1, .sc (.bool false)] [(0, 1, .loc 2), (1, 1, .loc 6), (2, 1, .loc 10), (3, 1, .loc 12)], tau := some [], om := [] },
      { op := .buildSlice 6 4 1 [.loc 13], tau := some [3, 5, 6], om := [3, 5, 6] },
      { op := .append 7 4 64 true (.loc 0) (.loc 14), tau := some [6, 7, 8], om := [6, 7, 8] },
      { op := .mv (.loc 15), tau := some [], om := [] }], sets := [(2, 16)], ghosts := [.ren 7 8], clr := [3] }
def simpl_copyPath_r6 : Reg :=
  { id := 6, ops := [{ op := .bin .add (.slot 6) (.con (.sc (.int .i64 1))) },
      { op := .mv (.loc 0) }], sets := [(6, 1)] }
def simpl_copyPath_r7 : Reg :=
  { id := 7, ops := [{ op := .mv (.slot 2) },
      { op := .mv (.loc 0) }], sets := [(1, 1)], clr := [2, 4, 5, 6] }
def simpl_copyPath_b : SC := .seq (.reg simpl_copyPath_r0) (.seq (.reg simpl_copyPath_r1) (.seq (.seq (.reg simpl_copyPath_r2) (.block 0 (.loop (.seq (.reg simpl_copyPath_r3) (.seq (.cond 7 (.skip) (.exit 0)) (.seq (.block 1 (.seq (.reg simpl_copyPath_r4) (.reg simpl_copyPath_r5))) (.reg simpl_copyPath_r6))))))) (.seq (.reg simpl_copyPath_r7) (.ret))))
def simpl_copyPath : SFn := { nslots := 8, nobjs := 9, params := [0], ngiven := 0, bor := false, takes := [], body := simpl_copyPath_b, results := [.slot 1] }
def simpl_copyPath_t : List Tmp := [0, 2, 3, 5, 7, 8, 9, 10]
attribute [simp] simpl_copyPath_r0 simpl_copyPath_r1 simpl_copyPath_r2 simpl_copyPath_r3 simpl_copyPath_r4 simpl_copyPath_r5 simpl_copyPath_r6 simpl_copyPath_r7 simpl_copyPath_b simpl_copyPath
def sspec_l32End_r0 : Reg :=
  { id := 0, ops := [{ op := .box 0 (.slot 0) },
      { op := .alloc 1 [.nil 1, .nil 1, .nil 4, .sc (.int .i64 0)] }], sets := [(1, 0), (2, 1)], clr := [0] }
def sspec_l32End_r1 : Reg :=
  { id := 1, draw := true, ops := [{ op := .buildSlice 2 1 0 [], tau := some [2], om := [2] },
      { op := .fieldAddr (.slot 1) 0, tau := some [], om := [] },
      { op := .load none (.loc 1), tau := some [0], om := [] },
      { op := .append 3 1 8 false (.loc 0) (.loc 2), tau := some [2, 3], om := [2, 3] },
      { op := .buildSlice 4 1 0 [], tau := some [4], om := [4] },
      { op := .fieldAddr (.slot 1) 1, tau := some [], om := [] },
      { op := .load none (.loc 5), tau := some [0], om := [] },
      { op := .append 5 1 8 false (.loc 4) (.loc 6), tau := some [4, 5], om := [4, 5] },
      { op := .fieldAddr (.slot 1) 3, tau := some [], om := [] },
      { op := .load none (.loc 8), tau := some [0], om := [] },
      { op := .build [.nil 1, .nil 1, .nil 4, .sc (.int .i64 0)] [(0, 1, .loc 3), (1, 1, .loc 7), (3, 1, .loc 9)], tau := some [], om := [] },
      { op := .alloc 6 [.nil 1, .nil 1, .nil 4, .sc (.int .i64 0)], tau := some [6], om := [6] },
      { op := .store 4 (.loc 11) (.loc 10), tau := some [6], om := [6] }], sets := [(3, 11)], ghosts := [.ownc 6 2 14] }
def sspec_l32End_r2 : Reg :=
  { id := 2, ops := [{ op := .mv (.con (.sc (.int .i64 0))) }], sets := [(4, 0)] }
def sspec_l32End_r3 : Reg :=
  { id := 3, ops := [{ op := .mv (.slot 4) },
      { op := .fieldAddr (.slot 1) 2 },
      { op := .load none (.loc 1) },
      { op := .len false (.loc 2) },
      { op := .bin .lss (.loc 0) (.loc 3) }], sets := [(6, 4)] }
def sspec_l32End_r4 : Reg :=
  { id := 5, fresh := [7], ops := [{ op := .fieldAddr (.slot 1) 2 },
      { op := .load none (.loc 0) },
      { op := .mv (.slot 4) },
      { op := .indexAddr 4 (.loc 1) (.loc 2) },
      { op := .load (some 4) (.loc 3) },
      { op := .alloc 7 [.sc (.int .i64 0), .nil 1, .nil 1, .sc (.bool false)] },
      { op := .store 4 (.loc 5) (.loc 4) }], sets := [(5, 5)] }
def sspec_l32End_r5 : Reg :=
  { id := 6, draw := true, fresh := [8, 9, 10, 11, 12, 13], ops := [{ op := .fieldAddr (.slot 3) 2, tau := some [], om := [] },
      { op := .load none (.loc 0), tau := some [6], om := [] },
      { op := .fieldAddr (.slot 5) 0, tau := some [], om := [] },
      { op := .load none (.loc 2), tau := some [7], om := [] },
      { op := .buildSlice 8 1 0 [], tau := some [8], om := [8] },
      { op := .fieldAddr (.slot 5) 1, tau := some [], om := [] },
      { op := .load none (.loc 5), tau := some [7], om := [] },
      { op := .append 9 1 8 false (.loc 4) (.loc 6), tau := some [8, 9], om := [8, 9] },
      { op := .buildSlice 10 1 0 [], tau := some [10], om := [10] },
      { op := .fieldAddr (.slot 5) 2, tau := some [], om := [] },
      { op := .load none (.loc 9), tau := some [7], om := [] },
      { op := .append 11 1 8 false (.loc 8) (.loc 10), tau := some [10, 11], om := [10, 11] },
      { op := .fieldAddr (.slot 5) 3, tau := some [], om := [] },
      { op := .load none (.loc 12), tau := some [7], om := [] },
      { op := .build [.sc (.int .i64 0), .nil 1, .nil 1, .sc (.bool false)] [(0, 1, .loc 3), (1, 1, .loc 7), (2, 1, .loc 11), (3, 1, .loc 13)], tau := some [], om := [] },
      { op := .buildSlice 12 4 1 [.loc 14], tau := some [9, 11, 12], om := [9, 11, 12] },
      { op := .append 13 4 64 true (.loc 1) (.loc 15), tau := some [12, 13, 14], om := [12, 13, 14] },
      { op := .fieldAddr (.slot 3) 2, tau := some [], om := [] },
      { op := .store 1 (.loc 17) (.loc 16), tau := some [6], om := [6] }], ghosts := [.ren 13 14], clr := [5] }
def sspec_l32End_r6 : Reg :=
  { id := 4, ops := [{ op := .mv (.slot 4) },
      { op := .bin .add (.loc 0) (.con (.sc (.int .i64 1))) },
      { op := .mv (.loc 1) }], sets := [(4, 2)] }
def sspec_l32End_r7 : Reg :=
  { id := 7, ops := [{ op := .load (some 4) (.slot 3) },
      { op := .store 4 (.slot 2) (.loc 0) }], clr := [1, 3, 4] }
def sspec_l32End_b : SC := .seq (.reg sspec_l32End_r0) (.seq (.reg sspec_l32End_r1) (.seq (.seq (.reg sspec_l32End_r2) (.block 0 (.loop (.seq (.seq (.reg sspec_l32End_r3) (.cond 6 (.skip) (.exit 0))) (.seq (.block 1 (.seq (.reg sspec_l32End_r4) (.reg sspec_l32End_r5))) (.reg sspec_l32End_r6)))))) (.seq (.reg sspec_l32End_r7) (.ret))))
def sspec_l32End : SFn := { nslots := 7, nobjs := 15, params := [0], ngiven := 0, bor := false, takes := [], body := sspec_l32End_b, results := [.cell 2 (some 4)] }
def sspec_l32End_t : List Tmp := [0, 1, 2, 3, 4, 5, 21]
attribute [simp] sspec_l32End_r0 sspec_l32End_r1 sspec_l32End_r2 sspec_l32End_r3 sspec_l32End_r4 sspec_l32End_r5 sspec_l32End_r6 sspec_l32End_r7 sspec_l32End_b sspec_l32End
def sspec_l26Copy_r0 : Reg :=
  { id := 0, ops := [{ op := .box 0 (.slot 0) },
      { op := .alloc 1 [.sc (.int .i64 0), .nil 1, .sc (.int .i64 0), .sc (.bool false)] }], sets := [(1, 0), (2, 1)], clr := [0] }
def sspec_l26Copy_r1 : Reg :=
  { id := 1, ops := [{ op := .buildSlice 2 1 0 [] },
      { op := .fieldAddr (.slot 1) 1 },
      { op := .load none (.loc 1) },
      { op := .append 3 1 8 false (.loc 0) (.loc 2) },
      { op := .fieldAddr (.slot 1) 1 },
      { op := .store 1 (.loc 4) (.loc 3) }] }
def sspec_l26Copy_r2 : Reg :=
  { id := 2, ops := [{ op := .load (some 4) (.slot 1) },
      { op := .store 4 (.slot 2) (.loc 0) }], clr := [1] }
def sspec_l26Copy_b : SC := .seq (.reg sspec_l26Copy_r0) (.seq (.reg sspec_l26Copy_r1) (.seq (.reg sspec_l26Copy_r2) (.ret)))
def sspec_l26Copy : SFn := { nslots := 3, nobjs := 4, params := [0], ngiven := 0, bor := false, takes := [], body := sspec_l26Copy_b, results := [.cell 2 (some 4)] }
def sspec_l26Copy_t : List Tmp := [0, 1, 2]
attribute [simp] sspec_l26Copy_r0 sspec_l26Copy_r1 sspec_l26Copy_r2 sspec_l26Copy_b sspec_l26Copy
def sspec_l32Dialed_r0 : Reg :=
  { id := 0, ops := [{ op := .box 0 (.slot 0) },
      { op := .alloc 1 [.sc (.bool false), .sc (.int .i64 0), .nil 1, .sc (.int .i64 0), .nil 1] }], sets := [(1, 0), (2, 1)], clr := [0] }
def sspec_l32Dialed_r1 : Reg :=
  { id := 1, ops := [{ op := .buildSlice 2 1 0 [] },
      { op := .fieldAddr (.slot 1) 0 },
      { op := .fieldAddr (.loc 1) 2 },
      { op := .load none (.loc 2) },
      { op := .append 3 1 8 false (.loc 0) (.loc 3) },
      { op := .fieldAddr (.slot 1) 0 },
      { op := .fieldAddr (.loc 5) 2 },
      { op := .store 1 (.loc 6) (.loc 4) }] }
def sspec_l32Dialed_r2 : Reg :=
  { id := 2, ops := [{ op := .buildSlice 4 1 0 [] },
      { op := .fieldAddr (.slot 1) 4 },
      { op := .load none (.loc 1) },
      { op := .append 5 1 8 false (.loc 0) (.loc 2) },
      { op := .fieldAddr (.slot 1) 4 },
      { op := .store 1 (.loc 4) (.loc 3) }] }
def sspec_l32Dialed_r3 : Reg :=
  { id := 3, ops := [{ op := .load (some 5) (.slot 1) },
      { op := .store 5 (.slot 2) (.loc 0) }], clr := [1] }
def sspec_l32Dialed_b : SC := .seq (.reg sspec_l32Dialed_r0) (.seq (.reg sspec_l32Dialed_r1) (.seq (.reg sspec_l32Dialed_r2) (.seq (.reg sspec_l32Dialed_r3) (.ret))))
def sspec_l32Dialed : SFn := { nslots := 3, nobjs := 6, params := [0], ngiven := 0, bor := false, takes := [], body := sspec_l32Dialed_b, results := [.cell 2 (some 5)] }
def sspec_l32Dialed_t : List Tmp := [0, 1, 2]
attribute [simp] sspec_l32Dialed_r0 sspec_l32Dialed_r1 sspec_l32Dialed_r2 sspec_l32Dialed_r3 sspec_l32Dialed_b sspec_l32Dialed
def simpl_copyRollout_r0 : Reg :=
  { id := 0, ops := [{ op := .box 0 (.slot 0) },
      { op := .alloc 1 [.sc (.int .i64 0), .nil 1, .sc (.int .i64 0), .sc (.bool false)] }], sets := [(1, 0), (2, 1)], clr := [0] }
def simpl_copyRollout_r1 : Reg :=
  { id := 1, ops := [{ op := .buildSlice 2 1 0 [] },
      { op := .fieldAddr (.slot 1) 1 },
      { op := .load none (.loc 1) },
      { op := .append 3 1 8 false (.loc 0) (.loc 2) },
      { op := .fieldAddr (.slot 1) 1 },
      { op := .store 1 (.loc 4) (.loc 3) }] }
def simpl_copyRollout_r2 : Reg :=
  { id := 2, ops := [{ op := .load (some 4) (.slot 1) },
      { op := .store 4 (.slot 2) (.loc 0) }], clr := [1] }
def simpl_copyRollout_b : SC := .seq (.reg simpl_copyRollout_r0) (.seq (.reg simpl_copyRollout_r1) (.seq (.reg simpl_copyRollout_r2) (.ret)))
def simpl_copyRollout : SFn := { nslots := 3, nobjs := 4, params := [0], ngiven := 0, bor := false, takes := [], body := simpl_copyRollout_b, results := [.cell 2 (some 4)] }
def simpl_copyRollout_t : List Tmp := [0, 1, 2]
attribute [simp] simpl_copyRollout_r0 simpl_copyRollout_r1 simpl_copyRollout_r2 simpl_copyRollout_b simpl_copyRollout
def simpl_copyEndpoint_r0 : Reg :=
  { id := 0, ops := [{ op := .box 0 (.slot 0) },
      { op := .alloc 1 [.nil 1, .nil 1, .nil 4, .sc (.int .i64 0)] }], sets := [(1, 0), (2, 1)], clr := [0] }
def simpl_copyEndpoint_r1 : Reg :=
  { id := 1, draw := true, ops := [{ op := .buildSlice 2 1 0 [], tau := some [2], om := [2] },
      { op := .fieldAddr (.slot 1) 0, tau := some [], om := [] },
      { op := .load none (.loc 1), tau := some [0], om := [] },
      { op := .append 3 1 8 false (.loc 0) (.loc 2), tau := some [2, 3], om := [2, 3] },
      { op := .buildSlice 4 1 0 [], tau := some [4], om := [4] },
      { op := .fieldAddr (.slot 1) 1, tau := some [], om := [] },
      { op := .load none (.loc 5), tau := some [0], om := [] },
      { op := .append 5 1 8 false (.loc 4) (.loc 6), tau := some [4, 5], om := [4, 5] },
      { op := .fieldAddr (.slot 1) 2, tau := some [], om := [] },
      { op := .load none (.loc 8), tau := some [0], om := [] },
      { op := .call 172 [(false, .loc 9)] [6], tau := some [6], om := [6] },
      { op := .fieldAddr (.slot 1) 3, tau := some [], om := [] },
      { op := .load none (.loc 11), tau := some [0], om := [] },
      { op := .build [.nil 1, .nil 1, .nil 4, .sc (.int .i64 0)] [(0, 1, .loc 3), (1, 1, .loc 7), (2, 1, .loc 10), (3, 1, .loc 12)], tau := some [], om := [] },
      { op := .store 4 (.slot 2) (.loc 13), tau := some [1], om := [1] }], clr := [1] }
def simpl_copyEndpoint_b : SC := .seq (.reg simpl_copyEndpoint_r0) (.seq (.reg simpl_copyEndpoint_r1) (.ret))
def simpl_copyEndpoint : SFn := { nslots := 3, nobjs := 7, params := [0], ngiven := 0, bor := false, takes := [], body := simpl_copyEndpoint_b, results := [.cell 2 (some 4)] }
def simpl_copyEndpoint_t : List Tmp := [0, 1, 2]
attribute [simp] simpl_copyEndpoint_r0 simpl_copyEndpoint_r1 simpl_copyEndpoint_b simpl_copyEndpoint
def simpl_copyDialed_r0 : Reg :=
  { id := 0, ops := [{ op := .box 0 (.slot 0) },
      { op := .alloc 1 [.sc (.bool false), .sc (.int .i64 0), .nil 1, .sc (.int .i64 0), .nil 1] }], sets := [(1, 0), (2, 1)], clr := [0] }
def simpl_copyDialed_r1 : Reg :=
  { id := 1, draw := true, ops := [{ op := .buildSlice 2 1 0 [], tau := some [2], om := [2] },
      { op := .fieldAddr (.slot 1) 0, tau := some [], om := [] },
      { op := .fieldAddr (.loc 1) 2, tau := some [], om := [] },
      { op := .load none (.loc 2), tau := some [0], om := [] },
      { op := .append 3 1 8 false (.loc 0) (.loc 3), tau := some [2, 3], om := [2, 3] },
      { op := .buildSlice 4 1 0 [], tau := some [4], om := [4] },
      { op := .fieldAddr (.slot 1) 4, tau := some [], om := [] },
      { op := .load none (.loc 6), tau := some [0], om := [] },
      { op := .append 5 1 8 false (.loc 5) (.loc 7), tau := some [4, 5], om := [4, 5] },
      { op := .fieldAddr (.slot 1) 0, tau := some [], om := [] },
      { op := .fieldAddr (.loc 9) 2, tau := some [], om := [] },
      { op := .store 1 (.loc 10) (.loc 4), tau := some [0], om := [0] },
      { op := .fieldAddr (.slot 1) 4, tau := some [], om := [] },
      { op := .store 1 (.loc 12) (.loc 8), tau := some [0], om := [0] }] }
def simpl_copyDialed_r2 : Reg :=
  { id := 2, ops := [{ op := .load (some 5) (.slot 1) },
      { op := .store 5 (.slot 2) (.loc 0) }], clr := [1] }
def simpl_copyDialed_b : SC := .seq (.reg simpl_copyDialed_r0) (.seq (.reg simpl_copyDialed_r1) (.seq (.reg simpl_copyDialed_r2) (.ret)))
def simpl_copyDialed : SFn := { nslots := 3, nobjs := 6, params := [0], ngiven := 0, bor := false, takes := [], body := simpl_copyDialed_b, results := [.cell 2 (some 5)] }
def simpl_copyDialed_t : List Tmp := [0, 1, 2]
attribute [simp] simpl_copyDialed_r0 simpl_copyDialed_r1 simpl_copyDialed_r2 simpl_copyDialed_b simpl_copyDialed
def sspec_AreVersions_r0 : Reg :=
  { id := 0, ops := [{ op := .mv (.con (.sc (.bool false))) }], clr := [1] }
def sspec_AreVersions_r1 : Reg :=
  { id := 1, ops := [{ op := .mv (.con (.sc (.int .i64 0))) }], sets := [(2, 0)] }
def sspec_AreVersions_r2 : Reg :=
  { id := 2, ops := [{ op := .mv (.slot 2) },
      { op := .mv (.slot 0) },
      { op := .len false (.loc 1) },
      { op := .bin .lss (.loc 0) (.loc 2) }], sets := [(3, 3)] }
def sspec_AreVersions_r3 : Reg :=
  { id := 4, draw := true, ops := [{ op := .mv (.slot 0), tau := some [], om := [] },
      { op := .mv (.slot 2), tau := some [], om := [] },
      { op := .indexAddr 1 (.loc 0) (.loc 1), tau := some [], om := [] },
      { op := .load none (.loc 2), tau := some [], om := [] },
      { op := .call 71 [(false, .loc 3), (false, .con (.sc (.int .i64 1))), (false, .con (.sc (.int .i64 9)))] [], tau := some [], om := [] },
      { op := .un .not (.loc 4), tau := some [], om := [] },
      { op := .mv (.loc 5), tau := some [], om := [] },
      { op := .mv (.slot 2), guard := some (6, false), tau := some [], om := [] },
      { op := .bin .gtr (.loc 7) (.con (.sc (.int .i64 0))), guard := some (6, false), tau := some [], om := [] },
      { op := .mv (.loc 8), guard := some (6, false), tau := some [], om := [] },
      { op := .mv (.slot 0), guard := some (9, true), tau := some [], om := [] },
      { op := .mv (.slot 2), guard := some (9, true), tau := some [], om := [] },
      { op := .bin .sub (.loc 11) (.con (.sc (.int .i64 1))), guard := some (9, true), tau := some [], om := [] },
      { op := .indexAddr 1 (.loc 10) (.loc 12), guard := some (9, true), tau := some [], om := [] },
      { op := .load none (.loc 13), guard := some (9, true), tau := some [], om := [] },
      { op := .mv (.slot 0), guard := some (9, true), tau := some [], om := [] },
      { op := .mv (.slot 2), guard := some (9, true), tau := some [], om := [] },
      { op := .indexAddr 1 (.loc 15) (.loc 16), guard := some (9, true), tau := some [], om := [] },
      { op := .load none (.loc 17), guard := some (9, true), tau := some [], om := [] },
      { op := .bin .geq (.loc 14) (.loc 18), guard := some (9, true), tau := some [], om := [] },
      { op := .pick (.loc 9) (.loc 19) (.con (.sc (.bool false))), guard := some (6, false), tau := some [], om := [] },
      { op := .pick (.loc 6) (.con (.sc (.bool true))) (.loc 20), tau := some [], om := [] }], sets := [(4, 21)] }
def sspec_AreVersions_r4 : Reg :=
  { id := 5, ops := [{ op := .mv (.con (.sc (.bool false))) }], sets := [(1, 0)], clr := [0, 2] }
def sspec_AreVersions_r5 : Reg :=
  { id := 3, ops := [{ op := .mv (.slot 2) },
      { op := .bin .add (.loc 0) (.con (.sc (.int .i64 1))) },
      { op := .mv (.loc 1) }], sets := [(2, 2)] }
def sspec_AreVersions_r6 : Reg :=
  { id := 6, ops := [{ op := .mv (.slot 0) },
      { op := .len false (.loc 0) },
      { op := .bin .gtr (.loc 1) (.con (.sc (.int .i64 0))) },
      { op := .mv (.loc 2) }], sets := [(1, 3)], clr := [0, 2] }
def sspec_AreVersions_b : SC := .seq (.reg sspec_AreVersions_r0) (.seq (.seq (.reg sspec_AreVersions_r1) (.block 0 (.loop (.seq (.seq (.reg sspec_AreVersions_r2) (.cond 3 (.skip) (.exit 0))) (.seq (.block 1 (.seq (.reg sspec_AreVersions_r3) (.cond 4 (.seq (.reg sspec_AreVersions_r4) (.ret)) (.skip)))) (.reg sspec_AreVersions_r5)))))) (.seq (.reg sspec_AreVersions_r6) (.ret)))
def sspec_AreVersions : SFn := { nslots := 5, nobjs := 0, params := [0], ngiven := 0, bor := false, takes := [], body := sspec_AreVersions_b, results := [.slot 1] }
def sspec_AreVersions_t : List Tmp := [0, 2, 3, 7, 31]
attribute [simp] sspec_AreVersions_r0 sspec_AreVersions_r1 sspec_AreVersions_r2 sspec_AreVersions_r3 sspec_AreVersions_r4 sspec_AreVersions_r5 sspec_AreVersions_r6 sspec_AreVersions_b sspec_AreVersions
def simpl_AreVersions_r0 : Reg :=
  { id := 0, ops := [{ op := .mv (.con (.sc (.bool false))) }], clr := [1] }
def simpl_AreVersions_r1 : Reg :=
  { id := 1, ops := [{ op := .mv (.slot 0) },
      { op := .len false (.loc 0) },
      { op := .mv (.con (.sc (.int .i64 0))) }], sets := [(4, 0), (5, 1), (6, 2)] }
def simpl_AreVersions_r2 : Reg :=
  { id := 2, ops := [{ op := .bin .lss (.slot 6) (.slot 5) }], sets := [(7, 0)] }
def simpl_AreVersions_r3 : Reg :=
  { id := 3, ops := [{ op := .mv (.slot 6) },
      { op := .indexAddr 1 (.slot 4) (.slot 6) },
      { op := .load none (.loc 1) },
      { op := .mv (.loc 0) },
      { op := .mv (.loc 2) }], sets := [(2, 3), (3, 4)] }
def simpl_AreVersions_r4 : Reg :=
  { id := 4, ops := [{ op := .mv (.slot 3) },
      { op := .call 114 [(false, .loc 0), (false, .con (.sc (.int .i64 1))), (false, .con (.sc (.int .i64 9)))] [] },
      { op := .un .not (.loc 1) },
      { op := .mv (.loc 2) },
      { op := .mv (.slot 2), guard := some (3, false) },
      { op := .bin .gtr (.loc 4) (.con (.sc (.int .i64 0))), guard := some (3, false) },
      { op := .mv (.loc 5), guard := some (3, false) },
      { op := .mv (.slot 0), guard := some (6, true) },
      { op := .mv (.slot 2), guard := some (6, true) },
      { op := .bin .sub (.loc 8) (.con (.sc (.int .i64 1))), guard := some (6, true) },
      { op := .indexAddr 1 (.loc 7) (.loc 9), guard := some (6, true) },
      { op := .load none (.loc 10), guard := some (6, true) },
      { op := .mv (.slot 3), guard := some (6, true) },
      { op := .bin .geq (.loc 11) (.loc 12), guard := some (6, true) },
      { op := .pick (.loc 6) (.loc 13) (.con (.sc (.bool false))), guard := some (3, false) },
      { op := .pick (.loc 3) (.con (.sc (.bool true))) (.loc 14) }], sets := [(8, 15)], clr := [2, 3] }
def simpl_AreVersions_r5 : Reg :=
  { id := 5, ops := [{ op := .mv (.con (.sc (.bool false))) }], sets := [(1, 0)], clr := [0, 4, 5, 6] }
def simpl_AreVersions_r6 : Reg :=
  { id := 6, ops := [{ op := .bin .add (.slot 6) (.con (.sc (.int .i64 1))) },
      { op := .mv (.loc 0) }], sets := [(6, 1)] }
def simpl_AreVersions_r7 : Reg :=
  { id := 7, ops := [{ op := .mv (.slot 0) },
      { op := .len false (.loc 0) },
      { op := .bin .gtr (.loc 1) (.con (.sc (.int .i64 0))) },
      { op := .mv (.loc 2) }], sets := [(1, 3)], clr := [0, 4, 5, 6] }
def simpl_AreVersions_b : SC := .seq (.reg simpl_AreVersions_r0) (.seq (.seq (.reg simpl_AreVersions_r1) (.block 0 (.loop (.seq (.reg simpl_AreVersions_r2) (.seq (.cond 7 (.skip) (.exit 0)) (.seq (.block 1 (.seq (.reg simpl_AreVersions_r3) (.seq (.reg simpl_AreVersions_r4) (.cond 8 (.seq (.reg simpl_AreVersions_r5) (.ret)) (.skip))))) (.reg simpl_AreVersions_r6))))))) (.seq (.reg simpl_AreVersions_r7) (.ret)))
def simpl_AreVersions : SFn := { nslots := 9, nobjs := 0, params := [0], ngiven := 0, bor := false, takes := [], body := simpl_AreVersions_b, results := [.slot 1] }
def simpl_AreVersions_t : List Tmp := [0, 2, 3, 4, 5, 6, 7, 8, 27]
attribute [simp] simpl_AreVersions_r0 simpl_AreVersions_r1 simpl_AreVersions_r2 simpl_AreVersions_r3 simpl_AreVersions_r4 simpl_AreVersions_r5 simpl_AreVersions_r6 simpl_AreVersions_r7 simpl_AreVersions_b simpl_AreVersions
def sspec_LeaveRollout_r0 : Reg :=
  { id := 0, ops := [{ op := .box 0 (.slot 0) },
      { op := .alloc 1 [.nil 1, .nil 1, .sc (.int .i64 0), .nil 4, .sc (.int .i64 0), .nil 1, .sc (.int .i64 0), .sc (.bool false), .sc (.int .i64 0), .sc (.int .i64 0), .nil 5, .nil 8, .sc (.int .i64 0), .sc (.int .i64 0), .sc (.int .i64 0)] }], sets := [(1, 0), (2, 1)], clr := [0] }
def sspec_LeaveRollout_r1 : Reg :=
  { id := 1, ops := [{ op := .load (some 15) (.slot 1) },
      { op := .call 22 [(false, .loc 0)] [2, 3, 4, 5, 6, 7] },
      { op := .alloc 8 [.nil 1, .nil 1, .sc (.int .i64 0), .nil 4, .sc (.int .i64 0), .nil 1, .sc (.int .i64 0), .sc (.bool false), .sc (.int .i64 0), .sc (.int .i64 0), .nil 5, .nil 8, .sc (.int .i64 0), .sc (.int .i64 0), .sc (.int .i64 0)] },
      { op := .store 15 (.loc 2) (.loc 1) }], sets := [(3, 2)] }
def sspec_LeaveRollout_r2 : Reg :=
  { id := 2, ops := [{ op := .mv (.con (.sc (.int .i64 0))) }], sets := [(4, 0)] }
def sspec_LeaveRollout_r3 : Reg :=
  { id := 3, ops := [{ op := .mv (.slot 4) },
      { op := .fieldAddr (.slot 3) 3 },
      { op := .load none (.loc 1) },
      { op := .len false (.loc 2) },
      { op := .bin .lss (.loc 0) (.loc 3) }], sets := [(6, 4)] }
def sspec_LeaveRollout_r4 : Reg :=
  { id := 5, draw := true, fresh := [9], ops := [{ op := .fieldAddr (.slot 3) 3, tau := some [], om := [] },
      { op := .load none (.loc 0), tau := some [8], om := [] },
      { op := .mv (.slot 4), tau := some [], om := [] },
      { op := .indexAddr 4 (.loc 1) (.loc 2), tau := some [4], om := [] },
      { op := .fieldAddr (.loc 3) 0, tau := some [], om := [] },
      { op := .load none (.loc 4), tau := some [4], om := [] },
      { op := .fieldAddr (.slot 1) 4, tau := some [], om := [] },
      { op := .fieldAddr (.loc 6) 0, tau := some [], om := [] },
      { op := .load none (.loc 7), tau := some [0], om := [] },
      { op := .call 167 [(false, .loc 5), (false, .loc 8)] [9], tau := some [9], om := [9] },
      { op := .mv (.loc 9), tau := some [], om := [] }], sets := [(5, 10)] }
def sspec_LeaveRollout_r5 : Reg :=
  { id := 6, ops := [{ op := .fieldAddr (.slot 1) 0 },
      { op := .load none (.loc 0) },
      { op := .mv (.slot 5) },
      { op := .call 168 [(false, .loc 1), (false, .loc 2)] [] },
      { op := .bin .gtr (.loc 3) (.con (.sc (.int .i64 0))) }], sets := [(7, 4)] }
def sspec_LeaveRollout_r6 : Reg :=
  { id := 7, ops := [{ op := .fieldAddr (.slot 3) 3 },
      { op := .load none (.loc 0) },
      { op := .mv (.slot 4) },
      { op := .mv (.slot 5) },
      { op := .indexAddr 4 (.loc 1) (.loc 2) },
      { op := .fieldAddr (.loc 4) 0 },
      { op := .store 1 (.loc 5) (.loc 3) }], clr := [5] }
def sspec_LeaveRollout_r7 : Reg :=
  { id := 4, ops := [{ op := .mv (.slot 4) },
      { op := .bin .add (.loc 0) (.con (.sc (.int .i64 1))) },
      { op := .mv (.loc 1) }], sets := [(4, 2)] }
def sspec_LeaveRollout_r8 : Reg :=
  { id := 8, ops := [{ op := .buildSlice 10 5 0 [] },
      { op := .fieldAddr (.slot 3) 10 },
      { op := .store 1 (.loc 1) (.loc 0) }], clr := [1, 4] }
def sspec_LeaveRollout_r9 : Reg :=
  { id := 9, ops := [{ op := .load (some 15) (.slot 3) },
      { op := .store 15 (.slot 2) (.loc 0) }], clr := [3] }
def sspec_LeaveRollout_b : SC := .seq (.reg sspec_LeaveRollout_r0) (.seq (.reg sspec_LeaveRollout_r1) (.seq (.seq (.reg sspec_LeaveRollout_r2) (.block 0 (.loop (.seq (.seq (.reg sspec_LeaveRollout_r3) (.cond 6 (.skip) (.exit 0))) (.seq (.block 1 (.seq (.reg sspec_LeaveRollout_r4) (.seq (.reg sspec_LeaveRollout_r5) (.cond 7 (.reg sspec_LeaveRollout_r6) (.skip))))) (.reg sspec_LeaveRollout_r7)))))) (.seq (.reg sspec_LeaveRollout_r8) (.seq (.reg sspec_LeaveRollout_r9) (.ret)))))
def sspec_LeaveRollout : SFn := { nslots := 8, nobjs := 11, params := [0], ngiven := 0, bor := true, takes := [], body := sspec_LeaveRollout_b, results := [.cell 2 (some 15)] }
def sspec_LeaveRollout_t : List Tmp := [0, 1, 2, 3, 4, 5, 12, 29]
attribute [simp] sspec_LeaveRollout_r0 sspec_LeaveRollout_r1 sspec_LeaveRollout_r2 sspec_LeaveRollout_r3 sspec_LeaveRollout_r4 sspec_LeaveRollout_r5 sspec_LeaveRollout_r6 sspec_LeaveRollout_r7 sspec_LeaveRollout_r8 sspec_LeaveRollout_r9 sspec_LeaveRollout_b sspec_LeaveRollout
def simpl_LeaveRollout_r0 : Reg :=
  { id := 0, ops := [{ op := .box 0 (.slot 0) },
      { op := .alloc 1 [.nil 1, .nil 1, .sc (.int .i64 0), .nil 4, .sc (.int .i64 0), .nil 1, .sc (.int .i64 0), .sc (.bool false), .sc (.int .i64 0), .sc (.int .i64 0), .nil 5, .nil 8, .sc (.int .i64 0), .sc (.int .i64 0), .sc (.int .i64 0)] }], sets := [(1, 0), (2, 1)], clr := [0] }
def simpl_LeaveRollout_r1 : Reg :=
  { id := 1, draw := true, ops := [{ op := .load (some 15) (.slot 1), tau := some [0], om := [] },
      { op := .call 38 [(false, .loc 0)] [2, 3, 4, 5, 6, 7], tau := some [2, 3, 4, 5, 6, 7], om := [2, 3, 4, 5, 6, 7] },
      { op := .fieldAddr (.slot 1) 4, tau := some [], om := [] },
      { op := .fieldAddr (.loc 2) 0, tau := some [], om := [] },
      { op := .load none (.loc 3), tau := some [0], om := [] },
      { op := .alloc 8 [.nil 1, .nil 1, .sc (.int .i64 0), .nil 4, .sc (.int .i64 0), .nil 1, .sc (.int .i64 0), .sc (.bool false), .sc (.int .i64 0), .sc (.int .i64 0), .nil 5, .nil 8, .sc (.int .i64 0), .sc (.int .i64 0), .sc (.int .i64 0)], tau := some [8], om := [8] },
      { op := .store 15 (.loc 5) (.loc 1), tau := some [8], om := [8] },
      { op := .mv (.loc 4), tau := some [], om := [] }], sets := [(3, 5), (4, 7)] }
def simpl_LeaveRollout_r2 : Reg :=
  { id := 2, ops := [{ op := .fieldAddr (.slot 3) 3 },
      { op := .load none (.loc 0) },
      { op := .len false (.loc 1) },
      { op := .mv (.con (.sc (.int .i64 0))) }], sets := [(8, 1), (9, 2), (10, 3)] }
def simpl_LeaveRollout_r3 : Reg :=
  { id := 3, ops := [{ op := .bin .lss (.slot 10) (.slot 9) }], sets := [(11, 0)] }
def simpl_LeaveRollout_r4 : Reg :=
  { id := 4, fresh := [9], ops := [{ op := .mv (.slot 10) },
      { op := .indexAddr 4 (.slot 8) (.slot 10) },
      { op := .load (some 4) (.loc 1) },
      { op := .alloc 9 [.nil 1, .nil 1, .nil 4, .sc (.int .i64 0)] },
      { op := .mv (.loc 0) },
      { op := .store 4 (.loc 3) (.loc 2) }], sets := [(5, 4), (6, 3)] }
def simpl_LeaveRollout_r5 : Reg :=
  { id := 5, fresh := [10, 11], ops := [{ op := .fieldAddr (.slot 6) 0 },
      { op := .load none (.loc 0) },
      { op := .mv (.slot 4) },
      { op := .buildSlice 10 1 1 [.loc 2] },
      { op := .call 189 [(false, .loc 1), (false, .loc 3)] [11] },
      { op := .mv (.loc 4) }], sets := [(7, 5)] }
def simpl_LeaveRollout_r6 : Reg :=
  { id := 6, ops := [{ op := .mv (.slot 7) },
      { op := .len false (.loc 0) },
      { op := .fieldAddr (.slot 6) 0 },
      { op := .load none (.loc 2) },
      { op := .len false (.loc 3) },
      { op := .bin .lss (.loc 1) (.loc 4) },
      { op := .mv (.loc 5) },
      { op := .fieldAddr (.slot 1) 0, guard := some (6, true) },
      { op := .load none (.loc 7), guard := some (6, true) },
      { op := .mv (.slot 7), guard := some (6, true) },
      { op := .call 190 [(false, .loc 8), (false, .loc 9)] [], guard := some (6, true) },
      { op := .bin .gtr (.loc 10) (.con (.sc (.int .i64 0))), guard := some (6, true) },
      { op := .pick (.loc 6) (.loc 11) (.con (.sc (.bool false))) }], sets := [(12, 12)], clr := [6] }
def simpl_LeaveRollout_r7 : Reg :=
  { id := 7, ops := [{ op := .fieldAddr (.slot 3) 3 },
      { op := .load none (.loc 0) },
      { op := .mv (.slot 5) },
      { op := .mv (.slot 7) },
      { op := .indexAddr 4 (.loc 1) (.loc 2) },
      { op := .fieldAddr (.loc 4) 0 },
      { op := .store 1 (.loc 5) (.loc 3) }], clr := [5, 7] }
def simpl_LeaveRollout_r8 : Reg :=
  { id := 8, ops := [{ op := .bin .add (.slot 10) (.con (.sc (.int .i64 1))) },
      { op := .mv (.loc 0) }], sets := [(10, 1)] }
def simpl_LeaveRollout_r9 : Reg :=
  { id := 9, ops := [{ op := .fieldAddr (.slot 3) 10 },
      { op := .store 1 (.loc 0) (.con (.nil 5)) }], clr := [1, 4, 8, 9, 10] }
def simpl_LeaveRollout_r10 : Reg :=
  { id := 10, ops := [{ op := .load (some 15) (.slot 3) },
      { op := .store 15 (.slot 2) (.loc 0) }], clr := [3] }
def simpl_LeaveRollout_b : SC := .seq (.reg simpl_LeaveRollout_r0) (.seq (.reg simpl_LeaveRollout_r1) (.seq (.seq (.reg simpl_LeaveRollout_r2) (.block 0 (.loop (.seq (.reg simpl_LeaveRollout_r3) (.seq (.cond 11 (.skip) (.exit 0)) (.seq (.block 1 (.seq (.reg simpl_LeaveRollout_r4) (.seq (.reg simpl_LeaveRollout_r5) (.seq (.reg simpl_LeaveRollout_r6) (.cond 12 (.reg simpl_LeaveRollout_r7) (.skip)))))) (.reg simpl_LeaveRollout_r8))))))) (.seq (.reg simpl_LeaveRollout_r9) (.seq (.reg simpl_LeaveRollout_r10) (.ret)))))
def simpl_LeaveRollout : SFn := { nslots := 13, nobjs := 12, params := [0], ngiven := 0, bor := true, takes := [], body := simpl_LeaveRollout_b, results := [.cell 2 (some 15)] }
def simpl_LeaveRollout_t : List Tmp := [0, 1, 2, 3, 4, 5, 6, 7, 14, 15, 16, 17, 38]
attribute [simp] simpl_LeaveRollout_r0 simpl_LeaveRollout_r1 simpl_LeaveRollout_r2 simpl_LeaveRollout_r3 simpl_LeaveRollout_r4 simpl_LeaveRollout_r5 simpl_LeaveRollout_r6 simpl_LeaveRollout_r7 simpl_LeaveRollout_r8 simpl_LeaveRollout_r9 simpl_LeaveRollout_r10 simpl_LeaveRollout_b simpl_LeaveRollout
def sspec_l12Without_r0 : Reg :=
  { id := 0, ops := [{ op := .mv (.con (.nil 1)) }], clr := [2] }
def sspec_l12Without_r1 : Reg :=
  { id := 1, ops := [{ op := .buildSlice 0 1 0 [] },
      { op := .mv (.loc 0) }], sets := [(3, 1)], ghosts := [.ren 0 3] }
def sspec_l12Without_r2 : Reg :=
  { id := 2, ops := [{ op := .mv (.con (.sc (.int .i64 0))) }], sets := [(4, 0)] }
def sspec_l12Without_r3 : Reg :=
  { id := 3, ops := [{ op := .mv (.slot 4) },
      { op := .mv (.slot 0) },
      { op := .len false (.loc 1) },
      { op := .bin .lss (.loc 0) (.loc 2) }], sets := [(5, 3)] }
def sspec_l12Without_r4 : Reg :=
  { id := 5, ops := [{ op := .mv (.slot 0) },
      { op := .mv (.slot 4) },
      { op := .indexAddr 1 (.loc 0) (.loc 1) },
      { op := .load none (.loc 2) },
      { op := .mv (.slot 1) },
      { op := .bin .neq (.loc 3) (.loc 4) }], sets := [(6, 5)] }
def sspec_l12Without_r5 : Reg :=
  { id := 6, fresh := [1, 2], ops := [{ op := .mv (.slot 3) },
      { op := .mv (.slot 0) },
      { op := .mv (.slot 4) },
      { op := .indexAddr 1 (.loc 1) (.loc 2) },
      { op := .load none (.loc 3) },
      { op := .buildSlice 1 1 1 [.loc 4] },
      { op := .append 2 1 8 false (.loc 0) (.loc 5) },
      { op := .mv (.loc 6) }], sets := [(3, 7)], ghosts := [.ren 2 3] }
def sspec_l12Without_r6 : Reg :=
  { id := 4, ops := [{ op := .mv (.slot 4) },
      { op := .bin .add (.loc 0) (.con (.sc (.int .i64 1))) },
      { op := .mv (.loc 1) }], sets := [(4, 2)] }
def sspec_l12Without_r7 : Reg :=
  { id := 7, ops := [{ op := .mv (.slot 3) },
      { op := .mv (.loc 0) }], sets := [(2, 1)], clr := [0, 1, 3, 4] }
def sspec_l12Without_b : SC := .seq (.reg sspec_l12Without_r0) (.seq (.reg sspec_l12Without_r1) (.seq (.seq (.reg sspec_l12Without_r2) (.block 0 (.loop (.seq (.seq (.reg sspec_l12Without_r3) (.cond 5 (.skip) (.exit 0))) (.seq (.block 1 (.seq (.reg sspec_l12Without_r4) (.cond 6 (.reg sspec_l12Without_r5) (.skip)))) (.reg sspec_l12Without_r6)))))) (.seq (.reg sspec_l12Without_r7) (.ret))))
def sspec_l12Without : SFn := { nslots := 7, nobjs := 4, params := [0, 1], ngiven := 0, bor := false, takes := [], body := sspec_l12Without_b, results := [.slot 2] }
def sspec_l12Without_t : List Tmp := [0, 1, 4, 5, 6, 11, 19]
attribute [simp] sspec_l12Without_r0 sspec_l12Without_r1 sspec_l12Without_r2 sspec_l12Without_r3 sspec_l12Without_r4 sspec_l12Without_r5 sspec_l12Without_r6 sspec_l12Without_r7 sspec_l12Without_b sspec_l12Without
def sspec_BestCommon_r0 : Reg :=
  { id := 0, ops := [{ op := .mv (.con (.sc (.int .i64 0))) }], clr := [2] }
def sspec_BestCommon_r1 : Reg :=
  { id := 1, ops := [{ op := .mv (.slot 0) },
      { op := .mv (.slot 1) },
      { op := .call 224 [(false, .loc 0), (false, .loc 1)] [0] },
      { op := .mv (.loc 2) }], sets := [(3, 3)] }
def sspec_BestCommon_r2 : Reg :=
  { id := 2, ops := [{ op := .mv (.slot 0) },
      { op := .call 208 [(false, .loc 0)] [] },
      { op := .un .not (.loc 1) },
      { op := .mv (.loc 2) },
      { op := .mv (.slot 1), guard := some (3, false) },
      { op := .call 208 [(false, .loc 4)] [], guard := some (3, false) },
      { op := .un .not (.loc 5), guard := some (3, false) },
      { op := .pick (.loc 3) (.con (.sc (.bool true))) (.loc 6) },
      { op := .mv (.loc 7) },
      { op := .mv (.slot 3), guard := some (8, false) },
      { op := .len false (.loc 9), guard := some (8, false) },
      { op := .bin .eql (.loc 10) (.con (.sc (.int .i64 0))), guard := some (8, false) },
      { op := .pick (.loc 8) (.con (.sc (.bool true))) (.loc 11) }], sets := [(4, 12)], clr := [0, 1] }
def sspec_BestCommon_r3 : Reg :=
  { id := 3, ops := [{ op := .mv (.con (.sc (.int .i64 0))) }], sets := [(2, 0)], clr := [3] }
def sspec_BestCommon_r4 : Reg :=
  { id := 4, ops := [{ op := .mv (.slot 3) },
      { op := .mv (.slot 3) },
      { op := .len false (.loc 1) },
      { op := .bin .sub (.loc 2) (.con (.sc (.int .i64 1))) },
      { op := .indexAddr 1 (.loc 0) (.loc 3) },
      { op := .load none (.loc 4) },
      { op := .mv (.loc 5) }], sets := [(2, 6)], clr := [3] }
def sspec_BestCommon_b : SC := .seq (.reg sspec_BestCommon_r0) (.seq (.reg sspec_BestCommon_r1) (.seq (.seq (.reg sspec_BestCommon_r2) (.cond 4 (.seq (.reg sspec_BestCommon_r3) (.ret)) (.skip))) (.seq (.reg sspec_BestCommon_r4) (.ret))))
def sspec_BestCommon : SFn := { nslots := 5, nobjs := 1, params := [0, 1], ngiven := 0, bor := false, takes := [], body := sspec_BestCommon_b, results := [.slot 2] }
def sspec_BestCommon_t : List Tmp := [0, 1, 4, 5, 21]
attribute [simp] sspec_BestCommon_r0 sspec_BestCommon_r1 sspec_BestCommon_r2 sspec_BestCommon_r3 sspec_BestCommon_r4 sspec_BestCommon_b sspec_BestCommon
def simpl_without_r0 : Reg :=
  { id := 0, ops := [{ op := .mv (.con (.nil 1)) }], clr := [2] }
def simpl_without_r1 : Reg :=
  { id := 1, ops := [{ op := .buildSlice 0 1 0 [] },
      { op := .mv (.loc 0) }], sets := [(3, 1)], ghosts := [.ren 0 3] }
def simpl_without_r2 : Reg :=
  { id := 2, ops := [{ op := .mv (.slot 0) },
      { op := .len false (.loc 0) },
      { op := .mv (.con (.sc (.int .i64 0))) }], sets := [(5, 0), (6, 1), (7, 2)], clr := [0] }
def simpl_without_r3 : Reg :=
  { id := 3, ops := [{ op := .bin .lss (.slot 7) (.slot 6) }], sets := [(8, 0)] }
def simpl_without_r4 : Reg :=
  { id := 4, ops := [{ op := .indexAddr 1 (.slot 5) (.slot 7) },
      { op := .load none (.loc 0) },
      { op := .mv (.loc 1) }], sets := [(4, 2)] }
def simpl_without_r5 : Reg :=
  { id := 5, ops := [{ op := .mv (.slot 1) },
      { op := .mv (.slot 4) },
      { op := .call 188 [(false, .loc 0), (false, .loc 1)] [] },
      { op := .un .not (.loc 2) }], sets := [(9, 3)] }
def simpl_without_r6 : Reg :=
  { id := 6, fresh := [1, 2], ops := [{ op := .mv (.slot 3) },
      { op := .mv (.slot 4) },
      { op := .buildSlice 1 1 1 [.loc 1] },
      { op := .append 2 1 8 false (.loc 0) (.loc 2) },
      { op := .mv (.loc 3) }], sets := [(3, 4)], ghosts := [.ren 2 3], clr := [4] }
def simpl_without_r7 : Reg :=
  { id := 7, ops := [{ op := .bin .add (.slot 7) (.con (.sc (.int .i64 1))) },
      { op := .mv (.loc 0) }], sets := [(7, 1)] }
def simpl_without_r8 : Reg :=
  { id := 8, ops := [{ op := .mv (.slot 3) },
      { op := .mv (.loc 0) }], sets := [(2, 1)], clr := [1, 3, 5, 6, 7] }
def simpl_without_b : SC := .seq (.reg simpl_without_r0) (.seq (.reg simpl_without_r1) (.seq (.seq (.reg simpl_without_r2) (.block 0 (.loop (.seq (.reg simpl_without_r3) (.seq (.cond 8 (.skip) (.exit 0)) (.seq (.block 1 (.seq (.reg simpl_without_r4) (.seq (.reg simpl_without_r5) (.cond 9 (.reg simpl_without_r6) (.skip))))) (.reg simpl_without_r7))))))) (.seq (.reg simpl_without_r8) (.ret))))
def simpl_without : SFn := { nslots := 10, nobjs := 4, params := [0, 1], ngiven := 0, bor := false, takes := [], body := simpl_without_b, results := [.slot 2] }
def simpl_without_t : List Tmp := [0, 1, 4, 5, 7, 9, 10, 11, 12, 18]
attribute [simp] simpl_without_r0 simpl_without_r1 simpl_without_r2 simpl_without_r3 simpl_without_r4 simpl_without_r5 simpl_without_r6 simpl_without_r7 simpl_without_r8 simpl_without_b simpl_without
def simpl_BestCommon_r0 : Reg :=
  { id := 0, ops := [{ op := .mv (.con (.sc (.int .i64 0))) }], clr := [2] }
def simpl_BestCommon_r1 : Reg :=
  { id := 1, ops := [{ op := .mv (.slot 0) },
      { op := .call 232 [(false, .loc 0)] [] },
      { op := .un .not (.loc 1) },
      { op := .mv (.loc 2) },
      { op := .mv (.slot 1), guard := some (3, false) },
      { op := .call 232 [(false, .loc 4)] [], guard := some (3, false) },
      { op := .un .not (.loc 5), guard := some (3, false) },
      { op := .pick (.loc 3) (.con (.sc (.bool true))) (.loc 6) }], sets := [(5, 7)] }
def simpl_BestCommon_r2 : Reg :=
  { id := 2, ops := [{ op := .mv (.con (.sc (.int .i64 0))) }], sets := [(2, 0)], clr := [0, 1] }
def simpl_BestCommon_r3 : Reg :=
  { id := 3, ops := [{ op := .mv (.con (.sc (.int .i64 0))) }], sets := [(3, 0)] }
def simpl_BestCommon_r4 : Reg :=
  { id := 4, ops := [{ op := .mv (.slot 0) },
      { op := .mv (.slot 1) },
      { op := .call 242 [(false, .loc 0), (false, .loc 1)] [0] },
      { op := .len false (.loc 2) },
      { op := .mv (.con (.sc (.int .i64 0))) }], sets := [(6, 2), (7, 3), (8, 4)], clr := [0, 1] }
def simpl_BestCommon_r5 : Reg :=
  { id := 5, ops := [{ op := .bin .lss (.slot 8) (.slot 7) }], sets := [(9, 0)] }
def simpl_BestCommon_r6 : Reg :=
  { id := 6, ops := [{ op := .indexAddr 1 (.slot 6) (.slot 8) },
      { op := .load none (.loc 0) },
      { op := .mv (.loc 1) }], sets := [(4, 2)] }
def simpl_BestCommon_r7 : Reg :=
  { id := 7, ops := [{ op := .mv (.slot 3) },
      { op := .mv (.slot 4) },
      { op := .minmax true (.loc 0) [.loc 1] },
      { op := .mv (.loc 2) }], sets := [(3, 3)], clr := [4] }
def simpl_BestCommon_r8 : Reg :=
  { id := 8, ops := [{ op := .bin .add (.slot 8) (.con (.sc (.int .i64 1))) },
      { op := .mv (.loc 0) }], sets := [(8, 1)] }
def simpl_BestCommon_r9 : Reg :=
  { id := 9, ops := [{ op := .mv (.slot 3) },
      { op := .mv (.loc 0) }], sets := [(2, 1)], clr := [3, 6, 7, 8] }
def simpl_BestCommon_b : SC := .seq (.reg simpl_BestCommon_r0) (.seq (.seq (.reg simpl_BestCommon_r1) (.cond 5 (.seq (.reg simpl_BestCommon_r2) (.ret)) (.skip))) (.seq (.reg simpl_BestCommon_r3) (.seq (.seq (.reg simpl_BestCommon_r4) (.block 0 (.loop (.seq (.reg simpl_BestCommon_r5) (.seq (.cond 9 (.skip) (.exit 0)) (.seq (.block 1 (.seq (.reg simpl_BestCommon_r6) (.reg simpl_BestCommon_r7))) (.reg simpl_BestCommon_r8))))))) (.seq (.reg simpl_BestCommon_r9) (.ret)))))
def simpl_BestCommon : SFn := { nslots := 10, nobjs := 1, params := [0, 1], ngiven := 0, bor := false, takes := [], body := simpl_BestCommon_b, results := [.slot 2] }
def simpl_BestCommon_t : List Tmp := [0, 1, 4, 5, 7, 15, 18, 19, 20, 21]
attribute [simp] simpl_BestCommon_r0 simpl_BestCommon_r1 simpl_BestCommon_r2 simpl_BestCommon_r3 simpl_BestCommon_r4 simpl_BestCommon_r5 simpl_BestCommon_r6 simpl_BestCommon_r7 simpl_BestCommon_r8 simpl_BestCommon_r9 simpl_BestCommon_b simpl_BestCommon
def sspec_CommonOf_r0 : Reg :=
  { id := 0, ops := [{ op := .mv (.con (.nil 1)) }], clr := [2] }
def sspec_CommonOf_r1 : Reg :=
  { id := 1, ops := [{ op := .buildSlice 0 1 0 [] },
      { op := .mv (.loc 0) }], sets := [(3, 1)], ghosts := [.ren 0 3] }
def sspec_CommonOf_r2 : Reg :=
  { id := 2, ops := [{ op := .mv (.con (.sc (.int .i64 0))) }], sets := [(4, 0)] }
def sspec_CommonOf_r3 : Reg :=
  { id := 3, ops := [{ op := .mv (.slot 4) },
      { op := .mv (.slot 0) },
      { op := .len false (.loc 1) },
      { op := .bin .lss (.loc 0) (.loc 2) }], sets := [(5, 3)] }
def sspec_CommonOf_r4 : Reg :=
  { id := 5, ops := [{ op := .mv (.slot 1) },
      { op := .mv (.slot 0) },
      { op := .mv (.slot 4) },
      { op := .indexAddr 1 (.loc 1) (.loc 2) },
      { op := .load none (.loc 3) },
      { op := .call 166 [(false, .loc 0), (false, .loc 4)] [] }], sets := [(6, 5)] }
def sspec_CommonOf_r5 : Reg :=
  { id := 6, fresh := [1, 2], ops := [{ op := .mv (.slot 3) },
      { op := .mv (.slot 0) },
      { op := .mv (.slot 4) },
      { op := .indexAddr 1 (.loc 1) (.loc 2) },
      { op := .load none (.loc 3) },
      { op := .buildSlice 1 1 1 [.loc 4] },
      { op := .append 2 1 8 false (.loc 0) (.loc 5) },
      { op := .mv (.loc 6) }], sets := [(3, 7)], ghosts := [.ren 2 3] }
def sspec_CommonOf_r6 : Reg :=
  { id := 4, ops := [{ op := .mv (.slot 4) },
      { op := .bin .add (.loc 0) (.con (.sc (.int .i64 1))) },
      { op := .mv (.loc 1) }], sets := [(4, 2)] }
def sspec_CommonOf_r7 : Reg :=
  { id := 7, ops := [{ op := .mv (.slot 3) },
      { op := .mv (.loc 0) }], sets := [(2, 1)], clr := [0, 1, 3, 4] }
def sspec_CommonOf_b : SC := .seq (.reg sspec_CommonOf_r0) (.seq (.reg sspec_CommonOf_r1) (.seq (.seq (.reg sspec_CommonOf_r2) (.block 0 (.loop (.seq (.seq (.reg sspec_CommonOf_r3) (.cond 5 (.skip) (.exit 0))) (.seq (.block 1 (.seq (.reg sspec_CommonOf_r4) (.cond 6 (.reg sspec_CommonOf_r5) (.skip)))) (.reg sspec_CommonOf_r6)))))) (.seq (.reg sspec_CommonOf_r7) (.ret))))
def sspec_CommonOf : SFn := { nslots := 7, nobjs := 4, params := [0, 1], ngiven := 0, bor := false, takes := [], body := sspec_CommonOf_b, results := [.slot 2] }
def sspec_CommonOf_t : List Tmp := [0, 1, 4, 5, 6, 11, 19]
attribute [simp] sspec_CommonOf_r0 sspec_CommonOf_r1 sspec_CommonOf_r2 sspec_CommonOf_r3 sspec_CommonOf_r4 sspec_CommonOf_r5 sspec_CommonOf_r6 sspec_CommonOf_r7 sspec_CommonOf_b sspec_CommonOf
def simpl_CommonOf_r0 : Reg :=
  { id := 0, ops := [{ op := .mv (.con (.nil 1)) }], clr := [2] }
def simpl_CommonOf_r1 : Reg :=
  { id := 1, ops := [{ op := .buildSlice 0 1 0 [] },
      { op := .mv (.loc 0) }], sets := [(3, 1)], ghosts := [.ren 0 3] }
def simpl_CommonOf_r2 : Reg :=
  { id := 2, ops := [{ op := .mv (.slot 0) },
      { op := .len false (.loc 0) },
      { op := .mv (.con (.sc (.int .i64 0))) }], sets := [(5, 0), (6, 1), (7, 2)], clr := [0] }
def simpl_CommonOf_r3 : Reg :=
  { id := 3, ops := [{ op := .bin .lss (.slot 7) (.slot 6) }], sets := [(8, 0)] }
def simpl_CommonOf_r4 : Reg :=
  { id := 4, ops := [{ op := .indexAddr 1 (.slot 5) (.slot 7) },
      { op := .load none (.loc 0) },
      { op := .mv (.loc 1) }], sets := [(4, 2)] }
def simpl_CommonOf_r5 : Reg :=
  { id := 5, ops := [{ op := .mv (.slot 1) },
      { op := .mv (.slot 4) },
      { op := .call 188 [(false, .loc 0), (false, .loc 1)] [] }], sets := [(9, 2)] }
def simpl_CommonOf_r6 : Reg :=
  { id := 6, fresh := [1, 2], ops := [{ op := .mv (.slot 3) },
      { op := .mv (.slot 4) },
      { op := .buildSlice 1 1 1 [.loc 1] },
      { op := .append 2 1 8 false (.loc 0) (.loc 2) },
      { op := .mv (.loc 3) }], sets := [(3, 4)], ghosts := [.ren 2 3], clr := [4] }
def simpl_CommonOf_r7 : Reg :=
  { id := 7, ops := [{ op := .bin .add (.slot 7) (.con (.sc (.int .i64 1))) },
      { op := .mv (.loc 0) }], sets := [(7, 1)] }
def simpl_CommonOf_r8 : Reg :=
  { id := 8, ops := [{ op := .mv (.slot 3) },
      { op := .mv (.loc 0) }], sets := [(2, 1)], clr := [1, 3, 5, 6, 7] }
def simpl_CommonOf_b : SC := .seq (.reg simpl_CommonOf_r0) (.seq (.reg simpl_CommonOf_r1) (.seq (.seq (.reg simpl_CommonOf_r2) (.block 0 (.loop (.seq (.reg simpl_CommonOf_r3) (.seq (.cond 8 (.skip) (.exit 0)) (.seq (.block 1 (.seq (.reg simpl_CommonOf_r4) (.seq (.reg simpl_CommonOf_r5) (.cond 9 (.reg simpl_CommonOf_r6) (.skip))))) (.reg simpl_CommonOf_r7))))))) (.seq (.reg simpl_CommonOf_r8) (.ret))))
def simpl_CommonOf : SFn := { nslots := 10, nobjs := 4, params := [0, 1], ngiven := 0, bor := false, takes := [], body := simpl_CommonOf_b, results := [.slot 2] }
def simpl_CommonOf_t : List Tmp := [0, 1, 4, 5, 7, 9, 10, 11, 12, 17]
attribute [simp] simpl_CommonOf_r0 simpl_CommonOf_r1 simpl_CommonOf_r2 simpl_CommonOf_r3 simpl_CommonOf_r4 simpl_CommonOf_r5 simpl_CommonOf_r6 simpl_CommonOf_r7 simpl_CommonOf_r8 simpl_CommonOf_b simpl_CommonOf
def sspec_StepStage_r0 : Reg :=
  { id := 0, ops := [{ op := .box 0 (.slot 0) },
      { op := .alloc 1 [.nil 1, .nil 1, .sc (.int .i64 0), .nil 4, .sc (.int .i64 0), .nil 1, .sc (.int .i64 0), .sc (.bool false), .sc (.int .i64 0), .sc (.int .i64 0), .nil 5, .nil 8, .sc (.int .i64 0), .sc (.int .i64 0), .sc (.int .i64 0)] },
      { op := .mv (.con (.sc (.bool false))) }], sets := [(1, 0), (2, 1)], clr := [0, 3] }
def sspec_StepStage_r1 : Reg :=
  { id := 1, ops := [{ op := .load (some 15) (.slot 1) },
      { op := .call 22 [(false, .loc 0)] [2, 3, 4, 5, 6, 7] },
      { op := .alloc 8 [.nil 1, .nil 1, .sc (.int .i64 0), .nil 4, .sc (.int .i64 0), .nil 1, .sc (.int .i64 0), .sc (.bool false), .sc (.int .i64 0), .sc (.int .i64 0), .nil 5, .nil 8, .sc (.int .i64 0), .sc (.int .i64 0), .sc (.int .i64 0)] },
      { op := .store 15 (.loc 2) (.loc 1) }], sets := [(4, 2)] }
def sspec_StepStage_r2 : Reg :=
  { id := 2, ops := [{ op := .fieldAddr (.slot 1) 14 },
      { op := .load none (.loc 0) },
      { op := .bin .eql (.loc 1) (.con (.sc (.int .i64 0))) }], sets := [(9, 2)] }
def sspec_StepStage_r3 : Reg :=
  { id := 3, ops := [{ op := .load (some 15) (.slot 4) },
      { op := .store 15 (.slot 2) (.loc 0) },
      { op := .mv (.con (.sc (.bool false))) }], sets := [(3, 2)], clr := [1, 4] }
def sspec_StepStage_r4 : Reg :=
  { id := 4, ops := [{ op := .load (some 15) (.slot 1) },
      { op := .call 82 [(false, .loc 0)] [] }], sets := [(10, 1)] }
def sspec_StepStage_r5 : Reg :=
  { id := 5, ops := [{ op := .bin .eql (.slot 10) (.con (.sc (.int .i64 1))) },
      { op := .mv (.loc 0) }], sets := [(11, 1)] }
def sspec_StepStage_r6 : Reg :=
  { id := 6, ops := [{ op := .fieldAddr (.slot 1) 4 },
      { op := .load (some 4) (.loc 0) },
      { op := .call 147 [(false, .loc 1)] [9] },
      { op := .mv (.loc 2) },
      { op := .extract (.loc 3) 0 },
      { op := .extract (.loc 3) 1 },
      { op := .alloc 10 [.sc (.int .i64 0), .nil 1, .sc (.int .i64 0), .sc (.bool false)] },
      { op := .store 4 (.loc 6) (.loc 4) },
      { op := .mv (.loc 5) }], sets := [(5, 6), (6, 8)], clr := [1, 10] }
def sspec_StepStage_r7 : Reg :=
  { id := 7, ops := [{ op := .mv (.slot 6) },
      { op := .un .not (.loc 0) }], sets := [(12, 1)], clr := [6] }
def sspec_StepStage_r8 : Reg :=
  { id := 8, ops := [{ op := .load (some 15) (.slot 4) },
      { op := .store 15 (.slot 2) (.loc 0) },
      { op := .mv (.con (.sc (.bool false))) }], sets := [(3, 2)], clr := [4, 5] }
def sspec_StepStage_r9 : Reg :=
  { id := 9, ops := [{ op := .load (some 4) (.slot 5) },
      { op := .fieldAddr (.slot 4) 4 },
      { op := .store 4 (.loc 1) (.loc 0) }], clr := [5] }
def sspec_StepStage_r10 : Reg :=
  { id := 10, ops := [{ op := .load (some 15) (.slot 4) },
      { op := .call 146 [(false, .loc 0)] [11, 12, 13, 14, 15, 16] },
      { op := .store 15 (.slot 2) (.loc 1) },
      { op := .mv (.con (.sc (.bool true))) }], sets := [(3, 3)], clr := [4] }
def sspec_StepStage_r11 : Reg :=
  { id := 11, ops := [{ op := .bin .eql (.slot 10) (.con (.sc (.int .i64 2))) },
      { op := .mv (.loc 0) }], sets := [(13, 1)], clr := [10] }
def sspec_StepStage_r12 : Reg :=
  { id := 12, ops := [{ op := .fieldAddr (.slot 1) 4 },
      { op := .load (some 4) (.loc 0) },
      { op := .call 148 [(false, .loc 1)] [17] },
      { op := .mv (.loc 2) },
      { op := .extract (.loc 3) 0 },
      { op := .extract (.loc 3) 1 },
      { op := .alloc 18 [.sc (.int .i64 0), .nil 1, .sc (.int .i64 0), .sc (.bool false)] },
      { op := .store 4 (.loc 6) (.loc 4) },
      { op := .mv (.loc 5) }], sets := [(7, 6), (8, 8)] }
def sspec_StepStage_r13 : Reg :=
  { id := 13, ops := [{ op := .mv (.slot 8) },
      { op := .un .not (.loc 0) }], sets := [(14, 1)], clr := [8] }
def sspec_StepStage_r14 : Reg :=
  { id := 14, ops := [{ op := .load (some 15) (.slot 4) },
      { op := .store 15 (.slot 2) (.loc 0) },
      { op := .mv (.con (.sc (.bool false))) }], sets := [(3, 2)], clr := [1, 4, 7] }
def sspec_StepStage_r15 : Reg :=
  { id := 15, ops := [{ op := .load (some 15) (.slot 1) },
      { op := .call 149 [(false, .loc 0)] [19, 20, 21, 22, 23, 24] },
      { op := .store 15 (.slot 4) (.loc 1) }], clr := [1] }
def sspec_StepStage_r16 : Reg :=
  { id := 16, ops := [{ op := .load (some 4) (.slot 7) },
      { op := .fieldAddr (.slot 4) 4 },
      { op := .store 4 (.loc 1) (.loc 0) }], clr := [7] }
def sspec_StepStage_r17 : Reg :=
  { id := 17, ops := [{ op := .load (some 15) (.slot 4) },
      { op := .store 15 (.slot 2) (.loc 0) },
      { op := .mv (.con (.sc (.bool true))) }], sets := [(3, 2)], clr := [4] }
def sspec_StepStage_r18 : Reg :=
  { id := 18, ops := [{ op := .load (some 15) (.slot 4) },
      { op := .store 15 (.slot 2) (.loc 0) },
      { op := .mv (.con (.sc (.bool false))) }], sets := [(3, 2)], clr := [1, 4] }
def sspec_StepStage_b : SC := .seq (.reg sspec_StepStage_r0) (.seq (.reg sspec_StepStage_r1) (.seq (.seq (.reg sspec_StepStage_r2) (.cond 9 (.seq (.reg sspec_StepStage_r3) (.ret)) (.skip))) (.seq (.seq (.reg sspec_StepStage_r4) (.block 0 (.seq (.reg sspec_StepStage_r5) (.cond 11 (.seq (.reg sspec_StepStage_r6) (.seq (.seq (.reg sspec_StepStage_r7) (.cond 12 (.seq (.reg sspec_StepStage_r8) (.ret)) (.skip))) (.seq (.reg sspec_StepStage_r9) (.seq (.reg sspec_StepStage_r10) (.ret))))) (.seq (.reg sspec_StepStage_r11) (.cond 13 (.seq (.reg sspec_StepStage_r12) (.seq (.seq (.reg sspec_StepStage_r13) (.cond 14 (.seq (.reg sspec_StepStage_r14) (.ret)) (.skip))) (.seq (.reg sspec_StepStage_r15) (.seq (.reg sspec_StepStage_r16) (.seq (.reg sspec_StepStage_r17) (.ret)))))) (.skip))))))) (.seq (.reg sspec_StepStage_r18) (.ret)))))
def sspec_StepStage : SFn := { nslots := 15, nobjs := 25, params := [0], ngiven := 0, bor := false, takes := [], body := sspec_StepStage_b, results := [.cell 2 (some 15), .slot 3] }
def sspec_StepStage_t : List Tmp := [0, 1, 2, 3, 4, 5, 6, 7, 8, 13, 16, 17, 26, 32, 41]
attribute [simp] sspec_StepStage_r0 sspec_StepStage_r1 sspec_StepStage_r2 sspec_StepStage_r3 sspec_StepStage_r4 sspec_StepStage_r5 sspec_StepStage_r6 sspec_StepStage_r7 sspec_StepStage_r8 sspec_StepStage_r9 sspec_StepStage_r10 sspec_StepStage_r11 sspec_StepStage_r12 sspec_StepStage_r13 sspec_StepStage_r14 sspec_StepStage_r15 sspec_StepStage_r16 sspec_StepStage_r17 sspec_StepStage_r18 sspec_StepStage_b sspec_StepStage
def simpl_StepStage_r0 : Reg :=
  { id := 0, ops := [{ op := .box 0 (.slot 0) },
      { op := .alloc 1 [.nil 1, .nil 1, .sc (.int .i64 0), .nil 4, .sc (.int .i64 0), .nil 1, .sc (.int .i64 0), .sc (.bool false), .sc (.int .i64 0), .sc (.int .i64 0), .nil 5, .nil 8, .sc (.int .i64 0), .sc (.int .i64 0), .sc (.int .i64 0)] },
      { op := .mv (.con (.sc (.bool false))) }], sets := [(1, 0), (2, 1)], clr := [0, 3] }
def simpl_StepStage_r1 : Reg :=
  { id := 1, ops := [{ op := .load (some 15) (.slot 1) },
      { op := .call 38 [(false, .loc 0)] [2, 3, 4, 5, 6, 7] },
      { op := .alloc 8 [.nil 1, .nil 1, .sc (.int .i64 0), .nil 4, .sc (.int .i64 0), .nil 1, .sc (.int .i64 0), .sc (.bool false), .sc (.int .i64 0), .sc (.int .i64 0), .nil 5, .nil 8, .sc (.int .i64 0), .sc (.int .i64 0), .sc (.int .i64 0)] },
      { op := .store 15 (.loc 2) (.loc 1) },
      { op := .mv (.con (.sc (.bool false))) }], sets := [(4, 2)], ghosts := [.ren 5 29], clr := [5] }
def simpl_StepStage_r2 : Reg :=
  { id := 2, ops := [{ op := .fieldAddr (.slot 1) 14 },
      { op := .load none (.loc 0) },
      { op := .bin .eql (.loc 1) (.con (.sc (.int .i64 0))) }], sets := [(6, 2)] }
def simpl_StepStage_r3 : Reg :=
  { id := 3, ops := [{ op := .load (some 15) (.slot 4) },
      { op := .store 15 (.slot 2) (.loc 0) },
      { op := .mv (.con (.sc (.bool false))) }], sets := [(3, 2)], clr := [1, 4] }
def simpl_StepStage_r4 : Reg :=
  { id := 4, ops := [{ op := .load (some 15) (.slot 1) },
      { op := .call 127 [(false, .loc 0)] [] }], sets := [(7, 1)] }
def simpl_StepStage_r5 : Reg :=
  { id := 5, ops := [{ op := .bin .eql (.slot 7) (.con (.sc (.int .i64 1))) },
      { op := .mv (.loc 0) }], sets := [(8, 1)] }
def simpl_StepStage_r6 : Reg :=
  { id := 6, ops := [{ op := .fieldAddr (.slot 1) 4 },
      { op := .load (some 4) (.loc 0) },
      { op := .call 178 [(false, .loc 1)] [9] },
      { op := .mv (.loc 2) },
      { op := .extract (.loc 3) 0 },
      { op := .extract (.loc 3) 1 },
      { op := .fieldAddr (.slot 4) 4 },
      { op := .store 4 (.loc 6) (.loc 4) },
      { op := .mv (.loc 5) }], sets := [(5, 8)], ghosts := [.ren 9 29], clr := [7] }
def simpl_StepStage_r7 : Reg :=
  { id := 7, ops := [{ op := .mv (.slot 5) }], sets := [(9, 0)], clr := [5] }
def simpl_StepStage_r8 : Reg :=
  { id := 8, ops := [{ op := .load (some 15) (.slot 4) },
      { op := .call 177 [(false, .loc 0)] [10, 11, 12, 13, 14, 15] },
      { op := .store 15 (.slot 2) (.loc 1) },
      { op := .mv (.con (.sc (.bool true))) }], sets := [(3, 3)], clr := [1, 4] }
def simpl_StepStage_r9 : Reg :=
  { id := 9, ops := [{ op := .bin .eql (.slot 7) (.con (.sc (.int .i64 2))) },
      { op := .mv (.loc 0) }], sets := [(10, 1)], clr := [7] }
def simpl_StepStage_r10 : Reg :=
  { id := 10, ops := [{ op := .fieldAddr (.slot 1) 4 },
      { op := .load (some 4) (.loc 0) },
      { op := .call 179 [(false, .loc 1)] [16] },
      { op := .mv (.loc 2) },
      { op := .extract (.loc 3) 0 },
      { op := .extract (.loc 3) 1 },
      { op := .fieldAddr (.slot 4) 4 },
      { op := .store 4 (.loc 6) (.loc 4) },
      { op := .mv (.loc 5) }], sets := [(5, 8)], ghosts := [.ren 16 29] }
def simpl_StepStage_r11 : Reg :=
  { id := 11, ops := [{ op := .mv (.slot 5) }], sets := [(11, 0)], clr := [5] }
def simpl_StepStage_r12 : Reg :=
  { id := 12, ops := [{ op := .load (some 15) (.slot 4) },
      { op := .call 180 [(false, .loc 0)] [17, 18, 19, 20, 21, 22] },
      { op := .store 15 (.slot 2) (.loc 1) },
      { op := .mv (.con (.sc (.bool true))) }], sets := [(3, 3)], clr := [1, 4] }
def simpl_StepStage_r13 : Reg :=
  { id := 13, ops := [{ op := .load (some 15) (.slot 1) },
      { op := .call 38 [(false, .loc 0)] [23, 24, 25, 26, 27, 28] },
      { op := .store 15 (.slot 2) (.loc 1) },
      { op := .mv (.con (.sc (.bool false))) }], sets := [(3, 3)], clr := [1, 4] }
def simpl_StepStage_b : SC := .seq (.reg simpl_StepStage_r0) (.seq (.reg simpl_StepStage_r1) (.seq (.seq (.reg simpl_StepStage_r2) (.cond 6 (.seq (.reg simpl_StepStage_r3) (.ret)) (.skip))) (.seq (.seq (.reg simpl_StepStage_r4) (.block 0 (.seq (.reg simpl_StepStage_r5) (.cond 8 (.seq (.reg simpl_StepStage_r6) (.seq (.reg simpl_StepStage_r7) (.cond 9 (.seq (.reg simpl_StepStage_r8) (.ret)) (.skip)))) (.seq (.reg simpl_StepStage_r9) (.cond 10 (.seq (.reg simpl_StepStage_r10) (.seq (.reg simpl_StepStage_r11) (.cond 11 (.seq (.reg simpl_StepStage_r12) (.ret)) (.skip)))) (.skip))))))) (.seq (.reg simpl_StepStage_r13) (.ret)))))
def simpl_StepStage : SFn := { nslots := 12, nobjs := 30, params := [0], ngiven := 0, bor := false, takes := [], body := simpl_StepStage_b, results := [.cell 2 (some 15), .slot 3] }
def simpl_StepStage_t : List Tmp := [0, 1, 2, 3, 4, 5, 10, 13, 14, 23, 26, 35]
attribute [simp] simpl_StepStage_r0 simpl_StepStage_r1 simpl_StepStage_r2 simpl_StepStage_r3 simpl_StepStage_r4 simpl_StepStage_r5 simpl_StepStage_r6 simpl_StepStage_r7 simpl_StepStage_r8 simpl_StepStage_r9 simpl_StepStage_r10 simpl_StepStage_r11 simpl_StepStage_r12 simpl_StepStage_r13 simpl_StepStage_b simpl_StepStage
def sspec_EnterStage_r0 : Reg :=
  { id := 0, ops := [{ op := .box 0 (.slot 0) },
      { op := .alloc 1 [.nil 1, .nil 1, .sc (.int .i64 0), .nil 4, .sc (.int .i64 0), .nil 1, .sc (.int .i64 0), .sc (.bool false), .sc (.int .i64 0), .sc (.int .i64 0), .nil 5, .nil 8, .sc (.int .i64 0), .sc (.int .i64 0), .sc (.int .i64 0)] }], sets := [(1, 0), (2, 1)], clr := [0] }
def sspec_EnterStage_r1 : Reg :=
  { id := 1, ops := [{ op := .load (some 15) (.slot 1) },
      { op := .call 22 [(false, .loc 0)] [2, 3, 4, 5, 6, 7] },
      { op := .alloc 8 [.nil 1, .nil 1, .sc (.int .i64 0), .nil 4, .sc (.int .i64 0), .nil 1, .sc (.int .i64 0), .sc (.bool false), .sc (.int .i64 0), .sc (.int .i64 0), .nil 5, .nil 8, .sc (.int .i64 0), .sc (.int .i64 0), .sc (.int .i64 0)] },
      { op := .store 15 (.loc 2) (.loc 1) }], sets := [(3, 2)] }
def sspec_EnterStage_r2 : Reg :=
  { id := 2, ops := [{ op := .fieldAddr (.slot 1) 4 },
      { op := .load (some 4) (.loc 0) },
      { op := .call 145 [(false, .loc 1)] [] },
      { op := .un .not (.loc 2) },
      { op := .mv (.loc 3) },
      { op := .fieldAddr (.slot 1) 4, guard := some (4, false) },
      { op := .fieldAddr (.loc 5) 3, guard := some (4, false) },
      { op := .load none (.loc 6), guard := some (4, false) },
      { op := .pick (.loc 4) (.con (.sc (.bool true))) (.loc 7) }], sets := [(5, 8)] }
def sspec_EnterStage_r3 : Reg :=
  { id := 3, ops := [{ op := .load (some 15) (.slot 3) },
      { op := .store 15 (.slot 2) (.loc 0) }], clr := [1, 3] }
def sspec_EnterStage_r4 : Reg :=
  { id := 4, ops := [{ op := .mv (.con (.sc (.int .i64 0))) }], sets := [(4, 0)] }
def sspec_EnterStage_r5 : Reg :=
  { id := 5, ops := [{ op := .mv (.slot 4) },
      { op := .fieldAddr (.slot 3) 3 },
      { op := .load none (.loc 1) },
      { op := .len false (.loc 2) },
      { op := .bin .lss (.loc 0) (.loc 3) }], sets := [(6, 4)] }
def sspec_EnterStage_r6 : Reg :=
  { id := 7, ops := [{ op := .fieldAddr (.slot 1) 4 },
      { op := .load (some 4) (.loc 0) },
      { op := .mv (.slot 4) },
      { op := .fieldAddr (.slot 3) 3 },
      { op := .load none (.loc 3) },
      { op := .len false (.loc 4) },
      { op := .call 214 [(false, .loc 1), (false, .loc 2), (false, .loc 5)] [] }], sets := [(7, 6)] }
def sspec_EnterStage_r7 : Reg :=
  { id := 8, draw := true, fresh := [9], ops := [{ op := .fieldAddr (.slot 3) 3, tau := some [], om := [] },
      { op := .load none (.loc 0), tau := some [8], om := [] },
      { op := .mv (.slot 4), tau := some [], om := [] },
      { op := .fieldAddr (.slot 3) 3, tau := some [], om := [] },
      { op := .load none (.loc 3), tau := some [8], om := [] },
      { op := .mv (.slot 4), tau := some [], om := [] },
      { op := .indexAddr 4 (.loc 4) (.loc 5), tau := some [4], om := [] },
      { op := .fieldAddr (.loc 6) 0, tau := some [], om := [] },
      { op := .load none (.loc 7), tau := some [4], om := [] },
      { op := .fieldAddr (.slot 1) 4, tau := some [], om := [] },
      { op := .fieldAddr (.loc 9) 0, tau := some [], om := [] },
      { op := .load none (.loc 10), tau := some [0], om := [] },
      { op := .call 159 [(false, .loc 8), (false, .loc 11)] [9], tau := some [9], om := [9] },
      { op := .indexAddr 4 (.loc 1) (.loc 2), tau := some [4], om := [] },
      { op := .fieldAddr (.loc 13) 0, tau := some [], om := [] },
      { op := .store 1 (.loc 14) (.loc 12), tau := some [4, 9], om := [4, 9] }] }
def sspec_EnterStage_r8 : Reg :=
  { id := 6, ops := [{ op := .mv (.slot 4) },
      { op := .bin .add (.loc 0) (.con (.sc (.int .i64 1))) },
      { op := .mv (.loc 1) }], sets := [(4, 2)] }
def sspec_EnterStage_r9 : Reg :=
  { id := 9, ops := [{ op := .buildSlice 10 5 0 [] },
      { op := .fieldAddr (.slot 3) 10 },
      { op := .store 1 (.loc 1) (.loc 0) }], clr := [4] }
def sspec_EnterStage_r10 : Reg :=
  { id := 10, ops := [{ op := .fieldAddr (.slot 1) 14 },
      { op := .load none (.loc 0) },
      { op := .fieldAddr (.slot 1) 4 },
      { op := .fieldAddr (.loc 2) 2 },
      { op := .load none (.loc 3) },
      { op := .bin .add (.loc 4) (.con (.sc (.int .i64 1))) },
      { op := .call 215 [(false, .loc 1), (false, .loc 5)] [] },
      { op := .fieldAddr (.slot 3) 14 },
      { op := .store 1 (.loc 7) (.loc 6) }], clr := [1] }
def sspec_EnterStage_r11 : Reg :=
  { id := 11, ops := [{ op := .load (some 15) (.slot 3) },
      { op := .store 15 (.slot 2) (.loc 0) }], clr := [3] }
def sspec_EnterStage_b : SC := .seq (.reg sspec_EnterStage_r0) (.seq (.reg sspec_EnterStage_r1) (.seq (.seq (.reg sspec_EnterStage_r2) (.cond 5 (.seq (.reg sspec_EnterStage_r3) (.ret)) (.skip))) (.seq (.seq (.reg sspec_EnterStage_r4) (.block 0 (.loop (.seq (.seq (.reg sspec_EnterStage_r5) (.cond 6 (.skip) (.exit 0))) (.seq (.block 1 (.seq (.reg sspec_EnterStage_r6) (.cond 7 (.reg sspec_EnterStage_r7) (.skip)))) (.reg sspec_EnterStage_r8)))))) (.seq (.reg sspec_EnterStage_r9) (.seq (.reg sspec_EnterStage_r10) (.seq (.reg sspec_EnterStage_r11) (.ret)))))))
def sspec_EnterStage : SFn := { nslots := 8, nobjs := 11, params := [0], ngiven := 0, bor := true, takes := [], body := sspec_EnterStage_b, results := [.cell 2 (some 15)] }
def sspec_EnterStage_t : List Tmp := [0, 1, 2, 3, 4, 15, 21, 30]
attribute [simp] sspec_EnterStage_r0 sspec_EnterStage_r1 sspec_EnterStage_r2 sspec_EnterStage_r3 sspec_EnterStage_r4 sspec_EnterStage_r5 sspec_EnterStage_r6 sspec_EnterStage_r7 sspec_EnterStage_r8 sspec_EnterStage_r9 sspec_EnterStage_r10 sspec_EnterStage_r11 sspec_EnterStage_b sspec_EnterStage
def sspec_NextStage_r0 : Reg :=
  { id := 0, ops := [{ op := .box 0 (.slot 0) },
      { op := .alloc 1 [.sc (.int .i64 0), .nil 1, .sc (.int .i64 0), .sc (.bool false)] },
      { op := .mv (.con (.sc (.bool false))) }], sets := [(1, 0), (2, 1)], clr := [0, 3] }
def sspec_NextStage_r1 : Reg :=
  { id := 1, ops := [{ op := .load (some 4) (.slot 1) },
      { op := .call 66 [(false, .loc 0)] [2] },
      { op := .alloc 3 [.sc (.int .i64 0), .nil 1, .sc (.int .i64 0), .sc (.bool false)] },
      { op := .store 4 (.loc 2) (.loc 1) }], sets := [(4, 2)] }
def sspec_NextStage_r2 : Reg :=
  { id := 2, ops := [{ op := .load (some 4) (.slot 1) },
      { op := .call 145 [(false, .loc 0)] [] },
      { op := .un .not (.loc 1) },
      { op := .mv (.loc 2) },
      { op := .fieldAddr (.slot 1) 3, guard := some (3, false) },
      { op := .load none (.loc 4), guard := some (3, false) },
      { op := .pick (.loc 3) (.con (.sc (.bool true))) (.loc 5) },
      { op := .mv (.loc 6) },
      { op := .fieldAddr (.slot 1) 2, guard := some (7, false) },
      { op := .load none (.loc 8), guard := some (7, false) },
      { op := .fieldAddr (.slot 1) 1, guard := some (7, false) },
      { op := .load none (.loc 10), guard := some (7, false) },
      { op := .len false (.loc 11), guard := some (7, false) },
      { op := .bin .sub (.loc 12) (.con (.sc (.int .i64 1))), guard := some (7, false) },
      { op := .bin .eql (.loc 9) (.loc 13), guard := some (7, false) },
      { op := .pick (.loc 7) (.con (.sc (.bool true))) (.loc 14) }], sets := [(5, 15)] }
def sspec_NextStage_r3 : Reg :=
  { id := 3, ops := [{ op := .load (some 4) (.slot 4) },
      { op := .store 4 (.slot 2) (.loc 0) },
      { op := .mv (.con (.sc (.bool false))) }], sets := [(3, 2)], clr := [1, 4] }
def sspec_NextStage_r4 : Reg :=
  { id := 4, ops := [{ op := .fieldAddr (.slot 1) 2 },
      { op := .load none (.loc 0) },
      { op := .bin .add (.loc 1) (.con (.sc (.int .i64 1))) },
      { op := .fieldAddr (.slot 4) 2 },
      { op := .store 1 (.loc 3) (.loc 2) }], clr := [1] }
def sspec_NextStage_r5 : Reg :=
  { id := 5, ops := [{ op := .load (some 4) (.slot 4) },
      { op := .store 4 (.slot 2) (.loc 0) },
      { op := .mv (.con (.sc (.bool true))) }], sets := [(3, 2)], clr := [4] }
def sspec_NextStage_b : SC := .seq (.reg sspec_NextStage_r0) (.seq (.reg sspec_NextStage_r1) (.seq (.seq (.reg sspec_NextStage_r2) (.cond 5 (.seq (.reg sspec_NextStage_r3) (.ret)) (.skip))) (.seq (.reg sspec_NextStage_r4) (.seq (.reg sspec_NextStage_r5) (.ret)))))
def sspec_NextStage : SFn := { nslots := 6, nobjs := 4, params := [0], ngiven := 0, bor := false, takes := [], body := sspec_NextStage_b, results := [.cell 2 (some 4), .slot 3] }
def sspec_NextStage_t : List Tmp := [0, 1, 2, 3, 4, 22]
attribute [simp] sspec_NextStage_r0 sspec_NextStage_r1 sspec_NextStage_r2 sspec_NextStage_r3 sspec_NextStage_r4 sspec_NextStage_r5 sspec_NextStage_b sspec_NextStage
def sspec_BackStage_r0 : Reg :=
  { id := 0, ops := [{ op := .box 0 (.slot 0) },
      { op := .alloc 1 [.sc (.int .i64 0), .nil 1, .sc (.int .i64 0), .sc (.bool false)] },
      { op := .mv (.con (.sc (.bool false))) }], sets := [(1, 0), (2, 1)], clr := [0, 3] }
def sspec_BackStage_r1 : Reg :=
  { id := 1, ops := [{ op := .load (some 4) (.slot 1) },
      { op := .call 66 [(false, .loc 0)] [2] },
      { op := .alloc 3 [.sc (.int .i64 0), .nil 1, .sc (.int .i64 0), .sc (.bool false)] },
      { op := .store 4 (.loc 2) (.loc 1) }], sets := [(4, 2)] }
def sspec_BackStage_r2 : Reg :=
  { id := 2, ops := [{ op := .load (some 4) (.slot 1) },
      { op := .call 145 [(false, .loc 0)] [] },
      { op := .un .not (.loc 1) },
      { op := .mv (.loc 2) },
      { op := .fieldAddr (.slot 1) 3, guard := some (3, false) },
      { op := .load none (.loc 4), guard := some (3, false) },
      { op := .pick (.loc 3) (.con (.sc (.bool true))) (.loc 5) }], sets := [(5, 6)], clr := [1] }
def sspec_BackStage_r3 : Reg :=
  { id := 3, ops := [{ op := .load (some 4) (.slot 4) },
      { op := .store 4 (.slot 2) (.loc 0) },
      { op := .mv (.con (.sc (.bool false))) }], sets := [(3, 2)], clr := [4] }
def sspec_BackStage_r4 : Reg :=
  { id := 4, ops := [{ op := .fieldAddr (.slot 4) 3 },
      { op := .store 1 (.loc 0) (.con (.sc (.bool true))) }] }
def sspec_BackStage_r5 : Reg :=
  { id := 5, ops := [{ op := .fieldAddr (.slot 4) 2 },
      { op := .store 1 (.loc 0) (.con (.sc (.int .i64 0))) }] }
def sspec_BackStage_r6 : Reg :=
  { id := 6, ops := [{ op := .load (some 4) (.slot 4) },
      { op := .store 4 (.slot 2) (.loc 0) },
      { op := .mv (.con (.sc (.bool true))) }], sets := [(3, 2)], clr := [4] }
def sspec_BackStage_b : SC := .seq (.reg sspec_BackStage_r0) (.seq (.reg sspec_BackStage_r1) (.seq (.seq (.reg sspec_BackStage_r2) (.cond 5 (.seq (.reg sspec_BackStage_r3) (.ret)) (.skip))) (.seq (.reg sspec_BackStage_r4) (.seq (.reg sspec_BackStage_r5) (.seq (.reg sspec_BackStage_r6) (.ret))))))
def sspec_BackStage : SFn := { nslots := 6, nobjs := 4, params := [0], ngiven := 0, bor := false, takes := [], body := sspec_BackStage_b, results := [.cell 2 (some 4), .slot 3] }
def sspec_BackStage_t : List Tmp := [0, 1, 2, 3, 4, 13]
attribute [simp] sspec_BackStage_r0 sspec_BackStage_r1 sspec_BackStage_r2 sspec_BackStage_r3 sspec_BackStage_r4 sspec_BackStage_r5 sspec_BackStage_r6 sspec_BackStage_b sspec_BackStage
def sspec_l4Put_r0 : Reg :=
  { id := 0, ops := [{ op := .mv (.con (.nil 1)) }], clr := [2] }
def sspec_l4Put_r1 : Reg :=
  { id := 1, ops := [{ op := .mv (.con (.sc (.int .i64 0))) }], sets := [(3, 0)] }
def sspec_l4Put_r2 : Reg :=
  { id := 2, ops := [{ op := .mv (.slot 3) },
      { op := .mv (.slot 0) },
      { op := .len false (.loc 1) },
      { op := .bin .lss (.loc 0) (.loc 2) },
      { op := .mv (.loc 3) },
      { op := .mv (.slot 0), guard := some (4, true) },
      { op := .mv (.slot 3), guard := some (4, true) },
      { op := .indexAddr 1 (.loc 5) (.loc 6), guard := some (4, true) },
      { op := .load none (.loc 7), guard := some (4, true) },
      { op := .mv (.slot 1), guard := some (4, true) },
      { op := .bin .lss (.loc 8) (.loc 9), guard := some (4, true) },
      { op := .pick (.loc 4) (.loc 10) (.con (.sc (.bool false))) }], sets := [(4, 11)] }
def sspec_l4Put_r3 : Reg :=
  { id := 3, ops := [{ op := .mv (.slot 3) },
      { op := .bin .add (.loc 0) (.con (.sc (.int .i64 1))) },
      { op := .mv (.loc 1) }], sets := [(3, 2)] }
def sspec_l4Put_r4 : Reg :=
  { id := 4, ops := [{ op := .mv (.slot 3) },
      { op := .mv (.slot 0) },
      { op := .len false (.loc 1) },
      { op := .bin .lss (.loc 0) (.loc 2) },
      { op := .mv (.loc 3) },
      { op := .mv (.slot 0), guard := some (4, true) },
      { op := .mv (.slot 3), guard := some (4, true) },
      { op := .indexAddr 1 (.loc 5) (.loc 6), guard := some (4, true) },
      { op := .load none (.loc 7), guard := some (4, true) },
      { op := .mv (.slot 1), guard := some (4, true) },
      { op := .bin .eql (.loc 8) (.loc 9), guard := some (4, true) },
      { op := .pick (.loc 4) (.loc 10) (.con (.sc (.bool false))) }], sets := [(5, 11)] }
def sspec_l4Put_r5 : Reg :=
  { id := 5, ops := [{ op := .buildSlice 0 1 0 [] },
      { op := .mv (.slot 0) },
      { op := .append 1 1 8 false (.loc 0) (.loc 1) },
      { op := .mv (.loc 2) }], sets := [(2, 3)], clr := [0, 1, 3] }
def sspec_l4Put_r6 : Reg :=
  { id := 6, draw := true, ops := [{ op := .buildSlice 2 1 0 [], tau := some [2], om := [2] },
      { op := .mv (.slot 0), tau := some [], om := [] },
      { op := .mv (.slot 3), tau := some [], om := [] },
      { op := .slice 1 (.loc 1) none (some (.loc 2)), tau := some [], om := [] },
      { op := .append 3 1 8 false (.loc 0) (.loc 3), tau := some [2, 3], om := [2, 3] },
      { op := .mv (.slot 1), tau := some [], om := [] },
      { op := .buildSlice 4 1 1 [.loc 5], tau := some [4], om := [4] },
      { op := .append 5 1 8 false (.loc 4) (.loc 6), tau := some [3, 4, 5], om := [3, 5] },
      { op := .mv (.slot 0), tau := some [], om := [] },
      { op := .mv (.slot 3), tau := some [], om := [] },
      { op := .slice 1 (.loc 8) (some (.loc 9)) none, tau := some [], om := [] },
      { op := .append 6 1 8 false (.loc 7) (.loc 10), tau := some [5, 6], om := [5, 6] },
      { op := .mv (.loc 11), tau := some [], om := [] }], sets := [(2, 12)], clr := [0, 1, 3] }
def sspec_l4Put_b : SC := .seq (.reg sspec_l4Put_r0) (.seq (.reg sspec_l4Put_r1) (.seq (.block 0 (.loop (.seq (.seq (.reg sspec_l4Put_r2) (.cond 4 (.skip) (.exit 0))) (.block 1 (.reg sspec_l4Put_r3))))) (.seq (.seq (.reg sspec_l4Put_r4) (.cond 5 (.seq (.reg sspec_l4Put_r5) (.ret)) (.skip))) (.seq (.reg sspec_l4Put_r6) (.ret)))))
def sspec_l4Put : SFn := { nslots := 6, nobjs := 7, params := [0, 1], ngiven := 0, bor := false, takes := [], body := sspec_l4Put_b, results := [.slot 2] }
def sspec_l4Put_t : List Tmp := [0, 1, 4, 5, 17, 31]
attribute [simp] sspec_l4Put_r0 sspec_l4Put_r1 sspec_l4Put_r2 sspec_l4Put_r3 sspec_l4Put_r4 sspec_l4Put_r5 sspec_l4Put_r6 sspec_l4Put_b sspec_l4Put
def simpl_NextStage_r0 : Reg :=
  { id := 0, ops := [{ op := .box 0 (.slot 0) },
      { op := .alloc 1 [.sc (.int .i64 0), .nil 1, .sc (.int .i64 0), .sc (.bool false)] },
      { op := .mv (.con (.sc (.bool false))) }], sets := [(1, 0), (2, 1)], clr := [0, 3] }
def simpl_NextStage_r1 : Reg :=
  { id := 1, ops := [{ op := .load (some 4) (.slot 1) },
      { op := .call 101 [(false, .loc 0)] [2] },
      { op := .alloc 3 [.sc (.int .i64 0), .nil 1, .sc (.int .i64 0), .sc (.bool false)] },
      { op := .store 4 (.loc 2) (.loc 1) }], sets := [(4, 2)] }
def simpl_NextStage_r2 : Reg :=
  { id := 2, ops := [{ op := .load (some 4) (.slot 1) },
      { op := .call 176 [(false, .loc 0)] [] },
      { op := .un .not (.loc 1) },
      { op := .mv (.loc 2) },
      { op := .fieldAddr (.slot 1) 3, guard := some (3, false) },
      { op := .load none (.loc 4), guard := some (3, false) },
      { op := .pick (.loc 3) (.con (.sc (.bool true))) (.loc 5) },
      { op := .mv (.loc 6) },
      { op := .fieldAddr (.slot 1) 2, guard := some (7, false) },
      { op := .load none (.loc 8), guard := some (7, false) },
      { op := .fieldAddr (.slot 1) 1, guard := some (7, false) },
      { op := .load none (.loc 10), guard := some (7, false) },
      { op := .len false (.loc 11), guard := some (7, false) },
      { op := .bin .sub (.loc 12) (.con (.sc (.int .i64 1))), guard := some (7, false) },
      { op := .bin .eql (.loc 9) (.loc 13), guard := some (7, false) },
      { op := .pick (.loc 7) (.con (.sc (.bool true))) (.loc 14) }], sets := [(5, 15)], clr := [1] }
def simpl_NextStage_r3 : Reg :=
  { id := 3, ops := [{ op := .load (some 4) (.slot 4) },
      { op := .store 4 (.slot 2) (.loc 0) },
      { op := .mv (.con (.sc (.bool false))) }], sets := [(3, 2)], clr := [4] }
def simpl_NextStage_r4 : Reg :=
  { id := 4, ops := [{ op := .fieldAddr (.slot 4) 2 },
      { op := .load none (.loc 0) },
      { op := .bin .add (.loc 1) (.con (.sc (.int .i64 1))) },
      { op := .fieldAddr (.slot 4) 2 },
      { op := .store 1 (.loc 3) (.loc 2) }] }
def simpl_NextStage_r5 : Reg :=
  { id := 5, ops := [{ op := .load (some 4) (.slot 4) },
      { op := .store 4 (.slot 2) (.loc 0) },
      { op := .mv (.con (.sc (.bool true))) }], sets := [(3, 2)], clr := [4] }
def simpl_NextStage_b : SC := .seq (.reg simpl_NextStage_r0) (.seq (.reg simpl_NextStage_r1) (.seq (.seq (.reg simpl_NextStage_r2) (.cond 5 (.seq (.reg simpl_NextStage_r3) (.ret)) (.skip))) (.seq (.reg simpl_NextStage_r4) (.seq (.reg simpl_NextStage_r5) (.ret)))))
def simpl_NextStage : SFn := { nslots := 6, nobjs := 4, params := [0], ngiven := 0, bor := false, takes := [], body := simpl_NextStage_b, results := [.cell 2 (some 4), .slot 3] }
def simpl_NextStage_t : List Tmp := [0, 1, 2, 3, 4, 22]
attribute [simp] simpl_NextStage_r0 simpl_NextStage_r1 simpl_NextStage_r2 simpl_NextStage_r3 simpl_NextStage_r4 simpl_NextStage_r5 simpl_NextStage_b simpl_NextStage
def simpl_BackStage_r0 : Reg :=
  { id := 0, ops := [{ op := .box 0 (.slot 0) },
      { op := .alloc 1 [.sc (.int .i64 0), .nil 1, .sc (.int .i64 0), .sc (.bool false)] },
      { op := .mv (.con (.sc (.bool false))) }], sets := [(1, 0), (2, 1)], clr := [0, 3] }
def simpl_BackStage_r1 : Reg :=
  { id := 1, ops := [{ op := .load (some 4) (.slot 1) },
      { op := .call 101 [(false, .loc 0)] [2] },
      { op := .alloc 3 [.sc (.int .i64 0), .nil 1, .sc (.int .i64 0), .sc (.bool false)] },
      { op := .store 4 (.loc 2) (.loc 1) }], sets := [(4, 2)] }
def simpl_BackStage_r2 : Reg :=
  { id := 2, ops := [{ op := .load (some 4) (.slot 1) },
      { op := .call 176 [(false, .loc 0)] [] },
      { op := .un .not (.loc 1) },
      { op := .mv (.loc 2) },
      { op := .fieldAddr (.slot 1) 3, guard := some (3, false) },
      { op := .load none (.loc 4), guard := some (3, false) },
      { op := .pick (.loc 3) (.con (.sc (.bool true))) (.loc 5) }], sets := [(5, 6)], clr := [1] }
def simpl_BackStage_r3 : Reg :=
  { id := 3, ops := [{ op := .load (some 4) (.slot 4) },
      { op := .store 4 (.slot 2) (.loc 0) },
      { op := .mv (.con (.sc (.bool false))) }], sets := [(3, 2)], clr := [4] }
def simpl_BackStage_r4 : Reg :=
  { id := 4, ops := [{ op := .fieldAddr (.slot 4) 3 },
      { op := .store 1 (.loc 0) (.con (.sc (.bool true))) },
      { op := .fieldAddr (.slot 4) 2 },
      { op := .store 1 (.loc 2) (.con (.sc (.int .i64 0))) }] }
def simpl_BackStage_r5 : Reg :=
  { id := 5, ops := [{ op := .load (some 4) (.slot 4) },
      { op := .store 4 (.slot 2) (.loc 0) },
      { op := .mv (.con (.sc (.bool true))) }], sets := [(3, 2)], clr := [4] }
def simpl_BackStage_b : SC := .seq (.reg simpl_BackStage_r0) (.seq (.reg simpl_BackStage_r1) (.seq (.seq (.reg simpl_BackStage_r2) (.cond 5 (.seq (.reg simpl_BackStage_r3) (.ret)) (.skip))) (.seq (.reg simpl_BackStage_r4) (.seq (.reg simpl_BackStage_r5) (.ret)))))
def simpl_BackStage : SFn := { nslots := 6, nobjs := 4, params := [0], ngiven := 0, bor := false, takes := [], body := simpl_BackStage_b, results := [.cell 2 (some 4), .slot 3] }
def simpl_BackStage_t : List Tmp := [0, 1, 2, 3, 4, 13]
attribute [simp] simpl_BackStage_r0 simpl_BackStage_r1 simpl_BackStage_r2 simpl_BackStage_r3 simpl_BackStage_r4 simpl_BackStage_r5 simpl_BackStage_b simpl_BackStage
def sspec_Max_r0 : Reg :=
  { id := 0, ops := [{ op := .mv (.con (.sc (.int .i64 0))) }], clr := [2] }
def sspec_Max_r1 : Reg :=
  { id := 1, ops := [{ op := .mv (.slot 1) },
      { op := .mv (.slot 0) },
      { op := .bin .gtr (.loc 0) (.loc 1) }], sets := [(3, 2)] }
def sspec_Max_r2 : Reg :=
  { id := 2, ops := [{ op := .mv (.slot 1) },
      { op := .mv (.loc 0) }], sets := [(2, 1)], clr := [0, 1] }
def sspec_Max_r3 : Reg :=
  { id := 3, ops := [{ op := .mv (.slot 0) },
      { op := .mv (.loc 0) }], sets := [(2, 1)], clr := [0, 1] }
def sspec_Max_b : SC := .seq (.reg sspec_Max_r0) (.seq (.seq (.reg sspec_Max_r1) (.cond 3 (.seq (.reg sspec_Max_r2) (.ret)) (.skip))) (.seq (.reg sspec_Max_r3) (.ret)))
def sspec_Max : SFn := { nslots := 4, nobjs := 0, params := [0, 1], ngiven := 0, bor := false, takes := [], body := sspec_Max_b, results := [.slot 2] }
def sspec_Max_t : List Tmp := [0, 1, 4, 7]
attribute [simp] sspec_Max_r0 sspec_Max_r1 sspec_Max_r2 sspec_Max_r3 sspec_Max_b sspec_Max

end Go.Eng.T

namespace Go.Eng.T
abbrev glaws_FnExactRunConsole : Nat := 0
abbrev gspec_RunConsole : Nat := 1
abbrev gimpl_RunConsole : Nat := 2
abbrev glaws_eqStringS : Nat := 3
abbrev glaws_markStringS : Nat := 4
abbrev glaws_heldStringS : Nat := 5
abbrev glaws_FnExactConsoleLine : Nat := 6
abbrev glaws_szWorld : Nat := 7
abbrev glaws_toWorld : Nat := 8
abbrev gspec_ConsoleLine : Nat := 9
abbrev gimpl_ConsoleLine : Nat := 10
abbrev glaws_eqWorld : Nat := 11
abbrev glaws_markWorld : Nat := 12
abbrev glaws_heldWorld : Nat := 13
abbrev gstrings_Split : Nat := 14
abbrev glaws_markText : Nat := 15
abbrev glaws_szIntS : Nat := 16
abbrev glaws_szEndpointS : Nat := 17
abbrev glaws_szRollout : Nat := 18
abbrev glaws_szDialedS : Nat := 19
abbrev glaws_szLoggedS : Nat := 20
abbrev gspec_l40Words : Nat := 21
abbrev gspec_l32Copy : Nat := 22
abbrev gspec_l40Nums : Nat := 23
abbrev gspec_l40World : Nat := 24
abbrev gspec_TryAll : Nat := 25
abbrev gspec_l40Event : Nat := 26
abbrev gspec_ApplyEvent : Nat := 27
abbrev gspec_l40Said : Nat := 28
abbrev gspec_l40None : Nat := 29
abbrev gspec_l40One : Nat := 30
abbrev glaws_toIntS : Nat := 31
abbrev glaws_toEndpointS : Nat := 32
abbrev glaws_toRollout : Nat := 33
abbrev glaws_toDialedS : Nat := 34
abbrev glaws_toLoggedS : Nat := 35
abbrev gimpl_ConsoleLine_1 : Nat := 36
abbrev gslices_DeleteFunc___string_string_ : Nat := 37
abbrev gimpl_copyWorld : Nat := 38
abbrev gimpl_numbersOf : Nat := 39
abbrev gimpl_eventOf : Nat := 40
abbrev gimpl_ApplyEvent : Nat := 41
abbrev gimpl_told : Nat := 42
abbrev gimpl_newWorldOf : Nat := 43
abbrev gimpl_TryAll : Nat := 44
abbrev gimpl_askNumber : Nat := 45
abbrev gimpl_ask : Nat := 46
abbrev glaws_eqIntS : Nat := 47
abbrev glaws_eqEndpointS : Nat := 48
abbrev glaws_eqRollout : Nat := 49
abbrev glaws_eqDialedS : Nat := 50
abbrev glaws_eqLoggedS : Nat := 51
abbrev glaws_markIntS : Nat := 52
abbrev glaws_markEndpointS : Nat := 53
abbrev glaws_markRollout : Nat := 54
abbrev glaws_markDialedS : Nat := 55
abbrev glaws_markLoggedS : Nat := 56
abbrev glaws_heldIntS : Nat := 57
abbrev glaws_heldEndpointS : Nat := 58
abbrev glaws_heldRollout : Nat := 59
abbrev glaws_heldDialedS : Nat := 60
abbrev glaws_heldLoggedS : Nat := 61
abbrev glaws_szEndpoint : Nat := 62
abbrev glaws_szDialed : Nat := 63
abbrev glaws_szLogged : Nat := 64
abbrev gspec_l32End : Nat := 65
abbrev gspec_l26Copy : Nat := 66
abbrev gspec_l32Dialed : Nat := 67
abbrev gspec_ParseInt : Nat := 68
abbrev gspec_ExampleEnds : Nat := 69
abbrev gspec_NewWorld : Nat := 70
abbrev gspec_l1In : Nat := 71
abbrev gspec_StepDial : Nat := 72
abbrev gspec_EventName : Nat := 73
abbrev gspec_StepStart : Nat := 74
abbrev gspec_StepStage : Nat := 75
abbrev gspec_StepRetire : Nat := 76
abbrev gspec_StepRevive : Nat := 77
abbrev gspec_StepBox : Nat := 78
abbrev gspec_StepClear : Nat := 79
abbrev gspec_StepTick : Nat := 80
abbrev gspec_FormatDialed : Nat := 81
abbrev gspec_SignalNow : Nat := 82
abbrev gspec_SignalName : Nat := 83
abbrev gspec_HardEnds : Nat := 84
abbrev gspec_FormatList : Nat := 85
abbrev gspec_VersionCounts : Nat := 86
abbrev gspec_HurtEnds : Nat := 87
abbrev gspec_FormatWorld : Nat := 88
abbrev gspec_FaultOf : Nat := 89
abbrev gspec_l40Or : Nat := 90
abbrev gspec_FormatEnd : Nat := 91
abbrev gspec_BestNow : Nat := 92
abbrev gspec_FormatInt : Nat := 93
abbrev gspec_HasVersion : Nat := 94
abbrev gspec_ListsOf : Nat := 95
abbrev gspec_Stranded : Nat := 96
abbrev gspec_ReportNow : Nat := 97
abbrev glaws_toEndpoint : Nat := 98
abbrev glaws_toDialed : Nat := 99
abbrev glaws_toLogged : Nat := 100
abbrev gimpl_copyRollout : Nat := 101
abbrev gimpl_copyEndpoint : Nat := 102
abbrev gimpl_copyDialed : Nat := 103
abbrev gimpl_ParseInt : Nat := 104
abbrev gslices_Index___string_string_ : Nat := 105
abbrev gimpl_StepDial : Nat := 106
abbrev gimpl_StepStart : Nat := 107
abbrev gimpl_StepStage : Nat := 108
abbrev gimpl_StepRetire : Nat := 109
abbrev gimpl_StepRevive : Nat := 110
abbrev gimpl_StepBox : Nat := 111
abbrev gimpl_StepClear : Nat := 112
abbrev gimpl_StepTick : Nat := 113
abbrev gimpl_InRange : Nat := 114
abbrev gimpl_ExampleEnds : Nat := 115
abbrev gimpl_NewWorld : Nat := 116
abbrev gimpl_hasEnd : Nat := 117
abbrev gimpl_FormatEnd : Nat := 118
abbrev gimpl_BestNow : Nat := 119
abbrev gimpl_FormatInt : Nat := 120
abbrev gimpl_HasVersion : Nat := 121
abbrev gimpl_FormatList : Nat := 122
abbrev gimpl_ListsOf : Nat := 123
abbrev gimpl_Stranded : Nat := 124
abbrev gimpl_ReportNow : Nat := 125
abbrev gimpl_FormatDialed : Nat := 126
abbrev gimpl_SignalNow : Nat := 127
abbrev gimpl_SignalName : Nat := 128
abbrev gimpl_HardEnds : Nat := 129
abbrev gimpl_VersionCounts : Nat := 130
abbrev gimpl_HurtEnds : Nat := 131
abbrev gimpl_FormatWorld : Nat := 132
abbrev gimpl_FaultOf : Nat := 133
abbrev glaws_eqEndpoint : Nat := 134
abbrev glaws_eqDialed : Nat := 135
abbrev glaws_eqLogged : Nat := 136
abbrev glaws_markBoxS : Nat := 137
abbrev glaws_heldBoxS : Nat := 138
abbrev glaws_szBoxS : Nat := 139
abbrev glaws_szDeal : Nat := 140
abbrev gspec_IsWorld : Nat := 141
abbrev gspec_DialOf : Nat := 142
abbrev gspec_IsOnNew : Nat := 143
abbrev gspec_IsBadDial : Nat := 144
abbrev gspec_IsRollout : Nat := 145
abbrev gspec_EnterStage : Nat := 146
abbrev gspec_NextStage : Nat := 147
abbrev gspec_BackStage : Nat := 148
abbrev gspec_LeaveRollout : Nat := 149
abbrev gspec_RetireVersion : Nat := 150
abbrev gspec_AddVersion : Nat := 151
abbrev gspec_IsBox : Nat := 152
abbrev gspec_FormatDeal : Nat := 153
abbrev gspec_l39Join : Nat := 154
abbrev gspec_MaskedBy : Nat := 155
abbrev gspec_SignalOf : Nat := 156
abbrev gspec_HardenedBoxes : Nat := 157
abbrev gspec_l37Bad : Nat := 158
abbrev gspec_l4Put : Nat := 159
abbrev gspec_FormatRollout : Nat := 160
abbrev gspec_IsBounded : Nat := 161
abbrev gspec_IsTogether : Nat := 162
abbrev gspec_IsCounted : Nat := 163
abbrev gspec_IsSober : Nat := 164
abbrev gspec_BestFor : Nat := 165
abbrev gspec_l9Has : Nat := 166
abbrev gspec_l12Without : Nat := 167
abbrev gspec_BestCommon : Nat := 168
abbrev gspec_HideSmall : Nat := 169
abbrev glaws_toBoxS : Nat := 170
abbrev glaws_toDeal : Nat := 171
abbrev gimpl_copyPath : Nat := 172
abbrev gimpl_DialOf : Nat := 173
abbrev gimpl_IsOnNew : Nat := 174
abbrev gimpl_IsBadDial : Nat := 175
abbrev gimpl_IsRollout : Nat := 176
abbrev gimpl_EnterStage : Nat := 177
abbrev gimpl_NextStage : Nat := 178
abbrev gimpl_BackStage : Nat := 179
abbrev gimpl_LeaveRollout : Nat := 180
abbrev gimpl_RetireVersion : Nat := 181
abbrev gimpl_AddVersion : Nat := 182
abbrev gimpl_IsBox : Nat := 183
abbrev gimpl_IsWorld : Nat := 184
abbrev gstrconv_Itoa : Nat := 185
abbrev gimpl_BestFor : Nat := 186
abbrev gimpl_joined : Nat := 187
abbrev gslices_Contains___int_int_ : Nat := 188
abbrev gimpl_without : Nat := 189
abbrev gimpl_BestCommon : Nat := 190
abbrev gimpl_HideSmall : Nat := 191
abbrev gimpl_FormatDeal : Nat := 192
abbrev gimpl_MaskedBy : Nat := 193
abbrev gimpl_SignalOf : Nat := 194
abbrev gimpl_HardenedBoxes : Nat := 195
abbrev gimpl_isHurt : Nat := 196
abbrev gslices_Sort___int_int_ : Nat := 197
abbrev gslices_Compact___int_int_ : Nat := 198
abbrev gimpl_FormatRollout : Nat := 199
abbrev gimpl_IsBounded : Nat := 200
abbrev gimpl_IsTogether : Nat := 201
abbrev gimpl_IsCounted : Nat := 202
abbrev gimpl_IsSober : Nat := 203
abbrev glaws_eqBoxS : Nat := 204
abbrev glaws_eqDeal : Nat := 205
abbrev glaws_szBox : Nat := 206
abbrev gspec_IsEndpoint : Nat := 207
abbrev gspec_AreVersions : Nat := 208
abbrev gspec_l32Tags : Nat := 209
abbrev gspec_IsValidKey : Nat := 210
abbrev gspec_AllReach : Nat := 211
abbrev gspec_l33Clip : Nat := 212
abbrev gspec_EndDial : Nat := 213
abbrev gspec_IsIn : Nat := 214
abbrev gspec_Max : Nat := 215
abbrev gspec_MayRetire : Nat := 216
abbrev gspec_l9Byte : Nat := 217
abbrev gspec_RefusesGrease : Nat := 218
abbrev gspec_MostHurt : Nat := 219
abbrev gspec_IsClearPath : Nat := 220
abbrev gspec_IsHardened : Nat := 221
abbrev gspec_LostVersions : Nat := 222
abbrev gspec_l21Left : Nat := 223
abbrev gspec_CommonOf : Nat := 224
abbrev gspec_AreCounts : Nat := 225
abbrev glaws_toBox : Nat := 226
abbrev gimpl_EndDial : Nat := 227
abbrev gimpl_IsIn : Nat := 228
abbrev gimpl_isBad : Nat := 229
abbrev gimpl_withVersion : Nat := 230
abbrev gimpl_MayRetire : Nat := 231
abbrev gimpl_AreVersions : Nat := 232
abbrev gimpl_areNumbers : Nat := 233
abbrev gimpl_AllReach : Nat := 234
abbrev gimpl_areTags : Nat := 235
abbrev gimpl_IsValidKey : Nat := 236
abbrev gimpl_IsWorld_1 : Nat := 237
abbrev gslices_ContainsFunc___impl_Endpoint_impl_Endpoint_ : Nat := 238
abbrev gimpl_IsEndpoint : Nat := 239
abbrev gimpl_LostVersions : Nat := 240
abbrev gstrings_Join : Nat := 241
abbrev gimpl_CommonOf : Nat := 242
abbrev gimpl_canHide : Nat := 243
abbrev gimpl_RefusesGrease : Nat := 244
abbrev gimpl_MostHurt : Nat := 245
abbrev gimpl_IsClearPath : Nat := 246
abbrev gimpl_IsSober_1 : Nat := 247
abbrev gslices_ContainsFunc___impl_Logged_impl_Logged_ : Nat := 248
abbrev glaws_eqBox : Nat := 249
abbrev gspec_IsReserved : Nat := 250
abbrev gspec_HelloOf : Nat := 251
abbrev gspec_Dial : Nat := 252
abbrev gspec_Min : Nat := 253
abbrev gspec_CountIn : Nat := 254
abbrev gspec_UseOf : Nat := 255
abbrev gspec_PlainHello : Nat := 256
abbrev gspec_l29One : Nat := 257
abbrev gspec_PassBox : Nat := 258
abbrev gspec_IsClear : Nat := 259
abbrev gspec_IsOpenPath : Nat := 260
abbrev gimpl_HelloOf : Nat := 261
abbrev gimpl_Dial : Nat := 262
abbrev gimpl_CountIn : Nat := 263
abbrev gslices_Insert___int_int_ : Nat := 264
abbrev gimpl_UseOf : Nat := 265
abbrev gimpl_areNumbers_1 : Nat := 266
abbrev gslices_ContainsFunc___int_int_ : Nat := 267
abbrev gimpl_AllReach_1 : Nat := 268
abbrev gslices_ContainsFunc_____int___int_ : Nat := 269
abbrev gimpl_IsHardened : Nat := 270
abbrev gimpl_IsEndpoint_1 : Nat := 271
abbrev gslices_ContainsFunc___impl_Box_impl_Box_ : Nat := 272
abbrev gimpl_PlainHello : Nat := 273
abbrev gimpl_PassPath : Nat := 274
abbrev gimpl_AreCounts : Nat := 275
abbrev gimpl_reservedTags : Nat := 276
abbrev gimpl_RefusesGrease_1 : Nat := 277
abbrev gimpl_IsClearPath_1 : Nat := 278
abbrev gimpl_IsReserved : Nat := 279
abbrev gspec_HelloFor : Nat := 280
abbrev gspec_DialOnce : Nat := 281
abbrev gspec_GivenUp : Nat := 282
abbrev gspec_AddGrease : Nat := 283
abbrev gspec_CeilDiv : Nat := 284
abbrev gspec_IsHello : Nat := 285
abbrev gspec_PassPath : Nat := 286
abbrev gimpl_HelloFor : Nat := 287
abbrev gimpl_DialOnce : Nat := 288
abbrev gimpl_GivenUp : Nat := 289
abbrev gimpl_AddGrease : Nat := 290
abbrev gimpl_CeilDiv : Nat := 291
abbrev gimpl_IsHello : Nat := 292
abbrev gimpl_copyHello : Nat := 293
abbrev gimpl_PassBox : Nat := 294
abbrev gimpl_loses : Nat := 295
abbrev gslices_Clone___int_int_ : Nat := 296
abbrev gimpl_PassBox_1 : Nat := 297
abbrev gimpl_keptExts : Nat := 298
abbrev gimpl_IsClear : Nat := 299
abbrev gspec_PassesWhole : Nat := 300
abbrev gspec_l18Hello : Nat := 301
abbrev gspec_FallbackHello : Nat := 302
abbrev gspec_ChooseAnswer : Nat := 303
abbrev gspec_FitsHello : Nat := 304
abbrev gspec_HelloBytes : Nat := 305
abbrev gspec_AnswerBytes : Nat := 306
abbrev gspec_FinishOf : Nat := 307
abbrev gspec_TagsOf : Nat := 308
abbrev gspec_ExtOf : Nat := 309
abbrev gspec_GreaseTag : Nat := 310
abbrev gspec_l11Copy : Nat := 311
abbrev gspec_AreExts : Nat := 312
abbrev gspec_PickOf : Nat := 313
abbrev gimpl_PassesWhole : Nat := 314
abbrev gimpl_FallbackHello : Nat := 315
abbrev gimpl_dealt : Nat := 316
abbrev gimpl_TagsOf : Nat := 317
abbrev gimpl_copyExts : Nat := 318
abbrev gimpl_GreaseTag : Nat := 319
abbrev gimpl_AreExts : Nat := 320
abbrev gimpl_ExtOf : Nat := 321
abbrev gimpl_PickOf : Nat := 322
abbrev gslices_Repeat___int_int_ : Nat := 323
abbrev gslices_Insert___impl_Ext_impl_Ext_ : Nat := 324
abbrev gslices_Max___int_int_ : Nat := 325
abbrev gimpl_loses_1 : Nat := 326
abbrev gslices_ContainsFunc___impl_Ext_impl_Ext_ : Nat := 327
abbrev gspec_EqualHellos : Nat := 328
abbrev gspec_LostTags : Nat := 329
abbrev gspec_PartHello : Nat := 330
abbrev gspec_KnownOf : Nat := 331
abbrev gspec_StripGrease : Nat := 332
abbrev gspec_IsAnswer : Nat := 333
abbrev gspec_IsTranscript : Nat := 334
abbrev gspec_TranscriptHash : Nat := 335
abbrev gspec_KeyedHash : Nat := 336
abbrev gspec_EncodeExts : Nat := 337
abbrev gspec_Hash : Nat := 338
abbrev gspec_Mod : Nat := 339
abbrev gimpl_EqualHellos : Nat := 340
abbrev gimpl_LostTags : Nat := 341
abbrev gimpl_PartHello : Nat := 342
abbrev gimpl_ChooseAnswer : Nat := 343
abbrev gimpl_EditAnswer : Nat := 344
abbrev gimpl_HelloBytes : Nat := 345
abbrev gimpl_AnswerBytes : Nat := 346
abbrev gimpl_FinishOf : Nat := 347
abbrev gimpl_FitsHello : Nat := 348
abbrev gimpl_ChecksOut : Nat := 349
abbrev gimpl_copyExts_1 : Nat := 350
abbrev gimpl_ExtOf_1 : Nat := 351
abbrev gslices_IndexFunc___impl_Ext_impl_Ext_ : Nat := 352
abbrev gimpl_Hash : Nat := 353
abbrev gimpl_Mod : Nat := 354
abbrev gspec_EqualInts : Nat := 355
abbrev gspec_EqualExts : Nat := 356
abbrev gslices_Equal___int_int_ : Nat := 357
abbrev gimpl_EqualExts : Nat := 358
abbrev gimpl_PartHello_1 : Nat := 359
abbrev gimpl_IsOpenPath : Nat := 360
abbrev gimpl_KnownOf : Nat := 361
abbrev gimpl_StripGrease : Nat := 362
abbrev gimpl_EditAnswer_1 : Nat := 363
abbrev gimpl_IsTranscript : Nat := 364
abbrev gimpl_TranscriptHash : Nat := 365
abbrev gimpl_KeyedHash : Nat := 366
abbrev gimpl_EncodeExts : Nat := 367
abbrev gslices_Concat___int_int_ : Nat := 368
abbrev gimpl_IsAnswer : Nat := 369
abbrev gimpl_HasGrease : Nat := 370
abbrev gimpl_equalExt : Nat := 371
abbrev gslices_EqualFunc___impl_Ext___impl_Ext_impl_Ext_impl_Ext_ : Nat := 372
abbrev gimpl_StripGrease_1 : Nat := 373
abbrev gimpl_KnownOf_1 : Nat := 374
abbrev gimpl_IsTranscript_1 : Nat := 375
abbrev glaws_FnExactEventName : Nat := 376
abbrev gimpl_EventName : Nat := 377
abbrev glaws_FnExactIsBadDial : Nat := 378
abbrev glaws_FnExactCountKind : Nat := 379
abbrev glaws_szEventS : Nat := 380
abbrev glaws_toEventS : Nat := 381
abbrev gspec_CountKind : Nat := 382
abbrev gimpl_CountKind : Nat := 383
abbrev glaws_eqEventS : Nat := 384
abbrev glaws_FnExactExampleEnds : Nat := 385
abbrev glaws_szEvent : Nat := 386
abbrev glaws_toEvent : Nat := 387
abbrev glaws_eqEvent : Nat := 388
abbrev gslices_Index___int_int_ : Nat := 389
abbrev gslices_IndexFunc___string_string_ : Nat := 390
abbrev gmath_bits_Len : Nat := 391
abbrev gslices_pdqsortOrdered_int_ : Nat := 392
abbrev gslices_IndexFunc___impl_Endpoint_impl_Endpoint_ : Nat := 393
abbrev gslices_insertionSortOrdered_int_ : Nat := 394
abbrev gslices_heapSortOrdered_int_ : Nat := 395
abbrev gslices_breakPatternsOrdered_int_ : Nat := 396
abbrev gslices_choosePivotOrdered_int_ : Nat := 397
abbrev gslices_reverseRangeOrdered_int_ : Nat := 398
abbrev gslices_partialInsertionSortOrdered_int_ : Nat := 399
abbrev gcmp_Less_int_ : Nat := 400
abbrev gslices_partitionEqualOrdered_int_ : Nat := 401
abbrev gslices_partitionOrdered_int_ : Nat := 402
abbrev gslices_IndexFunc___impl_Logged_impl_Logged_ : Nat := 403
abbrev gslices_IndexFunc___int_int_ : Nat := 404
abbrev gslices_IndexFunc_____int___int_ : Nat := 405
abbrev gslices_IndexFunc___impl_Box_impl_Box_ : Nat := 406
abbrev gslices_siftDownOrdered_int_ : Nat := 407
abbrev gslices_nextPowerOfTwo : Nat := 408
abbrev g__slices_xorshift__Next : Nat := 409
abbrev gslices_medianAdjacentOrdered_int_ : Nat := 410
abbrev gslices_medianOrdered_int_ : Nat := 411
abbrev gslices_rotateRight_int_ : Nat := 412
abbrev gslices_rotateLeft_int_ : Nat := 413
abbrev gslices_order2Ordered_int_ : Nat := 414
abbrev gslices_Reverse___int_int_ : Nat := 415
abbrev gslices_rotateRight_impl_Ext_ : Nat := 416
abbrev gslices_rotateLeft_impl_Ext_ : Nat := 417
abbrev gslices_Reverse___impl_Ext_impl_Ext_ : Nat := 418
abbrev gslices_Grow___int_int_ : Nat := 419
abbrev glaws_FnExactTriesOf : Nat := 420
abbrev gspec_TriesOf : Nat := 421
abbrev gimpl_TriesOf : Nat := 422
abbrev glaws_FnExactDialsBy : Nat := 423
abbrev gspec_DialsBy : Nat := 424
abbrev gimpl_DialsBy : Nat := 425
abbrev glaws_FnExactOkShare : Nat := 426
abbrev gspec_OkShare : Nat := 427
abbrev gimpl_OkShare : Nat := 428
abbrev glaws_FnExactIsSober : Nat := 429
abbrev glaws_FnExactIsCounted : Nat := 430
abbrev glaws_FnExactIsOnNew : Nat := 431
abbrev glaws_FnExactOnNewCount : Nat := 432
abbrev gspec_OnNewCount : Nat := 433
abbrev gimpl_OnNewCount : Nat := 434
abbrev glaws_FnExactSignalNow : Nat := 435
abbrev glaws_FnExactHasVersion : Nat := 436
abbrev glaws_FnExactHardEnds : Nat := 437
abbrev glaws_FnExactStepTick : Nat := 438
abbrev glaws_FnExactStepClear : Nat := 439
abbrev glaws_FnExactStepBox : Nat := 440
abbrev glaws_markBox : Nat := 441
abbrev glaws_FnExactNewWorld : Nat := 442
abbrev glaws_FnExactLeaveRollout : Nat := 443
abbrev glaws_FnExactStepRetire : Nat := 444
abbrev glaws_FnExactBestNow : Nat := 445
abbrev glaws_FnExactVersionCounts : Nat := 446
abbrev glaws_FnExactReportNow : Nat := 447
abbrev glaws_FnExactFormatDeal : Nat := 448
abbrev glaws_FnExactFormatDialed : Nat := 449
abbrev glaws_FnExactFormatEnd : Nat := 450
abbrev glaws_FnExactFormatWorld : Nat := 451
abbrev glaws_FnExactFormatList : Nat := 452
abbrev glaws_FnExactFormatRollout : Nat := 453
abbrev glaws_FnExactEnterStage : Nat := 454
abbrev glaws_FnExactHurtEnds : Nat := 455
abbrev glaws_FnExactStepStart : Nat := 456
abbrev glaws_FnExactIsBounded : Nat := 457
abbrev glaws_FnExactStepRevive : Nat := 458
abbrev glaws_FnStages : Nat := 459
abbrev glaws_big : Nat := 460
abbrev gspec_DrawEnterStage : Nat := 461
abbrev glaws_left : Nat := 462
abbrev glaws_within : Nat := 463
abbrev glaws_FnMeasured : Nat := 464
abbrev gspec_DrawOkShare : Nat := 465
abbrev glaws_sumOf : Nat := 466
abbrev glaws_FnExactStepStage : Nat := 467
abbrev glaws_FnDialing : Nat := 468
abbrev gspec_DrawDialOf : Nat := 469
abbrev gimpl_EndVersions : Nat := 470
abbrev glaws_contains : Nat := 471
abbrev gspec_DrawSignalNow : Nat := 472
abbrev gspec_l1New : Nat := 473
abbrev gspec_l1Once : Nat := 474
abbrev gspec_l32Any : Nat := 475
abbrev gspec_l33World : Nat := 476
abbrev gspec_l38World : Nat := 477
abbrev gspec_l1Below : Nat := 478
abbrev gspec_l32World : Nat := 479
abbrev gspec_l12Any : Nat := 480
abbrev gspec_l1Int : Nat := 481
abbrev gspec_l31Any : Nat := 482
abbrev gspec_l26Any : Nat := 483
abbrev gspec_l36Events : Nat := 484
abbrev gspec_RunEvents : Nat := 485
abbrev gspec_l1Byte : Nat := 486
abbrev gspec_l26Draw : Nat := 487
abbrev gspec_l31Draw : Nat := 488
abbrev gspec_l17Tags : Nat := 489
abbrev gspec_l12Draw : Nat := 490
abbrev gspec_l19Any : Nat := 491
abbrev gspec_l36Event : Nat := 492
abbrev gspec_l19Path : Nat := 493
abbrev gspec_l19Draw : Nat := 494
abbrev glaws_FnWorlds : Nat := 495
abbrev gspec_DrawNewWorld : Nat := 496
abbrev gspec_DrawEndVersions : Nat := 497
abbrev gimpl_EqualInts : Nat := 498
abbrev gspec_DrawEqualWorlds : Nat := 499
abbrev gimpl_EqualWorlds : Nat := 500
abbrev gslices_EqualFunc___impl_Endpoint___impl_Endpoint_impl_Endpoint_impl_Endpoint_ : Nat := 501
abbrev gimpl_EqualEndpoints : Nat := 502
abbrev gimpl_EqualBoxes : Nat := 503
abbrev gslices_EqualFunc___impl_Box___impl_Box_impl_Box_impl_Box_ : Nat := 504
abbrev gimpl_EqualRollouts : Nat := 505
abbrev gslices_EqualFunc___impl_Dialed___impl_Dialed_impl_Dialed_impl_Dialed_ : Nat := 506
abbrev gimpl_EqualDialed : Nat := 507
abbrev gimpl_EqualDeals : Nat := 508
abbrev gslices_EqualFunc___impl_Logged___impl_Logged_impl_Logged_impl_Logged_ : Nat := 509
abbrev gimpl_equalLogged : Nat := 510
end Go.Eng.T

namespace Go.Eng.T

abbrev I (a : Int) : V := .sc (.int .i64 a)
abbrev B (a : Bool) : V := .sc (.bool a)
abbrev S (a : ByteArray) : V := .sc (.string a)
abbrev Rel := List V → List O → V → List O → Prop

def ints (xs : List Int) : List V := xs.map fun x => .sc (.int .i64 x)

@[simp] theorem ints_len (xs : List Int) : (ints xs).length = xs.length := by simp [ints]
@[simp] theorem ints_nil : ints [] = [] := rfl
theorem ints_get (xs : List Int) (j : Nat) : (ints xs)[j]? = (xs[j]?).map fun x => V.sc (.int .i64 x) := by simp [ints]
@[simp] theorem ints_at {xs : List Int} {j : Nat} (h : j < xs.length) : (ints xs)[j]? = some (V.sc (.int .i64 xs[j])) := by simp [ints, h]
@[simp] theorem ints_elem {xs : List Int} {j : Nat} (h : j < (ints xs).length) : (ints xs)[j] = V.sc (.int .i64 (xs[j]'(by simpa using h))) := by simp [ints]
@[simp] theorem ints_ro (xs : List Int) (k : Nat) : (ints xs).map (roCell k) = ints xs := by simp [ints, Function.comp_def, roCell]
theorem ints_app (xs ys : List Int) : ints xs ++ ints ys = ints (xs ++ ys) := by simp [ints]
@[simp] theorem ints_push (xs : List Int) (y : Int) : ints xs ++ [V.sc (.int .i64 y)] = ints (xs ++ [y]) := by simp [ints]
@[simp] theorem ints_set (xs : List Int) (j : Nat) (y : Int) : (ints xs).set j (V.sc (.int .i64 y)) = ints (xs.set j y) := by simp [ints]
@[simp] theorem ints_rep (n : Nat) : (List.replicate n [V.sc (.int .i64 0)]).flatten = ints (List.replicate n 0) := by
  induction n with
  | zero => rfl
  | succ n ih => simp [List.replicate_succ, ints] at *
@[simp] theorem ints_sc (xs : List Int) : (ints xs).all isSc = true := by simp [ints, isSc]
@[simp] theorem ints_part (xs : List Int) (o n : Nat) : part (ints xs) 1 o n = ints ((xs.drop o).take n) := by simp [part, ints]
@[simp] theorem ints_isSc : ∀ xs : List Int, (∀ x, x ∈ ints xs → isSc x = true) = True := by simp [ints, isSc]

@[simp] theorem getAt_lit (a : V) (cs : List V) (off n : Nat) : getAt (a :: cs) off n = if off + n ≤ cs.length + 1 then some (((a :: cs).drop off).take n) else none := by simp [getAt]

structure Deal where
  ok : Bool
  version : Int
  tags : List Int
  deriving DecidableEq
structure Box where
  limit : Int
  drops : List Int
  strips : List Int
  lists : Bool
  deriving DecidableEq
structure Dialed where
  deal : Deal
  tries : Int
  up : List Int
  deriving DecidableEq
structure Rollout where
  version : Int
  stages : List Int
  pos : Int
  off : Bool
  deriving DecidableEq
structure Endpoint where
  versions : List Int
  tags : List Int
  path : List Box
  cls : Int
  deriving DecidableEq
structure Logged where
  fin : Int
  tick : Int
  on : Bool
  dialed : Dialed
  deriving DecidableEq
structure World where
  server : List Int
  tags : List Int
  key : Int
  ends : List Endpoint
  rollout : Rollout
  least : Int
  percent : Int
  stage : List Dialed
  log : List Logged
  now : Int
  hurt : Int
  reached : Int
  deriving DecidableEq
structure Event where
  kind : Int
  n : Int
  box : Box
  deriving DecidableEq

abbrev sl (fl e n : Nat) (cs : List V) : V := .sl fl e n cs
def eDeal (d : Deal) : List V := [.sc (.bool d.ok), .sc (.int .i64 d.version), .sl 0 1 d.tags.length (ints d.tags)]
def eBox (d : Box) : List V := [.sc (.int .i64 d.limit), .sl 0 1 d.drops.length (ints d.drops), .sl 0 1 d.strips.length (ints d.strips), .sc (.bool d.lists)]
def eDialed (d : Dialed) : List V := [.sc (.bool d.deal.ok), .sc (.int .i64 d.deal.version), .sl 0 1 d.deal.tags.length (ints d.deal.tags), .sc (.int .i64 d.tries), .sl 0 1 d.up.length (ints d.up)]
def eRollout (d : Rollout) : List V := [.sc (.int .i64 d.version), .sl 0 1 d.stages.length (ints d.stages), .sc (.int .i64 d.pos), .sc (.bool d.off)]
def eEndpoint (d : Endpoint) : List V := [.sl 0 1 d.versions.length (ints d.versions), .sl 0 1 d.tags.length (ints d.tags), .sl 0 4 d.path.length (d.path.flatMap eBox), .sc (.int .i64 d.cls)]
def eLogged (d : Logged) : List V := [.sc (.int .i64 d.fin), .sc (.int .i64 d.tick), .sc (.bool d.on), .sc (.bool d.dialed.deal.ok), .sc (.int .i64 d.dialed.deal.version), .sl 0 1 d.dialed.deal.tags.length (ints d.dialed.deal.tags), .sc (.int .i64 d.dialed.tries), .sl 0 1 d.dialed.up.length (ints d.dialed.up)]
def eWorld (d : World) : List V := [.sl 0 1 d.server.length (ints d.server), .sl 0 1 d.tags.length (ints d.tags), .sc (.int .i64 d.key), .sl 0 4 d.ends.length (d.ends.flatMap eEndpoint), .sc (.int .i64 d.rollout.version), .sl 0 1 d.rollout.stages.length (ints d.rollout.stages), .sc (.int .i64 d.rollout.pos), .sc (.bool d.rollout.off), .sc (.int .i64 d.least), .sc (.int .i64 d.percent), .sl 0 5 d.stage.length (d.stage.flatMap eDialed), .sl 0 8 d.log.length (d.log.flatMap eLogged), .sc (.int .i64 d.now), .sc (.int .i64 d.hurt), .sc (.int .i64 d.reached)]
def eEvent (d : Event) : List V := [.sc (.int .i64 d.kind), .sc (.int .i64 d.n), .sc (.int .i64 d.box.limit), .sl 0 1 d.box.drops.length (ints d.box.drops), .sl 0 1 d.box.strips.length (ints d.box.strips), .sc (.bool d.box.lists)]

/-- an argument's cells -/
abbrev arg (cs : List V) : V := .agg (cs.map (roCell 1))

section
variable {α : Type} {f : α → List V} {e : Nat}
theorem flat_ro (hf : ∀ x, (f x).map (roCell 0) = f x) (xs : List α) : (xs.flatMap f).map (roCell 0) = xs.flatMap f := by
  induction xs with
  | nil => rfl
  | cons x xs ih => simp [hf, ih]
theorem putAt_app (cs ds : List V) (o : Nat) : ∀ (azs : List V), o + azs.length ≤ ds.length → putAt (cs ++ ds) (cs.length + o) azs = cs ++ putAt ds o azs := by
  intro azs
  induction azs generalizing ds o with
  | nil => intro _; simp [putAt]
  | cons a azs ih =>
    intro h
    simp only [putAt, List.length_cons] at *
    rw [List.set_append_right _ _ (by omega), show cs.length + o - cs.length = o by omega, show cs.length + o + 1 = cs.length + (o + 1) by omega]
    exact ih _ _ (by simp; omega)
theorem putAt_zero : ∀ (ds azs : List V), azs.length ≤ ds.length → putAt ds 0 azs = azs ++ ds.drop azs.length := by
  have key : ∀ (azs pre ds : List V), azs.length ≤ ds.length → putAt (pre ++ ds) pre.length azs = pre ++ azs ++ ds.drop azs.length := by
    intro azs
    induction azs with
    | nil => intro pre ds _; simp [putAt]
    | cons a azs ih =>
      intro pre ds h
      cases ds with
      | nil => simp at h
      | cons d ds =>
        have := ih (pre ++ [a]) ds (by simpa using h)
        simp only [putAt]
        rw [List.set_append_right _ _ (Nat.le_refl _), Nat.sub_self, List.set_cons_zero]
        simpa using this
  intro ds azs h
  simpa using key azs [] ds h
theorem putAt_flat (hf : ∀ x, (f x).length = e) {xs : List α} {i : Nat} (hi : i < xs.length) (x : α) : putAt (xs.flatMap f) (i * e) (f x) = (xs.set i x).flatMap f := by
  induction xs generalizing i with
  | nil => simp at hi
  | cons y ys ih =>
    cases i with
    | zero =>
      rw [Nat.zero_mul, putAt_zero _ _ (by simp [hf])]
      simp [hf]
    | succ i =>
      simp only [List.flatMap_cons, List.set_cons_succ]
      rw [show (i + 1) * e = (f y).length + i * e by rw [hf, Nat.add_mul]; omega, putAt_app]
      · rw [ih (by simpa using hi)]
      · rw [flat_len hf, hf]
        have := Nat.mul_le_mul_right e (show i + 1 ≤ ys.length by simp at hi; omega)
        rw [Nat.add_mul] at this; omega
theorem rep_flat (z : α) (n : Nat) : (List.replicate n (f z)).flatten = (List.replicate n z).flatMap f := by
  induction n with
  | zero => rfl
  | succ n ih => simp [List.replicate_succ, ih]
end

/-- nothing lies there -/
def fd (o : O) : Prop := o = .free ∨ o = .dead
@[simp] theorem fd_free : fd .free := .inl rfl
@[simp] theorem fd_dead : fd .dead := .inr rfl

/-- a copy under way -/
def mix {α : Type} (z : α) (xs : List α) (j : Nat) : List α := xs.take j ++ List.replicate (xs.length - j) z
section
variable {α : Type} {z : α} {xs : List α} {j : Nat}
@[simp] theorem mix_len (h : j ≤ xs.length) : (mix z xs j).length = xs.length := by simp [mix]; omega
theorem mix_zero : mix z xs 0 = List.replicate xs.length z := by simp [mix]
theorem mix_all (h : xs.length ≤ j) : mix z xs j = xs := by simp [mix, Nat.sub_eq_zero_of_le h, List.take_of_length_le h]
theorem mix_set (h : j < xs.length) : (mix z xs j).set j xs[j] = mix z xs (j + 1) := by
  unfold mix
  have hl : (xs.take j).length = j := by simp; omega
  rw [List.set_append_right _ _ (by omega), hl, Nat.sub_self]
  obtain ⟨k, hk⟩ : ∃ k, xs.length - j = k + 1 := ⟨xs.length - j - 1, by omega⟩
  have hk' : xs.length - (j + 1) = k := by omega
  have ht : xs.take (j + 1) = xs.take j ++ [xs[j]] := by simp
  rw [hk, hk', List.replicate_succ, List.set_cons_zero, ht, List.append_assoc]
  rfl
end

theorem wrap_id {n : Int} (h1 : -9223372036854775808 ≤ n) (h2 : n ≤ 9223372036854775807) : IntKind.i64.wrap n = n := by
  show (if (true && decide (n % (2 ^ 64 : Int) ≥ (2 ^ 63 : Int))) = true then n % (2 ^ 64 : Int) - (2 ^ 64 : Int) else n % (2 ^ 64 : Int)) = n
  by_cases h : n % (2 ^ 64 : Int) ≥ (2 ^ 63 : Int)
  · rw [if_pos (by simp only [h]; rfl)]; omega
  · rw [if_neg (by simp only [h]; simp)]; omega

section
variable {α : Type} {xs ys : List α} {j : Nat}
theorem take_step (hx : j < xs.length) (hy : j < ys.length) (h : xs.take j = ys.take j) (he : xs[j] = ys[j]) : xs.take (j + 1) = ys.take (j + 1) := by
  rw [List.take_add_one, List.take_add_one, h, List.getElem?_eq_getElem hx, List.getElem?_eq_getElem hy, he]
theorem take_all (hx : xs.length ≤ j) (hl : xs.length = ys.length) (h : xs.take j = ys.take j) : xs = ys := by
  rwa [List.take_of_length_le hx, List.take_of_length_le (by omega)] at h
end

/-- how much a value holds -/
def sumF {α : Type} (f : α → Nat) (xs : List α) : Nat := xs.length + (xs.map f).sum
def szDeal (d : Deal) : Nat := d.tags.length
def szBox (d : Box) : Nat := d.drops.length + d.strips.length
def szDialed (d : Dialed) : Nat := szDeal d.deal + d.up.length
def szRollout (d : Rollout) : Nat := d.stages.length
def szEndpoint (d : Endpoint) : Nat := d.versions.length + d.tags.length + sumF szBox d.path
def szLogged (d : Logged) : Nat := szDialed d.dialed
def szWorld (d : World) : Nat := d.server.length + d.tags.length + sumF szEndpoint d.ends + szRollout d.rollout + sumF szDialed d.stage + sumF szLogged d.log
def szEvent (d : Event) : Nat := szBox d.box
/-- what is left of l, or -1 -/
def szl (n : Nat) (l : Int) : Int := if l < n then -1 else l - n

section
variable {α : Type} {f : α → Nat} {xs : List α} {j : Nat}
theorem sum_take (h : j < xs.length) : ((xs.take (j + 1)).map f).sum = ((xs.take j).map f).sum + f xs[j] := by
  rw [List.take_add_one, List.getElem?_eq_getElem h, List.map_append, List.sum_append, Option.toList_some, List.map_cons, List.map_nil, List.sum_cons, List.sum_nil, Nat.add_zero]
theorem sum_take_le : ((xs.take j).map f).sum ≤ (xs.map f).sum := by
  conv => rhs; rw [← List.take_append_drop j xs, List.map_append, List.sum_append]
  omega
theorem sum_all (h : xs.length ≤ j) : ((xs.take j).map f).sum = (xs.map f).sum := by rw [List.take_of_length_le h]
theorem size_at (h : j < xs.length) : f xs[j] ≤ sumF f xs := by
  have h1 := sum_take (f := f) h
  have h2 := sum_take_le (f := f) (xs := xs) (j := j + 1)
  unfold sumF; omega
theorem size_len : xs.length ≤ sumF f xs := by unfold sumF; omega
end
/-- lengths that a value may have at all -/
def lnInts (xs : List Int) : Prop := xs.length ≤ maxLen
def lnS {α : Type} (f : α → Prop) (xs : List α) : Prop := xs.length ≤ maxLen ∧ ∀ (j : Nat) (h : j < xs.length), f xs[j]
def lnDeal (d : Deal) : Prop := lnInts d.tags
def lnBox (d : Box) : Prop := lnInts d.drops ∧ lnInts d.strips
def lnDialed (d : Dialed) : Prop := lnDeal d.deal ∧ lnInts d.up
def lnRollout (d : Rollout) : Prop := lnInts d.stages
def lnEndpoint (d : Endpoint) : Prop := lnInts d.versions ∧ lnInts d.tags ∧ lnS lnBox d.path
def lnLogged (d : Logged) : Prop := lnDialed d.dialed
def lnWorld (d : World) : Prop := lnInts d.server ∧ lnInts d.tags ∧ lnS lnEndpoint d.ends ∧ lnRollout d.rollout ∧ lnS lnDialed d.stage ∧ lnS lnLogged d.log
def lnEvent (d : Event) : Prop := lnBox d.box

theorem eDeal_len (x : Deal) : (eDeal x).length = 3 := rfl
theorem eBox_len (x : Box) : (eBox x).length = 4 := rfl
theorem eDialed_len (x : Dialed) : (eDialed x).length = 5 := rfl
theorem eRollout_len (x : Rollout) : (eRollout x).length = 4 := rfl
theorem eEndpoint_len (x : Endpoint) : (eEndpoint x).length = 4 := rfl
theorem eLogged_len (x : Logged) : (eLogged x).length = 8 := rfl
theorem eWorld_len (x : World) : (eWorld x).length = 15 := rfl
theorem eEvent_len (x : Event) : (eEvent x).length = 6 := rfl
@[simp] theorem eBox_ro (xs : List Box) : (xs.flatMap eBox).map (roCell 0) = xs.flatMap eBox := flat_ro (fun _ => rfl) xs
@[simp] theorem eDialed_ro (xs : List Dialed) : (xs.flatMap eDialed).map (roCell 0) = xs.flatMap eDialed := flat_ro (fun _ => rfl) xs
@[simp] theorem eEndpoint_ro (xs : List Endpoint) : (xs.flatMap eEndpoint).map (roCell 0) = xs.flatMap eEndpoint := flat_ro (fun _ => rfl) xs
@[simp] theorem eLogged_ro (xs : List Logged) : (xs.flatMap eLogged).map (roCell 0) = xs.flatMap eLogged := flat_ro (fun _ => rfl) xs
@[simp] theorem eEvent_ro (xs : List Event) : (xs.flatMap eEvent).map (roCell 0) = xs.flatMap eEvent := flat_ro (fun _ => rfl) xs
@[simp high] theorem eBox_at {xs : List Box} {j : Nat} (h : j < xs.length) : getAt (xs.flatMap eBox) (j * 4) 4 = some (eBox xs[j]) := getAt_flat eBox_len h
@[simp high] theorem eDialed_at {xs : List Dialed} {j : Nat} (h : j < xs.length) : getAt (xs.flatMap eDialed) (j * 5) 5 = some (eDialed xs[j]) := getAt_flat eDialed_len h
@[simp high] theorem eEndpoint_at {xs : List Endpoint} {j : Nat} (h : j < xs.length) : getAt (xs.flatMap eEndpoint) (j * 4) 4 = some (eEndpoint xs[j]) := getAt_flat eEndpoint_len h
@[simp high] theorem eLogged_at {xs : List Logged} {j : Nat} (h : j < xs.length) : getAt (xs.flatMap eLogged) (j * 8) 8 = some (eLogged xs[j]) := getAt_flat eLogged_len h
@[simp high] theorem eEvent_at {xs : List Event} {j : Nat} (h : j < xs.length) : getAt (xs.flatMap eEvent) (j * 6) 6 = some (eEvent xs[j]) := getAt_flat eEvent_len h
@[simp high] theorem eBox_flen (xs : List Box) : (xs.flatMap eBox).length = xs.length * 4 := flat_len eBox_len xs
@[simp high] theorem eBox_put {xs : List Box} {j : Nat} (h : j < xs.length) (a : Int) (b c : List Int) (d : Bool) {nb : Nat} (hb : nb = b.length) {nc : Nat} (hc : nc = c.length) : putAt (xs.flatMap eBox) (j * 4) [.sc (.int .i64 a), .sl 0 1 nb (ints b), .sl 0 1 nc (ints c), .sc (.bool d)] = (xs.set j ⟨a, b, c, d⟩).flatMap eBox := by subst hb; subst hc; exact putAt_flat eBox_len h ⟨a, b, c, d⟩
theorem eBox_push (xs : List Box) (a : Int) (b c : List Int) (d : Bool) {nb : Nat} (hb : nb = b.length) {nc : Nat} (hc : nc = c.length) : xs.flatMap eBox ++ [.sc (.int .i64 a), .sl 0 1 nb (ints b), .sl 0 1 nc (ints c), .sc (.bool d)] = (xs ++ [(⟨a, b, c, d⟩ : Box)]).flatMap eBox := by subst hb; subst hc; simp [eBox]
@[simp high] theorem eDialed_flen (xs : List Dialed) : (xs.flatMap eDialed).length = xs.length * 5 := flat_len eDialed_len xs
@[simp high] theorem eDialed_put {xs : List Dialed} {j : Nat} (h : j < xs.length) (a : Bool) (b : Int) (c : List Int) (d : Int) (u : List Int) {nc : Nat} (hc : nc = c.length) {nu : Nat} (hu : nu = u.length) : putAt (xs.flatMap eDialed) (j * 5) [.sc (.bool a), .sc (.int .i64 b), .sl 0 1 nc (ints c), .sc (.int .i64 d), .sl 0 1 nu (ints u)] = (xs.set j ⟨⟨a, b, c⟩, d, u⟩).flatMap eDialed := by subst hc; subst hu; exact putAt_flat eDialed_len h ⟨⟨a, b, c⟩, d, u⟩
theorem eDialed_push (xs : List Dialed) (a : Bool) (b : Int) (c : List Int) (d : Int) (u : List Int) {nc : Nat} (hc : nc = c.length) {nu : Nat} (hu : nu = u.length) : xs.flatMap eDialed ++ [.sc (.bool a), .sc (.int .i64 b), .sl 0 1 nc (ints c), .sc (.int .i64 d), .sl 0 1 nu (ints u)] = (xs ++ [(⟨⟨a, b, c⟩, d, u⟩ : Dialed)]).flatMap eDialed := by subst hc; subst hu; simp [eDialed]
@[simp high] theorem eEndpoint_flen (xs : List Endpoint) : (xs.flatMap eEndpoint).length = xs.length * 4 := flat_len eEndpoint_len xs
@[simp high] theorem eEndpoint_put {xs : List Endpoint} {j : Nat} (h : j < xs.length) (a b : List Int) (c : List Box) (d : Int) {na : Nat} (ha : na = a.length) {nb : Nat} (hb : nb = b.length) {nc : Nat} (hc : nc = c.length) : putAt (xs.flatMap eEndpoint) (j * 4) [.sl 0 1 na (ints a), .sl 0 1 nb (ints b), .sl 0 4 nc (c.flatMap eBox), .sc (.int .i64 d)] = (xs.set j ⟨a, b, c, d⟩).flatMap eEndpoint := by subst ha; subst hb; subst hc; exact putAt_flat eEndpoint_len h ⟨a, b, c, d⟩
theorem eEndpoint_push (xs : List Endpoint) (a b : List Int) (c : List Box) (d : Int) {na : Nat} (ha : na = a.length) {nb : Nat} (hb : nb = b.length) {nc : Nat} (hc : nc = c.length) : xs.flatMap eEndpoint ++ [.sl 0 1 na (ints a), .sl 0 1 nb (ints b), .sl 0 4 nc (c.flatMap eBox), .sc (.int .i64 d)] = (xs ++ [(⟨a, b, c, d⟩ : Endpoint)]).flatMap eEndpoint := by subst ha; subst hb; subst hc; simp [eEndpoint]
@[simp high] theorem eLogged_flen (xs : List Logged) : (xs.flatMap eLogged).length = xs.length * 8 := flat_len eLogged_len xs
@[simp high] theorem eLogged_put {xs : List Logged} {j : Nat} (h : j < xs.length) (m n : Int) (o a : Bool) (b : Int) (c : List Int) (d : Int) (u : List Int) {nc : Nat} (hc : nc = c.length) {nu : Nat} (hu : nu = u.length) : putAt (xs.flatMap eLogged) (j * 8) [.sc (.int .i64 m), .sc (.int .i64 n), .sc (.bool o), .sc (.bool a), .sc (.int .i64 b), .sl 0 1 nc (ints c), .sc (.int .i64 d), .sl 0 1 nu (ints u)] = (xs.set j ⟨m, n, o, ⟨⟨a, b, c⟩, d, u⟩⟩).flatMap eLogged := by subst hc; subst hu; exact putAt_flat eLogged_len h ⟨m, n, o, ⟨⟨a, b, c⟩, d, u⟩⟩
theorem eLogged_push (xs : List Logged) (m n : Int) (o a : Bool) (b : Int) (c : List Int) (d : Int) (u : List Int) {nc : Nat} (hc : nc = c.length) {nu : Nat} (hu : nu = u.length) : xs.flatMap eLogged ++ [.sc (.int .i64 m), .sc (.int .i64 n), .sc (.bool o), .sc (.bool a), .sc (.int .i64 b), .sl 0 1 nc (ints c), .sc (.int .i64 d), .sl 0 1 nu (ints u)] = (xs ++ [(⟨m, n, o, ⟨⟨a, b, c⟩, d, u⟩⟩ : Logged)]).flatMap eLogged := by subst hc; subst hu; simp [eLogged]
@[simp high] theorem eEvent_flen (xs : List Event) : (xs.flatMap eEvent).length = xs.length * 6 := flat_len eEvent_len xs
@[simp high] theorem eEvent_put {xs : List Event} {j : Nat} (h : j < xs.length) (m n : Int) (a : Int) (b c : List Int) (d : Bool) {nb : Nat} (hb : nb = b.length) {nc : Nat} (hc : nc = c.length) : putAt (xs.flatMap eEvent) (j * 6) [.sc (.int .i64 m), .sc (.int .i64 n), .sc (.int .i64 a), .sl 0 1 nb (ints b), .sl 0 1 nc (ints c), .sc (.bool d)] = (xs.set j ⟨m, n, ⟨a, b, c, d⟩⟩).flatMap eEvent := by subst hb; subst hc; exact putAt_flat eEvent_len h ⟨m, n, ⟨a, b, c, d⟩⟩
theorem eEvent_push (xs : List Event) (m n : Int) (a : Int) (b c : List Int) (d : Bool) {nb : Nat} (hb : nb = b.length) {nc : Nat} (hc : nc = c.length) : xs.flatMap eEvent ++ [.sc (.int .i64 m), .sc (.int .i64 n), .sc (.int .i64 a), .sl 0 1 nb (ints b), .sl 0 1 nc (ints c), .sc (.bool d)] = (xs ++ [(⟨m, n, ⟨a, b, c, d⟩⟩ : Event)]).flatMap eEvent := by subst hb; subst hc; simp [eEvent]

@[simp high] theorem eBox_c0 {xs : List Box} {j : Nat} (h : j < xs.length) : (xs.flatMap eBox)[j * 4]? = some (.sc (.int .i64 xs[j].limit)) := by
  have := getCell_flat (o := 0) eBox_len h (by omega)
  simpa [eBox] using this
@[simp high] theorem eBox_c1 {xs : List Box} {j : Nat} (h : j < xs.length) : (xs.flatMap eBox)[j * 4 + 1]? = some (.sl 0 1 xs[j].drops.length (ints xs[j].drops)) := by
  have := getCell_flat (o := 1) eBox_len h (by omega)
  simpa [eBox] using this
@[simp high] theorem eBox_c2 {xs : List Box} {j : Nat} (h : j < xs.length) : (xs.flatMap eBox)[j * 4 + 2]? = some (.sl 0 1 xs[j].strips.length (ints xs[j].strips)) := by
  have := getCell_flat (o := 2) eBox_len h (by omega)
  simpa [eBox] using this
@[simp high] theorem eBox_c3 {xs : List Box} {j : Nat} (h : j < xs.length) : (xs.flatMap eBox)[j * 4 + 3]? = some (.sc (.bool xs[j].lists)) := by
  have := getCell_flat (o := 3) eBox_len h (by omega)
  simpa [eBox] using this
@[simp high] theorem eDialed_c0 {xs : List Dialed} {j : Nat} (h : j < xs.length) : (xs.flatMap eDialed)[j * 5]? = some (.sc (.bool xs[j].deal.ok)) := by
  have := getCell_flat (o := 0) eDialed_len h (by omega)
  simpa [eDialed] using this
@[simp high] theorem eDialed_c1 {xs : List Dialed} {j : Nat} (h : j < xs.length) : (xs.flatMap eDialed)[j * 5 + 1]? = some (.sc (.int .i64 xs[j].deal.version)) := by
  have := getCell_flat (o := 1) eDialed_len h (by omega)
  simpa [eDialed] using this
@[simp high] theorem eDialed_c2 {xs : List Dialed} {j : Nat} (h : j < xs.length) : (xs.flatMap eDialed)[j * 5 + 2]? = some (.sl 0 1 xs[j].deal.tags.length (ints xs[j].deal.tags)) := by
  have := getCell_flat (o := 2) eDialed_len h (by omega)
  simpa [eDialed] using this
@[simp high] theorem eDialed_c3 {xs : List Dialed} {j : Nat} (h : j < xs.length) : (xs.flatMap eDialed)[j * 5 + 3]? = some (.sc (.int .i64 xs[j].tries)) := by
  have := getCell_flat (o := 3) eDialed_len h (by omega)
  simpa [eDialed] using this
@[simp high] theorem eDialed_c4 {xs : List Dialed} {j : Nat} (h : j < xs.length) : (xs.flatMap eDialed)[j * 5 + 4]? = some (.sl 0 1 xs[j].up.length (ints xs[j].up)) := by
  have := getCell_flat (o := 4) eDialed_len h (by omega)
  simpa [eDialed] using this
@[simp high] theorem eEndpoint_c0 {xs : List Endpoint} {j : Nat} (h : j < xs.length) : (xs.flatMap eEndpoint)[j * 4]? = some (.sl 0 1 xs[j].versions.length (ints xs[j].versions)) := by
  have := getCell_flat (o := 0) eEndpoint_len h (by omega)
  simpa [eEndpoint] using this
@[simp high] theorem eEndpoint_c1 {xs : List Endpoint} {j : Nat} (h : j < xs.length) : (xs.flatMap eEndpoint)[j * 4 + 1]? = some (.sl 0 1 xs[j].tags.length (ints xs[j].tags)) := by
  have := getCell_flat (o := 1) eEndpoint_len h (by omega)
  simpa [eEndpoint] using this
@[simp high] theorem eEndpoint_c2 {xs : List Endpoint} {j : Nat} (h : j < xs.length) : (xs.flatMap eEndpoint)[j * 4 + 2]? = some (.sl 0 4 xs[j].path.length (xs[j].path.flatMap eBox)) := by
  have := getCell_flat (o := 2) eEndpoint_len h (by omega)
  simpa [eEndpoint] using this
@[simp high] theorem eEndpoint_c3 {xs : List Endpoint} {j : Nat} (h : j < xs.length) : (xs.flatMap eEndpoint)[j * 4 + 3]? = some (.sc (.int .i64 xs[j].cls)) := by
  have := getCell_flat (o := 3) eEndpoint_len h (by omega)
  simpa [eEndpoint] using this
@[simp high] theorem eLogged_c0 {xs : List Logged} {j : Nat} (h : j < xs.length) : (xs.flatMap eLogged)[j * 8]? = some (.sc (.int .i64 xs[j].fin)) := by
  have := getCell_flat (o := 0) eLogged_len h (by omega)
  simpa [eLogged] using this
@[simp high] theorem eLogged_c1 {xs : List Logged} {j : Nat} (h : j < xs.length) : (xs.flatMap eLogged)[j * 8 + 1]? = some (.sc (.int .i64 xs[j].tick)) := by
  have := getCell_flat (o := 1) eLogged_len h (by omega)
  simpa [eLogged] using this
@[simp high] theorem eLogged_c2 {xs : List Logged} {j : Nat} (h : j < xs.length) : (xs.flatMap eLogged)[j * 8 + 2]? = some (.sc (.bool xs[j].on)) := by
  have := getCell_flat (o := 2) eLogged_len h (by omega)
  simpa [eLogged] using this
@[simp high] theorem eLogged_c3 {xs : List Logged} {j : Nat} (h : j < xs.length) : (xs.flatMap eLogged)[j * 8 + 3]? = some (.sc (.bool xs[j].dialed.deal.ok)) := by
  have := getCell_flat (o := 3) eLogged_len h (by omega)
  simpa [eLogged] using this
@[simp high] theorem eLogged_c4 {xs : List Logged} {j : Nat} (h : j < xs.length) : (xs.flatMap eLogged)[j * 8 + 4]? = some (.sc (.int .i64 xs[j].dialed.deal.version)) := by
  have := getCell_flat (o := 4) eLogged_len h (by omega)
  simpa [eLogged] using this
@[simp high] theorem eLogged_c5 {xs : List Logged} {j : Nat} (h : j < xs.length) : (xs.flatMap eLogged)[j * 8 + 5]? = some (.sl 0 1 xs[j].dialed.deal.tags.length (ints xs[j].dialed.deal.tags)) := by
  have := getCell_flat (o := 5) eLogged_len h (by omega)
  simpa [eLogged] using this
@[simp high] theorem eLogged_c6 {xs : List Logged} {j : Nat} (h : j < xs.length) : (xs.flatMap eLogged)[j * 8 + 6]? = some (.sc (.int .i64 xs[j].dialed.tries)) := by
  have := getCell_flat (o := 6) eLogged_len h (by omega)
  simpa [eLogged] using this
@[simp high] theorem eLogged_c7 {xs : List Logged} {j : Nat} (h : j < xs.length) : (xs.flatMap eLogged)[j * 8 + 7]? = some (.sl 0 1 xs[j].dialed.up.length (ints xs[j].dialed.up)) := by
  have := getCell_flat (o := 7) eLogged_len h (by omega)
  simpa [eLogged] using this
@[simp high] theorem eEvent_c0 {xs : List Event} {j : Nat} (h : j < xs.length) : (xs.flatMap eEvent)[j * 6]? = some (.sc (.int .i64 xs[j].kind)) := by
  have := getCell_flat (o := 0) eEvent_len h (by omega)
  simpa [eEvent] using this
@[simp high] theorem eEvent_c1 {xs : List Event} {j : Nat} (h : j < xs.length) : (xs.flatMap eEvent)[j * 6 + 1]? = some (.sc (.int .i64 xs[j].n)) := by
  have := getCell_flat (o := 1) eEvent_len h (by omega)
  simpa [eEvent] using this
@[simp high] theorem eEvent_c2 {xs : List Event} {j : Nat} (h : j < xs.length) : (xs.flatMap eEvent)[j * 6 + 2]? = some (.sc (.int .i64 xs[j].box.limit)) := by
  have := getCell_flat (o := 2) eEvent_len h (by omega)
  simpa [eEvent] using this
@[simp high] theorem eEvent_c3 {xs : List Event} {j : Nat} (h : j < xs.length) : (xs.flatMap eEvent)[j * 6 + 3]? = some (.sl 0 1 xs[j].box.drops.length (ints xs[j].box.drops)) := by
  have := getCell_flat (o := 3) eEvent_len h (by omega)
  simpa [eEvent] using this
@[simp high] theorem eEvent_c4 {xs : List Event} {j : Nat} (h : j < xs.length) : (xs.flatMap eEvent)[j * 6 + 4]? = some (.sl 0 1 xs[j].box.strips.length (ints xs[j].box.strips)) := by
  have := getCell_flat (o := 4) eEvent_len h (by omega)
  simpa [eEvent] using this
@[simp high] theorem eEvent_c5 {xs : List Event} {j : Nat} (h : j < xs.length) : (xs.flatMap eEvent)[j * 6 + 5]? = some (.sc (.bool xs[j].box.lists)) := by
  have := getCell_flat (o := 5) eEvent_len h (by omega)
  simpa [eEvent] using this

theorem getPart_flat {α : Type} {f : α → List V} {e : Nat} (hf : ∀ x, (f x).length = e) {xs : List α} {j o n : Nat} (h : j < xs.length) (ho : o + n ≤ e) : getAt (xs.flatMap f) (j * e + o) n = some (((f xs[j]).drop o).take n) := by
  unfold getAt
  have hl := flat_len hf xs
  have h2 : j * e + e ≤ xs.length * e := by
    have := Nat.mul_le_mul_right e (show j + 1 ≤ xs.length by omega)
    rw [Nat.add_mul] at this; omega
  rw [hl, if_pos (by omega), ← List.drop_drop, flat_drop hf, List.drop_eq_getElem_cons h, List.flatMap_cons, List.drop_append, List.take_append]
  have h3 := hf xs[j]
  rw [List.length_drop, h3]
  have : n - (e - o) = 0 := by omega
  rw [this, List.take_zero, List.append_nil]
@[simp high] theorem eLogged_p3 {xs : List Logged} {j : Nat} (h : j < xs.length) : getAt (xs.flatMap eLogged) (j * 8 + 3) 5 = some (eDialed xs[j].dialed) := getPart_flat eLogged_len h (by omega)
@[simp high] theorem eLogged_q3 {xs : List Logged} {j : Nat} (h : j < xs.length) : getAt (xs.flatMap eLogged) (j * 8 + 3) 3 = some (eDeal xs[j].dialed.deal) := getPart_flat eLogged_len h (by omega)
@[simp high] theorem eDialed_q0 {xs : List Dialed} {j : Nat} (h : j < xs.length) : getAt (xs.flatMap eDialed) (j * 5) 3 = some (eDeal xs[j].deal) := getPart_flat (o := 0) eDialed_len h (by omega)
@[simp high] theorem eEvent_p2 {xs : List Event} {j : Nat} (h : j < xs.length) : getAt (xs.flatMap eEvent) (j * 6 + 2) 4 = some (eBox xs[j].box) := getPart_flat eEvent_len h (by omega)

attribute [simp] Nat.add_one_le_iff eDeal eBox eDialed eRollout eEndpoint eLogged eWorld eEvent
end Go.Eng.T

namespace Go.Eng.T


abbrev InS (R : Rel) : Prop := ∀ a b c : Int, R [I a, I b, I c] [] (B (decide (b ≤ a ∧ a ≤ c))) []
theorem l1In_b (D : Dn) : InS (Body D sspec_l1In) := by
  intro a b c
  by_cases h1 : b ≤ a <;> by_cases h2 : a ≤ c <;> simp -implicitDefEqProofs [h1, h2]
theorem InRange_b (D : Dn) : InS (Body D simpl_InRange) := by
  intro a b c
  by_cases h1 : b ≤ a <;> by_cases h2 : a ≤ c <;> simp -implicitDefEqProofs [h1, h2]

def evNames : List (List UInt8) := [[], [100, 105, 97, 108], [115, 116, 97, 114, 116], [115, 116, 97, 103, 101], [114, 101, 116, 105, 114, 101], [114, 101, 118, 105, 118, 101], [98, 111, 120], [99, 108, 101, 97, 114], [116, 105, 99, 107]]
def evName (k : Int) : ByteArray := if 1 ≤ k ∧ k ≤ 8 then ⟨(evNames.getD k.toNat []).toArray⟩ else ⟨#[]⟩
theorem evCases {k : Int} (h : 1 ≤ k ∧ k ≤ 8) : k = 1 ∨ k = 2 ∨ k = 3 ∨ k = 4 ∨ k = 5 ∨ k = 6 ∨ k = 7 ∨ k = 8 := by omega
abbrev EventNameS (R : Rel) : Prop := ∀ k : Int, R [I k] [] (S (evName k)) []

abbrev FnExactEventNameS (R : Rel) : Prop := ∀ k : Int, R [I k] [] (B true) []
end Go.Eng.T

namespace Go.Eng.T

abbrev szIntSS (R : Rel) : Prop := ∀ (xs : List Int) (l : Int), 0 ≤ l → l ≤ 4194304 → lnInts xs → R [.sl 1 1 xs.length (ints xs), I l] [] (I (szl xs.length l)) []
theorem szIntS_b (D : Dn) : szIntSS (Body D slaws_szIntS) := by
  intro xs l h1 h2 h3
  have hw : IntKind.i64.wrap (l - (xs.length : Int)) = l - xs.length := by unfold lnInts maxLen at h3; exact wrap_id (by omega) (by omega)
  by_cases h : l < xs.length
  · have h' : l - (xs.length : Int) < 0 := by omega
    simp -implicitDefEqProofs [hw, h, h', szl]
  · have h' : ¬ l - (xs.length : Int) < 0 := by omega
    simp -implicitDefEqProofs [hw, h, h', szl]

abbrev toIntSS (R : Rel) : Prop := ∀ (xs : List Int), xs.length * 8 ≤ 2 ^ 40 → R [.sl 1 1 xs.length (ints xs)] [] (.sl 0 1 xs.length (ints xs)) []
theorem toIntS_b (D : Dn) : toIntSS (Body D slaws_toIntS) := by
  intro xs hl
  have h1 : ((xs.length : Nat) : Int) * 8 ≤ 1099511627776 := by omega
  simp -implicitDefEqProofs [h1]
  refine swp_loop (fun k s => ∃ j, j + k = xs.length ∧ s = ⟨[.sl 1 1 xs.length (ints xs), .undef, .arr 0, .sc (.int .i64 j), .undef], [.arr 1 0 xs.length (ints (mix 0 xs j))]⟩) ?_ xs.length _ ⟨0, by simp, by simp [mix_zero, ints]⟩
  intro k s ⟨j, hj, hs⟩
  subst hs
  by_cases hjn : j < xs.length
  · have hw : IntKind.i64.wrap ((j : Int) + 1) = (j + 1 : Nat) := by rw [wrap_id (by omega) (by omega)]; simp
    simp -implicitDefEqProofs [hjn, Nat.le_of_lt hjn, mix_set]
    exact ⟨k - 1, by omega, j + 1, by omega, by simp [hw], rfl⟩
  · have hje : mix 0 xs j = xs := mix_all (by omega)
    simp -implicitDefEqProofs [hjn, hje]

abbrev eqIntSS (R : Rel) : Prop := ∀ (xs ys : List Int), xs.length ≤ maxLen → ys.length ≤ maxLen → R [.sl 1 1 xs.length (ints xs), .sl 1 1 ys.length (ints ys)] [] (B (decide (xs = ys))) []
theorem eqIntS_b (D : Dn) : eqIntSS (Body D slaws_eqIntS) := by
  intro xs ys h1 h2
  unfold maxLen at h1 h2
  by_cases hl : xs.length = ys.length
  · have hl' : (xs.length : Int) = ys.length := by omega
    simp -implicitDefEqProofs [hl']
    refine swp_loop (fun k s => ∃ j, j + k = xs.length ∧ xs.take j = ys.take j ∧ s = ⟨[.sl 1 1 xs.length (ints xs), .sl 1 1 ys.length (ints ys), .undef, .sc (.int .i64 j), .undef, .undef, .undef], []⟩) ?_ xs.length _ ⟨0, by simp, by simp, by simp⟩
    intro k s ⟨j, hj, hp, hs⟩
    subst hs
    by_cases hjn : j < xs.length
    · have hw : IntKind.i64.wrap ((j : Int) + 1) = (j + 1 : Nat) := by rw [wrap_id (by omega) (by omega)]; simp
      have hy : j < ys.length := by omega
      by_cases he : xs[j] = ys[j]
      · simp -implicitDefEqProofs [hjn, hy, he]
        exact ⟨k - 1, by omega, j + 1, by omega, take_step hjn hy hp he, by simp [hw]⟩
      · have hne : xs ≠ ys := fun h => he (by simp [h])
        simp -implicitDefEqProofs [hjn, hy, he, hne]
    · obtain rfl : xs = ys := take_all (by omega) hl hp
      simp -implicitDefEqProofs [hjn]
  · have hl' : ¬ (xs.length : Int) = ys.length := by omega
    have : xs ≠ ys := fun h => hl (by rw [h])
    simp -implicitDefEqProofs [hl', this]
end Go.Eng.T

namespace Go.Eng.T
abbrev szBoxS (R : Rel) : Prop := ∀ (x : Box) (l : Int), 0 ≤ l → l ≤ 4194304 → lnBox x → R [arg (eBox x), I l] [] (I (szl (szBox x) l)) []
theorem szBox_b (D : Dn) (hszIntS : szIntSS (D 16)) : szBoxS (Body D slaws_szBox) := by
  intro x l hl1 hl2 hln
  simp only [lnBox] at hln
  simp -implicitDefEqProofs
  refine callQ_of (hszIntS x.drops (l) (by omega) (by omega) hln.1) ?_
  by_cases g0 : l < ((x.drops.length : Nat) : Int)
  · have gg : l < ((szBox x : Nat) : Int) := by simp only [szBox]; omega
    have e1 : szl (x.drops.length) (l) = -1 := by unfold szl; rw [if_pos g0]
    have e2 : szl (szBox x) l = -1 := by unfold szl; rw [if_pos gg]
    simp -implicitDefEqProofs [e1, e2]
  have e3 : szl (x.drops.length) (l) = l - ((x.drops.length : Nat) : Int) := by unfold szl; rw [if_neg g0]
  have p0 : ¬ l - ((x.drops.length : Nat) : Int) < 0 := by omega
  simp -implicitDefEqProofs [e3, p0]
  refine callQ_of (hszIntS x.strips (l - ((x.drops.length : Nat) : Int)) (by omega) (by omega) hln.2) ?_
  by_cases g1 : l - ((x.drops.length : Nat) : Int) < ((x.strips.length : Nat) : Int)
  · have gg : l < ((szBox x : Nat) : Int) := by simp only [szBox]; omega
    have e1 : szl (x.strips.length) (l - ((x.drops.length : Nat) : Int)) = -1 := by unfold szl; rw [if_pos g1]
    have e2 : szl (szBox x) l = -1 := by unfold szl; rw [if_pos gg]
    simp -implicitDefEqProofs [e1, e2]
  have e4 : szl (x.strips.length) (l - ((x.drops.length : Nat) : Int)) = l - ((x.drops.length : Nat) : Int) - ((x.strips.length : Nat) : Int) := by unfold szl; rw [if_neg g1]
  have p1 : ¬ l - ((x.drops.length : Nat) : Int) - ((x.strips.length : Nat) : Int) < 0 := by omega
  simp -implicitDefEqProofs [e4, p1]
  have gg : ¬ l < ((szBox x : Nat) : Int) := by simp only [szBox]; omega
  unfold szl; rw [if_neg gg]; simp only [szBox] <;> omega
abbrev toBoxS (R : Rel) : Prop := ∀ x : Box, szBox x ≤ 4194304 → R [arg (eBox x)] [] (.agg (eBox x)) []
theorem toBox_b (D : Dn) (htoIntS : toIntSS (D 31)) : toBoxS (Body D slaws_toBox) := by
  intro x h
  simp only [szBox] at h
  simp -implicitDefEqProofs
  refine callQ_of (htoIntS x.drops (by omega)) ?_
  simp -implicitDefEqProofs
  refine callQ_of (htoIntS x.strips (by omega)) ?_
  simp -implicitDefEqProofs
abbrev eqBoxS (R : Rel) : Prop := ∀ x y : Box, szBox x ≤ 2 ^ 40 → szBox y ≤ 2 ^ 40 → R [arg (eBox x), arg (eBox y)] [] (B (decide (x = y))) []
theorem eqBox_b (D : Dn) (heqIntS : eqIntSS (D 47)) : eqBoxS (Body D slaws_eqBox) := by
  intro x y h1 h2
  simp only [szBox] at h1 h2
  by_cases g_limit : x.limit = y.limit
  rotate_left
  · have hne : x ≠ y := fun h => g_limit (by rw [h])
    simp -implicitDefEqProofs [g_limit, hne]
  simp -implicitDefEqProofs [g_limit]
  refine callQ_of (heqIntS x.drops y.drops (by unfold maxLen; omega) (by unfold maxLen; omega)) ?_
  by_cases g_drops : x.drops = y.drops
  rotate_left
  · have hne : x ≠ y := fun h => g_drops (by rw [h])
    simp -implicitDefEqProofs [g_drops, hne]
  simp -implicitDefEqProofs [g_drops]
  refine callQ_of (heqIntS x.strips y.strips (by unfold maxLen; omega) (by unfold maxLen; omega)) ?_
  by_cases g_strips : x.strips = y.strips
  rotate_left
  · have hne : x ≠ y := fun h => g_strips (by rw [h])
    simp -implicitDefEqProofs [g_strips, hne]
  simp -implicitDefEqProofs [g_strips]
  by_cases g_lists : x.lists = y.lists
  rotate_left
  · have hne : x ≠ y := fun h => g_lists (by rw [h])
    simp -implicitDefEqProofs [g_lists, hne]
  simp -implicitDefEqProofs [g_lists]
  have hxy : x = y := by cases x; cases y; simp_all
  simp -implicitDefEqProofs [hxy]
abbrev szEventS (R : Rel) : Prop := ∀ (x : Event) (l : Int), 0 ≤ l → l ≤ 4194304 → lnEvent x → R [arg (eEvent x), I l] [] (I (szl (szEvent x) l)) []
abbrev toEventS (R : Rel) : Prop := ∀ x : Event, szEvent x ≤ 4194304 → R [arg (eEvent x)] [] (.agg (eEvent x)) []
abbrev eqEventS (R : Rel) : Prop := ∀ x y : Event, szEvent x ≤ 2 ^ 40 → szEvent y ≤ 2 ^ 40 → R [arg (eEvent x), arg (eEvent y)] [] (B (decide (x = y))) []
abbrev szEventSS (R : Rel) : Prop := ∀ (xs : List Event) (l : Int), 0 ≤ l → l ≤ 4194304 → lnS lnEvent xs → R [.sl 1 6 xs.length (xs.flatMap eEvent), I l] [] (I (szl (sumF szEvent xs) l)) []
abbrev toEventSS (R : Rel) : Prop := ∀ xs : List Event, sumF szEvent xs ≤ 4194304 → R [.sl 1 6 xs.length (xs.flatMap eEvent)] [] (.sl 0 6 xs.length (xs.flatMap eEvent)) []
abbrev eqEventSS (R : Rel) : Prop := ∀ xs ys : List Event, sumF szEvent xs ≤ 2 ^ 40 → sumF szEvent ys ≤ 2 ^ 40 → R [.sl 1 6 xs.length (xs.flatMap eEvent), .sl 1 6 ys.length (ys.flatMap eEvent)] [] (B (decide (xs = ys))) []
end Go.Eng.T

namespace Go.Eng.T
abbrev eqBoxSS (R : Rel) : Prop := ∀ xs ys : List Box, sumF szBox xs ≤ 2 ^ 40 → sumF szBox ys ≤ 2 ^ 40 → R [.sl 1 4 xs.length (xs.flatMap eBox), .sl 1 4 ys.length (ys.flatMap eBox)] [] (B (decide (xs = ys))) []
theorem eqBoxS_b (D : Dn) (heq : eqBoxS (D 249)) : eqBoxSS (Body D slaws_eqBoxS) := by
  intro xs ys h1 h2
  have hlen := size_len (f := szBox) (xs := xs)
  by_cases hl : xs.length = ys.length
  · have hl' : (xs.length : Int) = ys.length := by omega
    simp -implicitDefEqProofs [hl']
    refine swp_loop (fun k s => ∃ j, j + k = xs.length ∧ xs.take j = ys.take j ∧ s = ⟨[.sl 1 4 xs.length (xs.flatMap eBox), .sl 1 4 ys.length (ys.flatMap eBox), .undef, .sc (.int .i64 j), .undef, .undef, .undef], []⟩) ?_ xs.length _ ⟨0, by simp, by simp, by simp⟩
    intro k s ⟨j, hj, hp, hs⟩
    subst hs
    by_cases hjn : j < xs.length
    · have hw : IntKind.i64.wrap ((j : Int) + 1) = (j + 1 : Nat) := by rw [wrap_id (by omega) (by omega)]; simp
      have hy : j < ys.length := by omega
      have hsx := size_at (f := szBox) hjn
      have hsy := size_at (f := szBox) hy
      simp -implicitDefEqProofs [hjn, hy]
      refine callQ_of (heq xs[j] ys[j] (by omega) (by omega)) ?_
      by_cases he : xs[j] = ys[j]
      · simp -implicitDefEqProofs [he]
        exact ⟨k - 1, by omega, j + 1, by omega, take_step hjn hy hp he, by simp [hw]⟩
      · have hne : xs ≠ ys := fun h => he (by simp [h])
        simp -implicitDefEqProofs [he, hne]
    · obtain rfl : xs = ys := take_all (by omega) hl hp
      simp -implicitDefEqProofs [hjn]
  · have hl' : ¬ (xs.length : Int) = ys.length := by omega
    have : xs ≠ ys := fun h => hl (by rw [h])
    simp -implicitDefEqProofs [hl', this]
abbrev eqEndpointS (R : Rel) : Prop := ∀ x y : Endpoint, szEndpoint x ≤ 2 ^ 40 → szEndpoint y ≤ 2 ^ 40 → R [arg (eEndpoint x), arg (eEndpoint y)] [] (B (decide (x = y))) []
theorem eqEndpoint_b (D : Dn) (heqIntS : eqIntSS (D 47)) (heqBoxS : eqBoxSS (D 204)) : eqEndpointS (Body D slaws_eqEndpoint) := by
  intro x y h1 h2
  simp only [szEndpoint] at h1 h2
  simp -implicitDefEqProofs
  refine callQ_of (heqIntS x.versions y.versions (by unfold maxLen; omega) (by unfold maxLen; omega)) ?_
  by_cases g_versions : x.versions = y.versions
  rotate_left
  · have hne : x ≠ y := fun h => g_versions (by rw [h])
    simp -implicitDefEqProofs [g_versions, hne]
  simp -implicitDefEqProofs [g_versions]
  refine callQ_of (heqIntS x.tags y.tags (by unfold maxLen; omega) (by unfold maxLen; omega)) ?_
  by_cases g_tags : x.tags = y.tags
  rotate_left
  · have hne : x ≠ y := fun h => g_tags (by rw [h])
    simp -implicitDefEqProofs [g_tags, hne]
  simp -implicitDefEqProofs [g_tags]
  refine callQ_of (heqBoxS x.path y.path (by omega) (by omega)) ?_
  by_cases g_path : x.path = y.path
  rotate_left
  · have hne : x ≠ y := fun h => g_path (by rw [h])
    simp -implicitDefEqProofs [g_path, hne]
  simp -implicitDefEqProofs [g_path]
  by_cases g_cls : x.cls = y.cls
  rotate_left
  · have hne : x ≠ y := fun h => g_cls (by rw [h])
    simp -implicitDefEqProofs [g_cls, hne]
  simp -implicitDefEqProofs [g_cls]
  have hxy : x = y := by cases x; cases y; simp_all
  simp -implicitDefEqProofs [hxy]
abbrev eqEndpointSS (R : Rel) : Prop := ∀ xs ys : List Endpoint, sumF szEndpoint xs ≤ 2 ^ 40 → sumF szEndpoint ys ≤ 2 ^ 40 → R [.sl 1 4 xs.length (xs.flatMap eEndpoint), .sl 1 4 ys.length (ys.flatMap eEndpoint)] [] (B (decide (xs = ys))) []
theorem eqEndpointS_b (D : Dn) (heq : eqEndpointS (D 134)) : eqEndpointSS (Body D slaws_eqEndpointS) := by
  intro xs ys h1 h2
  have hlen := size_len (f := szEndpoint) (xs := xs)
  by_cases hl : xs.length = ys.length
  · have hl' : (xs.length : Int) = ys.length := by omega
    simp -implicitDefEqProofs [hl']
    refine swp_loop (fun k s => ∃ j, j + k = xs.length ∧ xs.take j = ys.take j ∧ s = ⟨[.sl 1 4 xs.length (xs.flatMap eEndpoint), .sl 1 4 ys.length (ys.flatMap eEndpoint), .undef, .sc (.int .i64 j), .undef, .undef, .undef], []⟩) ?_ xs.length _ ⟨0, by simp, by simp, by simp⟩
    intro k s ⟨j, hj, hp, hs⟩
    subst hs
    by_cases hjn : j < xs.length
    · have hw : IntKind.i64.wrap ((j : Int) + 1) = (j + 1 : Nat) := by rw [wrap_id (by omega) (by omega)]; simp
      have hy : j < ys.length := by omega
      have hsx := size_at (f := szEndpoint) hjn
      have hsy := size_at (f := szEndpoint) hy
      simp -implicitDefEqProofs [hjn, hy]
      refine callQ_of (heq xs[j] ys[j] (by omega) (by omega)) ?_
      by_cases he : xs[j] = ys[j]
      · simp -implicitDefEqProofs [he]
        exact ⟨k - 1, by omega, j + 1, by omega, take_step hjn hy hp he, by simp [hw]⟩
      · have hne : xs ≠ ys := fun h => he (by simp [h])
        simp -implicitDefEqProofs [he, hne]
    · obtain rfl : xs = ys := take_all (by omega) hl hp
      simp -implicitDefEqProofs [hjn]
  · have hl' : ¬ (xs.length : Int) = ys.length := by omega
    have : xs ≠ ys := fun h => hl (by rw [h])
    simp -implicitDefEqProofs [hl', this]
end Go.Eng.T

namespace Go.Eng.T
abbrev toBoxSS (R : Rel) : Prop := ∀ xs : List Box, sumF szBox xs ≤ 4194304 → R [.sl 1 4 xs.length (xs.flatMap eBox)] [] (.sl 0 4 xs.length (xs.flatMap eBox)) []
theorem toBoxS_b (D : Dn) (hto : toBoxS (D 226)) : toBoxSS (Body D slaws_toBoxS) := by
  intro xs h
  have hlen := size_len (f := szBox) (xs := xs)
  have h1 : ((xs.length : Nat) : Int) * 64 ≤ 1099511627776 := by omega
  simp -implicitDefEqProofs [h1]
  refine swp_loop (fun k s => ∃ j o1 o2, j + k = xs.length ∧ s = ⟨[.sl 1 4 xs.length (xs.flatMap eBox), .undef, .arr 0, .sc (.int .i64 j), .undef], [.arr 4 0 xs.length ((mix (⟨0, [], [], false⟩ : Box) xs j).flatMap eBox), o1, o2]⟩) ?_ xs.length _ ⟨0, .free, .free, by simp, by simp [mix_zero]; exact rep_flat (f := eBox) (⟨0, [], [], false⟩ : Box) _⟩
  intro k s ⟨j, o1, o2, hj, hs⟩
  subst hs
  by_cases hjn : j < xs.length
  · have hw : IntKind.i64.wrap ((j : Int) + 1) = (j + 1 : Nat) := by rw [wrap_id (by omega) (by omega)]; simp
    have hsz := size_at (f := szBox) hjn
    have hfit : j * 4 + 4 ≤ xs.length * 4 := by omega
    have hjl : j ≤ xs.length := by omega
    simp -implicitDefEqProofs [hjn]
    refine callQ_of (hto xs[j] (by omega)) ?_
    simp -implicitDefEqProofs [hjn, hfit, hjl]
    exact ⟨k - 1, by omega, j + 1, by omega, by simp [hw], by rw [← mix_set hjn]⟩
  · have hje : mix (⟨0, [], [], false⟩ : Box) xs j = xs := mix_all (by omega)
    simp -implicitDefEqProofs [hjn, hje]
abbrev szBoxSS (R : Rel) : Prop := ∀ (xs : List Box) (l : Int), 0 ≤ l → l ≤ 4194304 → lnS lnBox xs → R [.sl 1 4 xs.length (xs.flatMap eBox), I l] [] (I (szl (sumF szBox xs) l)) []
theorem szBoxS_b (D : Dn) (hsz : szBoxS (D 206)) : szBoxSS (Body D slaws_szBoxS) := by
  intro xs l h1 h2 hln
  have h3 := hln.1
  unfold maxLen at h3
  have hw : IntKind.i64.wrap (l - (xs.length : Int)) = l - xs.length := wrap_id (by omega) (by omega)
  by_cases h : l < (xs.length : Int)
  · have h' : l - (xs.length : Int) < 0 := by omega
    have e2 : szl (sumF szBox xs) l = -1 := by unfold szl sumF; rw [if_pos (by omega)]
    simp -implicitDefEqProofs [hw, h', e2]
  · have h' : ¬ l - (xs.length : Int) < 0 := by omega
    simp -implicitDefEqProofs [hw, h']
    refine swp_loop (fun k s => ∃ j, j + k = xs.length ∧ ((xs.take j).map szBox).sum + xs.length ≤ l ∧ s = ⟨[.sl 1 4 xs.length (xs.flatMap eBox), .sc (.int .i64 (l - xs.length - ((((xs.take j).map szBox).sum : Nat) : Int))), .undef, .sc (.int .i64 j), .undef, .undef, .undef], []⟩) ?_ xs.length _ ⟨0, by simp, by simp; omega, by simp⟩
    intro k s ⟨j, hj, hp, hs⟩
    subst hs
    by_cases hjn : j < xs.length
    · have hw : IntKind.i64.wrap ((j : Int) + 1) = (j + 1 : Nat) := by rw [wrap_id (by omega) (by omega)]; simp
      have ht := sum_take (f := szBox) hjn
      have htl := sum_take_le (f := szBox) (xs := xs) (j := j + 1)
      simp -implicitDefEqProofs [hjn, -List.map_take]
      refine callQ_of (hsz xs[j] _ (by omega) (by omega) (hln.2 j hjn)) ?_
      by_cases he : l - xs.length - ((((xs.take j).map szBox).sum : Nat) : Int) < szBox xs[j]
      · have e1 : szl (szBox xs[j]) (l - xs.length - ((((xs.take j).map szBox).sum : Nat) : Int)) = -1 := by unfold szl; rw [if_pos he]
        have e2 : szl (sumF szBox xs) l = -1 := by unfold szl sumF; rw [if_pos (by omega)]
        simp -implicitDefEqProofs [e1, e2, -List.map_take]
      · have e1 : szl (szBox xs[j]) (l - xs.length - ((((xs.take j).map szBox).sum : Nat) : Int)) = l - xs.length - ((((xs.take j).map szBox).sum : Nat) : Int) - szBox xs[j] := by unfold szl; rw [if_neg he]
        have e3 : ¬ l - xs.length - ((((xs.take j).map szBox).sum : Nat) : Int) - szBox xs[j] < 0 := by omega
        simp -implicitDefEqProofs [e1, e3, -List.map_take]
        refine ⟨k - 1, by omega, j + 1, by omega, by omega, ?_, by simp [hw]⟩
        rw [ht]; omega
    · have hsm := sum_all (f := szBox) (xs := xs) (j := j) (by omega)
      have e2 : szl (sumF szBox xs) l = l - xs.length - ((((xs.take j).map szBox).sum : Nat) : Int) := by unfold szl sumF; rw [if_neg (by omega)]; omega
      simp -implicitDefEqProofs [hjn, e2, -List.map_take]
abbrev szEndpointS (R : Rel) : Prop := ∀ (x : Endpoint) (l : Int), 0 ≤ l → l ≤ 4194304 → lnEndpoint x → R [arg (eEndpoint x), I l] [] (I (szl (szEndpoint x) l)) []
theorem szEndpoint_b (D : Dn) (hszIntS : szIntSS (D 16)) (hszBoxS : szBoxSS (D 139)) : szEndpointS (Body D slaws_szEndpoint) := by
  intro x l hl1 hl2 hln
  simp only [lnEndpoint] at hln
  simp -implicitDefEqProofs
  refine callQ_of (hszIntS x.versions (l) (by omega) (by omega) hln.1) ?_
  by_cases g0 : l < ((x.versions.length : Nat) : Int)
  · have gg : l < ((szEndpoint x : Nat) : Int) := by simp only [szEndpoint]; omega
    have e1 : szl (x.versions.length) (l) = -1 := by unfold szl; rw [if_pos g0]
    have e2 : szl (szEndpoint x) l = -1 := by unfold szl; rw [if_pos gg]
    simp -implicitDefEqProofs [e1, e2]
  have e3 : szl (x.versions.length) (l) = l - ((x.versions.length : Nat) : Int) := by unfold szl; rw [if_neg g0]
  have p0 : ¬ l - ((x.versions.length : Nat) : Int) < 0 := by omega
  simp -implicitDefEqProofs [e3, p0]
  refine callQ_of (hszIntS x.tags (l - ((x.versions.length : Nat) : Int)) (by omega) (by omega) hln.2.1) ?_
  by_cases g1 : l - ((x.versions.length : Nat) : Int) < ((x.tags.length : Nat) : Int)
  · have gg : l < ((szEndpoint x : Nat) : Int) := by simp only [szEndpoint]; omega
    have e1 : szl (x.tags.length) (l - ((x.versions.length : Nat) : Int)) = -1 := by unfold szl; rw [if_pos g1]
    have e2 : szl (szEndpoint x) l = -1 := by unfold szl; rw [if_pos gg]
    simp -implicitDefEqProofs [e1, e2]
  have e4 : szl (x.tags.length) (l - ((x.versions.length : Nat) : Int)) = l - ((x.versions.length : Nat) : Int) - ((x.tags.length : Nat) : Int) := by unfold szl; rw [if_neg g1]
  have p1 : ¬ l - ((x.versions.length : Nat) : Int) - ((x.tags.length : Nat) : Int) < 0 := by omega
  simp -implicitDefEqProofs [e4, p1]
  refine callQ_of (hszBoxS x.path (l - ((x.versions.length : Nat) : Int) - ((x.tags.length : Nat) : Int)) (by omega) (by omega) hln.2.2) ?_
  by_cases g2 : l - ((x.versions.length : Nat) : Int) - ((x.tags.length : Nat) : Int) < ((sumF szBox x.path : Nat) : Int)
  · have gg : l < ((szEndpoint x : Nat) : Int) := by simp only [szEndpoint]; omega
    have e1 : szl (sumF szBox x.path) (l - ((x.versions.length : Nat) : Int) - ((x.tags.length : Nat) : Int)) = -1 := by unfold szl; rw [if_pos g2]
    have e2 : szl (szEndpoint x) l = -1 := by unfold szl; rw [if_pos gg]
    simp -implicitDefEqProofs [e1, e2]
  have e5 : szl (sumF szBox x.path) (l - ((x.versions.length : Nat) : Int) - ((x.tags.length : Nat) : Int)) = l - ((x.versions.length : Nat) : Int) - ((x.tags.length : Nat) : Int) - ((sumF szBox x.path : Nat) : Int) := by unfold szl; rw [if_neg g2]
  have p2 : ¬ l - ((x.versions.length : Nat) : Int) - ((x.tags.length : Nat) : Int) - ((sumF szBox x.path : Nat) : Int) < 0 := by omega
  simp -implicitDefEqProofs [e5, p2]
  have gg : ¬ l < ((szEndpoint x : Nat) : Int) := by simp only [szEndpoint]; omega
  unfold szl; rw [if_neg gg]; simp only [szEndpoint] <;> omega
abbrev toEndpointS (R : Rel) : Prop := ∀ x : Endpoint, szEndpoint x ≤ 4194304 → R [arg (eEndpoint x)] [] (.agg (eEndpoint x)) []
theorem toEndpoint_b (D : Dn) (htoIntS : toIntSS (D 31)) (htoBoxS : toBoxSS (D 170)) : toEndpointS (Body D slaws_toEndpoint) := by
  intro x h
  simp only [szEndpoint] at h
  simp -implicitDefEqProofs
  refine callQ_of (htoIntS x.versions (by omega)) ?_
  simp -implicitDefEqProofs
  refine callQ_of (htoIntS x.tags (by omega)) ?_
  simp -implicitDefEqProofs
  refine callQ_of (htoBoxS x.path (by omega)) ?_
  simp -implicitDefEqProofs
abbrev szEndpointSS (R : Rel) : Prop := ∀ (xs : List Endpoint) (l : Int), 0 ≤ l → l ≤ 4194304 → lnS lnEndpoint xs → R [.sl 1 4 xs.length (xs.flatMap eEndpoint), I l] [] (I (szl (sumF szEndpoint xs) l)) []
theorem szEndpointS_b (D : Dn) (hsz : szEndpointS (D 62)) : szEndpointSS (Body D slaws_szEndpointS) := by
  intro xs l h1 h2 hln
  have h3 := hln.1
  unfold maxLen at h3
  have hw : IntKind.i64.wrap (l - (xs.length : Int)) = l - xs.length := wrap_id (by omega) (by omega)
  by_cases h : l < (xs.length : Int)
  · have h' : l - (xs.length : Int) < 0 := by omega
    have e2 : szl (sumF szEndpoint xs) l = -1 := by unfold szl sumF; rw [if_pos (by omega)]
    simp -implicitDefEqProofs [hw, h', e2]
  · have h' : ¬ l - (xs.length : Int) < 0 := by omega
    simp -implicitDefEqProofs [hw, h']
    refine swp_loop (fun k s => ∃ j, j + k = xs.length ∧ ((xs.take j).map szEndpoint).sum + xs.length ≤ l ∧ s = ⟨[.sl 1 4 xs.length (xs.flatMap eEndpoint), .sc (.int .i64 (l - xs.length - ((((xs.take j).map szEndpoint).sum : Nat) : Int))), .undef, .sc (.int .i64 j), .undef, .undef, .undef], []⟩) ?_ xs.length _ ⟨0, by simp, by simp; omega, by simp⟩
    intro k s ⟨j, hj, hp, hs⟩
    subst hs
    by_cases hjn : j < xs.length
    · have hw : IntKind.i64.wrap ((j : Int) + 1) = (j + 1 : Nat) := by rw [wrap_id (by omega) (by omega)]; simp
      have ht := sum_take (f := szEndpoint) hjn
      have htl := sum_take_le (f := szEndpoint) (xs := xs) (j := j + 1)
      simp -implicitDefEqProofs [hjn, -List.map_take]
      refine callQ_of (hsz xs[j] _ (by omega) (by omega) (hln.2 j hjn)) ?_
      by_cases he : l - xs.length - ((((xs.take j).map szEndpoint).sum : Nat) : Int) < szEndpoint xs[j]
      · have e1 : szl (szEndpoint xs[j]) (l - xs.length - ((((xs.take j).map szEndpoint).sum : Nat) : Int)) = -1 := by unfold szl; rw [if_pos he]
        have e2 : szl (sumF szEndpoint xs) l = -1 := by unfold szl sumF; rw [if_pos (by omega)]
        simp -implicitDefEqProofs [e1, e2, -List.map_take]
      · have e1 : szl (szEndpoint xs[j]) (l - xs.length - ((((xs.take j).map szEndpoint).sum : Nat) : Int)) = l - xs.length - ((((xs.take j).map szEndpoint).sum : Nat) : Int) - szEndpoint xs[j] := by unfold szl; rw [if_neg he]
        have e3 : ¬ l - xs.length - ((((xs.take j).map szEndpoint).sum : Nat) : Int) - szEndpoint xs[j] < 0 := by omega
        simp -implicitDefEqProofs [e1, e3, -List.map_take]
        refine ⟨k - 1, by omega, j + 1, by omega, by omega, ?_, by simp [hw]⟩
        rw [ht]; omega
    · have hsm := sum_all (f := szEndpoint) (xs := xs) (j := j) (by omega)
      have e2 : szl (sumF szEndpoint xs) l = l - xs.length - ((((xs.take j).map szEndpoint).sum : Nat) : Int) := by unfold szl sumF; rw [if_neg (by omega)]; omega
      simp -implicitDefEqProofs [hjn, e2, -List.map_take]
abbrev toEndpointSS (R : Rel) : Prop := ∀ xs : List Endpoint, sumF szEndpoint xs ≤ 4194304 → R [.sl 1 4 xs.length (xs.flatMap eEndpoint)] [] (.sl 0 4 xs.length (xs.flatMap eEndpoint)) []
theorem toEndpointS_b (D : Dn) (hto : toEndpointS (D 98)) : toEndpointSS (Body D slaws_toEndpointS) := by
  intro xs h
  have hlen := size_len (f := szEndpoint) (xs := xs)
  have h1 : ((xs.length : Nat) : Int) * 80 ≤ 1099511627776 := by omega
  simp -implicitDefEqProofs [h1]
  refine swp_loop (fun k s => ∃ j o1 o2 o3, j + k = xs.length ∧ s = ⟨[.sl 1 4 xs.length (xs.flatMap eEndpoint), .undef, .arr 0, .sc (.int .i64 j), .undef], [.arr 4 0 xs.length ((mix (⟨[], [], [], 0⟩ : Endpoint) xs j).flatMap eEndpoint), o1, o2, o3]⟩) ?_ xs.length _ ⟨0, .free, .free, .free, by simp, by simp [mix_zero]; exact rep_flat (f := eEndpoint) (⟨[], [], [], 0⟩ : Endpoint) _⟩
  intro k s ⟨j, o1, o2, o3, hj, hs⟩
  subst hs
  by_cases hjn : j < xs.length
  · have hw : IntKind.i64.wrap ((j : Int) + 1) = (j + 1 : Nat) := by rw [wrap_id (by omega) (by omega)]; simp
    have hsz := size_at (f := szEndpoint) hjn
    have hfit : j * 4 + 4 ≤ xs.length * 4 := by omega
    have hjl : j ≤ xs.length := by omega
    simp -implicitDefEqProofs [hjn]
    refine callQ_of (hto xs[j] (by omega)) ?_
    simp -implicitDefEqProofs [hjn, hfit, hjl]
    exact ⟨k - 1, by omega, j + 1, by omega, by simp [hw], by rw [← mix_set hjn]⟩
  · have hje : mix (⟨[], [], [], 0⟩ : Endpoint) xs j = xs := mix_all (by omega)
    simp -implicitDefEqProofs [hjn, hje]
abbrev szRolloutS (R : Rel) : Prop := ∀ (x : Rollout) (l : Int), 0 ≤ l → l ≤ 4194304 → lnRollout x → R [arg (eRollout x), I l] [] (I (szl (szRollout x) l)) []
theorem szRollout_b (D : Dn) (hszIntS : szIntSS (D 16)) : szRolloutS (Body D slaws_szRollout) := by
  intro x l hl1 hl2 hln
  simp only [lnRollout] at hln
  simp -implicitDefEqProofs
  refine callQ_of (hszIntS x.stages (l) (by omega) (by omega) hln) ?_
  by_cases g0 : l < ((x.stages.length : Nat) : Int)
  · have gg : l < ((szRollout x : Nat) : Int) := by simp only [szRollout]; omega
    have e1 : szl (x.stages.length) (l) = -1 := by unfold szl; rw [if_pos g0]
    have e2 : szl (szRollout x) l = -1 := by unfold szl; rw [if_pos gg]
    simp -implicitDefEqProofs [e1, e2]
  have e3 : szl (x.stages.length) (l) = l - ((x.stages.length : Nat) : Int) := by unfold szl; rw [if_neg g0]
  have p0 : ¬ l - ((x.stages.length : Nat) : Int) < 0 := by omega
  simp -implicitDefEqProofs [e3, p0]
  have gg : ¬ l < ((szRollout x : Nat) : Int) := by simp only [szRollout]; omega
  unfold szl; rw [if_neg gg]; simp only [szRollout] <;> omega
abbrev toRolloutS (R : Rel) : Prop := ∀ x : Rollout, szRollout x ≤ 4194304 → R [arg (eRollout x)] [] (.agg (eRollout x)) []
theorem toRollout_b (D : Dn) (htoIntS : toIntSS (D 31)) : toRolloutS (Body D slaws_toRollout) := by
  intro x h
  simp only [szRollout] at h
  simp -implicitDefEqProofs
  refine callQ_of (htoIntS x.stages (by omega)) ?_
  simp -implicitDefEqProofs
abbrev eqRolloutS (R : Rel) : Prop := ∀ x y : Rollout, szRollout x ≤ 2 ^ 40 → szRollout y ≤ 2 ^ 40 → R [arg (eRollout x), arg (eRollout y)] [] (B (decide (x = y))) []
theorem eqRollout_b (D : Dn) (heqIntS : eqIntSS (D 47)) : eqRolloutS (Body D slaws_eqRollout) := by
  intro x y h1 h2
  simp only [szRollout] at h1 h2
  by_cases g_version : x.version = y.version
  rotate_left
  · have hne : x ≠ y := fun h => g_version (by rw [h])
    simp -implicitDefEqProofs [g_version, hne]
  simp -implicitDefEqProofs [g_version]
  refine callQ_of (heqIntS x.stages y.stages (by unfold maxLen; omega) (by unfold maxLen; omega)) ?_
  by_cases g_stages : x.stages = y.stages
  rotate_left
  · have hne : x ≠ y := fun h => g_stages (by rw [h])
    simp -implicitDefEqProofs [g_stages, hne]
  simp -implicitDefEqProofs [g_stages]
  by_cases g_pos : x.pos = y.pos
  rotate_left
  · have hne : x ≠ y := fun h => g_pos (by rw [h])
    simp -implicitDefEqProofs [g_pos, hne]
  simp -implicitDefEqProofs [g_pos]
  by_cases g_off : x.off = y.off
  rotate_left
  · have hne : x ≠ y := fun h => g_off (by rw [h])
    simp -implicitDefEqProofs [g_off, hne]
  simp -implicitDefEqProofs [g_off]
  have hxy : x = y := by cases x; cases y; simp_all
  simp -implicitDefEqProofs [hxy]
end Go.Eng.T

namespace Go.Eng.T
abbrev szDealS (R : Rel) : Prop := ∀ (x : Deal) (l : Int), 0 ≤ l → l ≤ 4194304 → lnDeal x → R [arg (eDeal x), I l] [] (I (szl (szDeal x) l)) []
theorem szDeal_b (D : Dn) (hszIntS : szIntSS (D 16)) : szDealS (Body D slaws_szDeal) := by
  intro x l hl1 hl2 hln
  simp only [lnDeal] at hln
  simp -implicitDefEqProofs
  refine callQ_of (hszIntS x.tags (l) (by omega) (by omega) hln) ?_
  by_cases g0 : l < ((x.tags.length : Nat) : Int)
  · have gg : l < ((szDeal x : Nat) : Int) := by simp only [szDeal]; omega
    have e1 : szl (x.tags.length) (l) = -1 := by unfold szl; rw [if_pos g0]
    have e2 : szl (szDeal x) l = -1 := by unfold szl; rw [if_pos gg]
    simp -implicitDefEqProofs [e1, e2]
  have e3 : szl (x.tags.length) (l) = l - ((x.tags.length : Nat) : Int) := by unfold szl; rw [if_neg g0]
  have p0 : ¬ l - ((x.tags.length : Nat) : Int) < 0 := by omega
  simp -implicitDefEqProofs [e3, p0]
  have gg : ¬ l < ((szDeal x : Nat) : Int) := by simp only [szDeal]; omega
  unfold szl; rw [if_neg gg]; simp only [szDeal] <;> omega
abbrev toDealS (R : Rel) : Prop := ∀ x : Deal, szDeal x ≤ 4194304 → R [arg (eDeal x)] [] (.agg (eDeal x)) []
theorem toDeal_b (D : Dn) (htoIntS : toIntSS (D 31)) : toDealS (Body D slaws_toDeal) := by
  intro x h
  simp only [szDeal] at h
  simp -implicitDefEqProofs
  refine callQ_of (htoIntS x.tags (by omega)) ?_
  simp -implicitDefEqProofs
abbrev eqDealS (R : Rel) : Prop := ∀ x y : Deal, szDeal x ≤ 2 ^ 40 → szDeal y ≤ 2 ^ 40 → R [arg (eDeal x), arg (eDeal y)] [] (B (decide (x = y))) []
theorem eqDeal_b (D : Dn) (heqIntS : eqIntSS (D 47)) : eqDealS (Body D slaws_eqDeal) := by
  intro x y h1 h2
  simp only [szDeal] at h1 h2
  by_cases g_ok : x.ok = y.ok
  rotate_left
  · have hne : x ≠ y := fun h => g_ok (by rw [h])
    simp -implicitDefEqProofs [g_ok, hne]
  simp -implicitDefEqProofs [g_ok]
  by_cases g_version : x.version = y.version
  rotate_left
  · have hne : x ≠ y := fun h => g_version (by rw [h])
    simp -implicitDefEqProofs [g_version, hne]
  simp -implicitDefEqProofs [g_version]
  refine callQ_of (heqIntS x.tags y.tags (by unfold maxLen; omega) (by unfold maxLen; omega)) ?_
  by_cases g_tags : x.tags = y.tags
  rotate_left
  · have hne : x ≠ y := fun h => g_tags (by rw [h])
    simp -implicitDefEqProofs [g_tags, hne]
  simp -implicitDefEqProofs [g_tags]
  have hxy : x = y := by cases x; cases y; simp_all
  simp -implicitDefEqProofs [hxy]
abbrev szDialedS (R : Rel) : Prop := ∀ (x : Dialed) (l : Int), 0 ≤ l → l ≤ 4194304 → lnDialed x → R [arg (eDialed x), I l] [] (I (szl (szDialed x) l)) []
theorem szDialed_b (D : Dn) (hszDeal : szDealS (D 140)) (hszIntS : szIntSS (D 16)) : szDialedS (Body D slaws_szDialed) := by
  intro x l hl1 hl2 hln
  simp only [lnDialed] at hln
  simp -implicitDefEqProofs
  refine callQ_of (hszDeal x.deal (l) (by omega) (by omega) hln.1) ?_
  by_cases g0 : l < ((szDeal x.deal : Nat) : Int)
  · have gg : l < ((szDialed x : Nat) : Int) := by simp only [szDialed]; omega
    have e1 : szl (szDeal x.deal) (l) = -1 := by unfold szl; rw [if_pos g0]
    have e2 : szl (szDialed x) l = -1 := by unfold szl; rw [if_pos gg]
    simp -implicitDefEqProofs [e1, e2]
  have e3 : szl (szDeal x.deal) (l) = l - ((szDeal x.deal : Nat) : Int) := by unfold szl; rw [if_neg g0]
  have p0 : ¬ l - ((szDeal x.deal : Nat) : Int) < 0 := by omega
  simp -implicitDefEqProofs [e3, p0]
  refine callQ_of (hszIntS x.up (l - ((szDeal x.deal : Nat) : Int)) (by omega) (by omega) hln.2) ?_
  by_cases g1 : l - ((szDeal x.deal : Nat) : Int) < ((x.up.length : Nat) : Int)
  · have gg : l < ((szDialed x : Nat) : Int) := by simp only [szDialed]; omega
    have e1 : szl (x.up.length) (l - ((szDeal x.deal : Nat) : Int)) = -1 := by unfold szl; rw [if_pos g1]
    have e2 : szl (szDialed x) l = -1 := by unfold szl; rw [if_pos gg]
    simp -implicitDefEqProofs [e1, e2]
  have e4 : szl (x.up.length) (l - ((szDeal x.deal : Nat) : Int)) = l - ((szDeal x.deal : Nat) : Int) - ((x.up.length : Nat) : Int) := by unfold szl; rw [if_neg g1]
  have p1 : ¬ l - ((szDeal x.deal : Nat) : Int) - ((x.up.length : Nat) : Int) < 0 := by omega
  simp -implicitDefEqProofs [e4, p1]
  have gg : ¬ l < ((szDialed x : Nat) : Int) := by simp only [szDialed]; omega
  unfold szl; rw [if_neg gg]; simp only [szDialed] <;> omega
abbrev toDialedS (R : Rel) : Prop := ∀ x : Dialed, szDialed x ≤ 4194304 → R [arg (eDialed x)] [] (.agg (eDialed x)) []
theorem toDialed_b (D : Dn) (htoDeal : toDealS (D 171)) (htoIntS : toIntSS (D 31)) : toDialedS (Body D slaws_toDialed) := by
  intro x h
  simp only [szDialed] at h
  simp -implicitDefEqProofs
  refine callQ_of (htoDeal x.deal (by omega)) ?_
  simp -implicitDefEqProofs
  refine callQ_of (htoIntS x.up (by omega)) ?_
  simp -implicitDefEqProofs
abbrev eqDialedS (R : Rel) : Prop := ∀ x y : Dialed, szDialed x ≤ 2 ^ 40 → szDialed y ≤ 2 ^ 40 → R [arg (eDialed x), arg (eDialed y)] [] (B (decide (x = y))) []
theorem eqDialed_b (D : Dn) (heqDeal : eqDealS (D 205)) (heqIntS : eqIntSS (D 47)) : eqDialedS (Body D slaws_eqDialed) := by
  intro x y h1 h2
  simp only [szDialed] at h1 h2
  simp -implicitDefEqProofs
  refine callQ_of (heqDeal x.deal y.deal (by omega) (by omega)) ?_
  by_cases g_deal : x.deal = y.deal
  rotate_left
  · have hne : x ≠ y := fun h => g_deal (by rw [h])
    simp -implicitDefEqProofs [g_deal, hne]
  simp -implicitDefEqProofs [g_deal]
  by_cases g_tries : x.tries = y.tries
  rotate_left
  · have hne : x ≠ y := fun h => g_tries (by rw [h])
    simp -implicitDefEqProofs [g_tries, hne]
  simp -implicitDefEqProofs [g_tries]
  refine callQ_of (heqIntS x.up y.up (by unfold maxLen; omega) (by unfold maxLen; omega)) ?_
  by_cases g_up : x.up = y.up
  rotate_left
  · have hne : x ≠ y := fun h => g_up (by rw [h])
    simp -implicitDefEqProofs [g_up, hne]
  simp -implicitDefEqProofs [g_up]
  have hxy : x = y := by cases x; cases y; simp_all
  simp -implicitDefEqProofs [hxy]
end Go.Eng.T

namespace Go.Eng.T
abbrev szDialedSS (R : Rel) : Prop := ∀ (xs : List Dialed) (l : Int), 0 ≤ l → l ≤ 4194304 → lnS lnDialed xs → R [.sl 1 5 xs.length (xs.flatMap eDialed), I l] [] (I (szl (sumF szDialed xs) l)) []
theorem szDialedS_b (D : Dn) (hsz : szDialedS (D 63)) : szDialedSS (Body D slaws_szDialedS) := by
  intro xs l h1 h2 hln
  have h3 := hln.1
  unfold maxLen at h3
  have hw : IntKind.i64.wrap (l - (xs.length : Int)) = l - xs.length := wrap_id (by omega) (by omega)
  by_cases h : l < (xs.length : Int)
  · have h' : l - (xs.length : Int) < 0 := by omega
    have e2 : szl (sumF szDialed xs) l = -1 := by unfold szl sumF; rw [if_pos (by omega)]
    simp -implicitDefEqProofs [hw, h', e2]
  · have h' : ¬ l - (xs.length : Int) < 0 := by omega
    simp -implicitDefEqProofs [hw, h']
    refine swp_loop (fun k s => ∃ j, j + k = xs.length ∧ ((xs.take j).map szDialed).sum + xs.length ≤ l ∧ s = ⟨[.sl 1 5 xs.length (xs.flatMap eDialed), .sc (.int .i64 (l - xs.length - ((((xs.take j).map szDialed).sum : Nat) : Int))), .undef, .sc (.int .i64 j), .undef, .undef, .undef], []⟩) ?_ xs.length _ ⟨0, by simp, by simp; omega, by simp⟩
    intro k s ⟨j, hj, hp, hs⟩
    subst hs
    by_cases hjn : j < xs.length
    · have hw : IntKind.i64.wrap ((j : Int) + 1) = (j + 1 : Nat) := by rw [wrap_id (by omega) (by omega)]; simp
      have ht := sum_take (f := szDialed) hjn
      have htl := sum_take_le (f := szDialed) (xs := xs) (j := j + 1)
      simp -implicitDefEqProofs [hjn, -List.map_take]
      refine callQ_of (hsz xs[j] _ (by omega) (by omega) (hln.2 j hjn)) ?_
      by_cases he : l - xs.length - ((((xs.take j).map szDialed).sum : Nat) : Int) < szDialed xs[j]
      · have e1 : szl (szDialed xs[j]) (l - xs.length - ((((xs.take j).map szDialed).sum : Nat) : Int)) = -1 := by unfold szl; rw [if_pos he]
        have e2 : szl (sumF szDialed xs) l = -1 := by unfold szl sumF; rw [if_pos (by omega)]
        simp -implicitDefEqProofs [e1, e2, -List.map_take]
      · have e1 : szl (szDialed xs[j]) (l - xs.length - ((((xs.take j).map szDialed).sum : Nat) : Int)) = l - xs.length - ((((xs.take j).map szDialed).sum : Nat) : Int) - szDialed xs[j] := by unfold szl; rw [if_neg he]
        have e3 : ¬ l - xs.length - ((((xs.take j).map szDialed).sum : Nat) : Int) - szDialed xs[j] < 0 := by omega
        simp -implicitDefEqProofs [e1, e3, -List.map_take]
        refine ⟨k - 1, by omega, j + 1, by omega, by omega, ?_, by simp [hw]⟩
        rw [ht]; omega
    · have hsm := sum_all (f := szDialed) (xs := xs) (j := j) (by omega)
      have e2 : szl (sumF szDialed xs) l = l - xs.length - ((((xs.take j).map szDialed).sum : Nat) : Int) := by unfold szl sumF; rw [if_neg (by omega)]; omega
      simp -implicitDefEqProofs [hjn, e2, -List.map_take]
abbrev toDialedSS (R : Rel) : Prop := ∀ xs : List Dialed, sumF szDialed xs ≤ 4194304 → R [.sl 1 5 xs.length (xs.flatMap eDialed)] [] (.sl 0 5 xs.length (xs.flatMap eDialed)) []
theorem toDialedS_b (D : Dn) (hto : toDialedS (D 99)) : toDialedSS (Body D slaws_toDialedS) := by
  intro xs h
  have hlen := size_len (f := szDialed) (xs := xs)
  have h1 : ((xs.length : Nat) : Int) * 72 ≤ 1099511627776 := by omega
  simp -implicitDefEqProofs [h1]
  refine swp_loop (fun k s => ∃ j o1 o2, j + k = xs.length ∧ s = ⟨[.sl 1 5 xs.length (xs.flatMap eDialed), .undef, .arr 0, .sc (.int .i64 j), .undef], [.arr 5 0 xs.length ((mix (⟨⟨false, 0, []⟩, 0, []⟩ : Dialed) xs j).flatMap eDialed), o1, o2]⟩) ?_ xs.length _ ⟨0, .free, .free, by simp, by simp [mix_zero]; exact rep_flat (f := eDialed) (⟨⟨false, 0, []⟩, 0, []⟩ : Dialed) _⟩
  intro k s ⟨j, o1, o2, hj, hs⟩
  subst hs
  by_cases hjn : j < xs.length
  · have hw : IntKind.i64.wrap ((j : Int) + 1) = (j + 1 : Nat) := by rw [wrap_id (by omega) (by omega)]; simp
    have hsz := size_at (f := szDialed) hjn
    have hfit : j * 5 + 5 ≤ xs.length * 5 := by omega
    have hjl : j ≤ xs.length := by omega
    simp -implicitDefEqProofs [hjn]
    refine callQ_of (hto xs[j] (by omega)) ?_
    simp -implicitDefEqProofs [hjn, hfit, hjl]
    exact ⟨k - 1, by omega, j + 1, by omega, by simp [hw], by rw [← mix_set hjn]⟩
  · have hje : mix (⟨⟨false, 0, []⟩, 0, []⟩ : Dialed) xs j = xs := mix_all (by omega)
    simp -implicitDefEqProofs [hjn, hje]
abbrev eqDialedSS (R : Rel) : Prop := ∀ xs ys : List Dialed, sumF szDialed xs ≤ 2 ^ 40 → sumF szDialed ys ≤ 2 ^ 40 → R [.sl 1 5 xs.length (xs.flatMap eDialed), .sl 1 5 ys.length (ys.flatMap eDialed)] [] (B (decide (xs = ys))) []
theorem eqDialedS_b (D : Dn) (heq : eqDialedS (D 135)) : eqDialedSS (Body D slaws_eqDialedS) := by
  intro xs ys h1 h2
  have hlen := size_len (f := szDialed) (xs := xs)
  by_cases hl : xs.length = ys.length
  · have hl' : (xs.length : Int) = ys.length := by omega
    simp -implicitDefEqProofs [hl']
    refine swp_loop (fun k s => ∃ j, j + k = xs.length ∧ xs.take j = ys.take j ∧ s = ⟨[.sl 1 5 xs.length (xs.flatMap eDialed), .sl 1 5 ys.length (ys.flatMap eDialed), .undef, .sc (.int .i64 j), .undef, .undef, .undef], []⟩) ?_ xs.length _ ⟨0, by simp, by simp, by simp⟩
    intro k s ⟨j, hj, hp, hs⟩
    subst hs
    by_cases hjn : j < xs.length
    · have hw : IntKind.i64.wrap ((j : Int) + 1) = (j + 1 : Nat) := by rw [wrap_id (by omega) (by omega)]; simp
      have hy : j < ys.length := by omega
      have hsx := size_at (f := szDialed) hjn
      have hsy := size_at (f := szDialed) hy
      simp -implicitDefEqProofs [hjn, hy]
      refine callQ_of (heq xs[j] ys[j] (by omega) (by omega)) ?_
      by_cases he : xs[j] = ys[j]
      · simp -implicitDefEqProofs [he]
        exact ⟨k - 1, by omega, j + 1, by omega, take_step hjn hy hp he, by simp [hw]⟩
      · have hne : xs ≠ ys := fun h => he (by simp [h])
        simp -implicitDefEqProofs [he, hne]
    · obtain rfl : xs = ys := take_all (by omega) hl hp
      simp -implicitDefEqProofs [hjn]
  · have hl' : ¬ (xs.length : Int) = ys.length := by omega
    have : xs ≠ ys := fun h => hl (by rw [h])
    simp -implicitDefEqProofs [hl', this]
abbrev szLoggedS (R : Rel) : Prop := ∀ (x : Logged) (l : Int), 0 ≤ l → l ≤ 4194304 → lnLogged x → R [arg (eLogged x), I l] [] (I (szl (szLogged x) l)) []
theorem szLogged_b (D : Dn) (hszDialed : szDialedS (D 63)) : szLoggedS (Body D slaws_szLogged) := by
  intro x l hl1 hl2 hln
  simp only [lnLogged] at hln
  simp -implicitDefEqProofs
  refine callQ_of (hszDialed x.dialed (l) (by omega) (by omega) hln) ?_
  by_cases g0 : l < ((szDialed x.dialed : Nat) : Int)
  · have gg : l < ((szLogged x : Nat) : Int) := by simp only [szLogged]; omega
    have e1 : szl (szDialed x.dialed) (l) = -1 := by unfold szl; rw [if_pos g0]
    have e2 : szl (szLogged x) l = -1 := by unfold szl; rw [if_pos gg]
    simp -implicitDefEqProofs [e1, e2]
  have e3 : szl (szDialed x.dialed) (l) = l - ((szDialed x.dialed : Nat) : Int) := by unfold szl; rw [if_neg g0]
  have p0 : ¬ l - ((szDialed x.dialed : Nat) : Int) < 0 := by omega
  simp -implicitDefEqProofs [e3, p0]
  have gg : ¬ l < ((szLogged x : Nat) : Int) := by simp only [szLogged]; omega
  unfold szl; rw [if_neg gg]; simp only [szLogged] <;> omega
abbrev toLoggedS (R : Rel) : Prop := ∀ x : Logged, szLogged x ≤ 4194304 → R [arg (eLogged x)] [] (.agg (eLogged x)) []
theorem toLogged_b (D : Dn) (htoDialed : toDialedS (D 99)) : toLoggedS (Body D slaws_toLogged) := by
  intro x h
  simp only [szLogged] at h
  simp -implicitDefEqProofs
  refine callQ_of (htoDialed x.dialed (by omega)) ?_
  simp -implicitDefEqProofs
abbrev eqLoggedS (R : Rel) : Prop := ∀ x y : Logged, szLogged x ≤ 2 ^ 40 → szLogged y ≤ 2 ^ 40 → R [arg (eLogged x), arg (eLogged y)] [] (B (decide (x = y))) []
theorem eqLogged_b (D : Dn) (heqDialed : eqDialedS (D 135)) : eqLoggedS (Body D slaws_eqLogged) := by
  intro x y h1 h2
  simp only [szLogged] at h1 h2
  by_cases g_fin : x.fin = y.fin
  rotate_left
  · have hne : x ≠ y := fun h => g_fin (by rw [h])
    simp -implicitDefEqProofs [g_fin, hne]
  simp -implicitDefEqProofs [g_fin]
  by_cases g_tick : x.tick = y.tick
  rotate_left
  · have hne : x ≠ y := fun h => g_tick (by rw [h])
    simp -implicitDefEqProofs [g_tick, hne]
  simp -implicitDefEqProofs [g_tick]
  by_cases g_on : x.on = y.on
  rotate_left
  · have hne : x ≠ y := fun h => g_on (by rw [h])
    simp -implicitDefEqProofs [g_on, hne]
  simp -implicitDefEqProofs [g_on]
  refine callQ_of (heqDialed x.dialed y.dialed (by omega) (by omega)) ?_
  by_cases g_dialed : x.dialed = y.dialed
  rotate_left
  · have hne : x ≠ y := fun h => g_dialed (by rw [h])
    simp -implicitDefEqProofs [g_dialed, hne]
  simp -implicitDefEqProofs [g_dialed]
  have hxy : x = y := by cases x; cases y; simp_all
  simp -implicitDefEqProofs [hxy]
abbrev szLoggedSS (R : Rel) : Prop := ∀ (xs : List Logged) (l : Int), 0 ≤ l → l ≤ 4194304 → lnS lnLogged xs → R [.sl 1 8 xs.length (xs.flatMap eLogged), I l] [] (I (szl (sumF szLogged xs) l)) []
theorem szLoggedS_b (D : Dn) (hsz : szLoggedS (D 64)) : szLoggedSS (Body D slaws_szLoggedS) := by
  intro xs l h1 h2 hln
  have h3 := hln.1
  unfold maxLen at h3
  have hw : IntKind.i64.wrap (l - (xs.length : Int)) = l - xs.length := wrap_id (by omega) (by omega)
  by_cases h : l < (xs.length : Int)
  · have h' : l - (xs.length : Int) < 0 := by omega
    have e2 : szl (sumF szLogged xs) l = -1 := by unfold szl sumF; rw [if_pos (by omega)]
    simp -implicitDefEqProofs [hw, h', e2]
  · have h' : ¬ l - (xs.length : Int) < 0 := by omega
    simp -implicitDefEqProofs [hw, h']
    refine swp_loop (fun k s => ∃ j, j + k = xs.length ∧ ((xs.take j).map szLogged).sum + xs.length ≤ l ∧ s = ⟨[.sl 1 8 xs.length (xs.flatMap eLogged), .sc (.int .i64 (l - xs.length - ((((xs.take j).map szLogged).sum : Nat) : Int))), .undef, .sc (.int .i64 j), .undef, .undef, .undef], []⟩) ?_ xs.length _ ⟨0, by simp, by simp; omega, by simp⟩
    intro k s ⟨j, hj, hp, hs⟩
    subst hs
    by_cases hjn : j < xs.length
    · have hw : IntKind.i64.wrap ((j : Int) + 1) = (j + 1 : Nat) := by rw [wrap_id (by omega) (by omega)]; simp
      have ht := sum_take (f := szLogged) hjn
      have htl := sum_take_le (f := szLogged) (xs := xs) (j := j + 1)
      simp -implicitDefEqProofs [hjn, -List.map_take]
      refine callQ_of (hsz xs[j] _ (by omega) (by omega) (hln.2 j hjn)) ?_
      by_cases he : l - xs.length - ((((xs.take j).map szLogged).sum : Nat) : Int) < szLogged xs[j]
      · have e1 : szl (szLogged xs[j]) (l - xs.length - ((((xs.take j).map szLogged).sum : Nat) : Int)) = -1 := by unfold szl; rw [if_pos he]
        have e2 : szl (sumF szLogged xs) l = -1 := by unfold szl sumF; rw [if_pos (by omega)]
        simp -implicitDefEqProofs [e1, e2, -List.map_take]
      · have e1 : szl (szLogged xs[j]) (l - xs.length - ((((xs.take j).map szLogged).sum : Nat) : Int)) = l - xs.length - ((((xs.take j).map szLogged).sum : Nat) : Int) - szLogged xs[j] := by unfold szl; rw [if_neg he]
        have e3 : ¬ l - xs.length - ((((xs.take j).map szLogged).sum : Nat) : Int) - szLogged xs[j] < 0 := by omega
        simp -implicitDefEqProofs [e1, e3, -List.map_take]
        refine ⟨k - 1, by omega, j + 1, by omega, by omega, ?_, by simp [hw]⟩
        rw [ht]; omega
    · have hsm := sum_all (f := szLogged) (xs := xs) (j := j) (by omega)
      have e2 : szl (sumF szLogged xs) l = l - xs.length - ((((xs.take j).map szLogged).sum : Nat) : Int) := by unfold szl sumF; rw [if_neg (by omega)]; omega
      simp -implicitDefEqProofs [hjn, e2, -List.map_take]
abbrev toLoggedSS (R : Rel) : Prop := ∀ xs : List Logged, sumF szLogged xs ≤ 4194304 → R [.sl 1 8 xs.length (xs.flatMap eLogged)] [] (.sl 0 8 xs.length (xs.flatMap eLogged)) []
theorem toLoggedS_b (D : Dn) (hto : toLoggedS (D 100)) : toLoggedSS (Body D slaws_toLoggedS) := by
  intro xs h
  have hlen := size_len (f := szLogged) (xs := xs)
  have h1 : ((xs.length : Nat) : Int) * 96 ≤ 1099511627776 := by omega
  simp -implicitDefEqProofs [h1]
  refine swp_loop (fun k s => ∃ j o1 o2, j + k = xs.length ∧ s = ⟨[.sl 1 8 xs.length (xs.flatMap eLogged), .undef, .arr 0, .sc (.int .i64 j), .undef], [.arr 8 0 xs.length ((mix (⟨0, 0, false, ⟨⟨false, 0, []⟩, 0, []⟩⟩ : Logged) xs j).flatMap eLogged), o1, o2]⟩) ?_ xs.length _ ⟨0, .free, .free, by simp, by simp [mix_zero]; exact rep_flat (f := eLogged) (⟨0, 0, false, ⟨⟨false, 0, []⟩, 0, []⟩⟩ : Logged) _⟩
  intro k s ⟨j, o1, o2, hj, hs⟩
  subst hs
  by_cases hjn : j < xs.length
  · have hw : IntKind.i64.wrap ((j : Int) + 1) = (j + 1 : Nat) := by rw [wrap_id (by omega) (by omega)]; simp
    have hsz := size_at (f := szLogged) hjn
    have hfit : j * 8 + 8 ≤ xs.length * 8 := by omega
    have hjl : j ≤ xs.length := by omega
    simp -implicitDefEqProofs [hjn]
    refine callQ_of (hto xs[j] (by omega)) ?_
    simp -implicitDefEqProofs [hjn, hfit, hjl]
    exact ⟨k - 1, by omega, j + 1, by omega, by simp [hw], by rw [← mix_set hjn]⟩
  · have hje : mix (⟨0, 0, false, ⟨⟨false, 0, []⟩, 0, []⟩⟩ : Logged) xs j = xs := mix_all (by omega)
    simp -implicitDefEqProofs [hjn, hje]
abbrev eqLoggedSS (R : Rel) : Prop := ∀ xs ys : List Logged, sumF szLogged xs ≤ 2 ^ 40 → sumF szLogged ys ≤ 2 ^ 40 → R [.sl 1 8 xs.length (xs.flatMap eLogged), .sl 1 8 ys.length (ys.flatMap eLogged)] [] (B (decide (xs = ys))) []
theorem eqLoggedS_b (D : Dn) (heq : eqLoggedS (D 136)) : eqLoggedSS (Body D slaws_eqLoggedS) := by
  intro xs ys h1 h2
  have hlen := size_len (f := szLogged) (xs := xs)
  by_cases hl : xs.length = ys.length
  · have hl' : (xs.length : Int) = ys.length := by omega
    simp -implicitDefEqProofs [hl']
    refine swp_loop (fun k s => ∃ j, j + k = xs.length ∧ xs.take j = ys.take j ∧ s = ⟨[.sl 1 8 xs.length (xs.flatMap eLogged), .sl 1 8 ys.length (ys.flatMap eLogged), .undef, .sc (.int .i64 j), .undef, .undef, .undef], []⟩) ?_ xs.length _ ⟨0, by simp, by simp, by simp⟩
    intro k s ⟨j, hj, hp, hs⟩
    subst hs
    by_cases hjn : j < xs.length
    · have hw : IntKind.i64.wrap ((j : Int) + 1) = (j + 1 : Nat) := by rw [wrap_id (by omega) (by omega)]; simp
      have hy : j < ys.length := by omega
      have hsx := size_at (f := szLogged) hjn
      have hsy := size_at (f := szLogged) hy
      simp -implicitDefEqProofs [hjn, hy]
      refine callQ_of (heq xs[j] ys[j] (by omega) (by omega)) ?_
      by_cases he : xs[j] = ys[j]
      · simp -implicitDefEqProofs [he]
        exact ⟨k - 1, by omega, j + 1, by omega, take_step hjn hy hp he, by simp [hw]⟩
      · have hne : xs ≠ ys := fun h => he (by simp [h])
        simp -implicitDefEqProofs [he, hne]
    · obtain rfl : xs = ys := take_all (by omega) hl hp
      simp -implicitDefEqProofs [hjn]
  · have hl' : ¬ (xs.length : Int) = ys.length := by omega
    have : xs ≠ ys := fun h => hl (by rw [h])
    simp -implicitDefEqProofs [hl', this]
end Go.Eng.T

namespace Go.Eng.T

/-- the numbers from k on -/
def nums : Nat → Int → List Int
  | 0, _ => []
  | n + 1, k => k :: nums n (k + 1)
@[simp] theorem nums_len : ∀ (n : Nat) (k : Int), (nums n k).length = n
  | 0, _ => rfl
  | n + 1, k => by simp [nums, nums_len n]
theorem nums_get : ∀ (n : Nat) (k : Int) (j : Nat) (h : j < (nums n k).length), (nums n k)[j] = k + j
  | 0, k, j, h => by simp [nums] at h
  | n + 1, k, 0, h => by simp [nums]
  | n + 1, k, j + 1, h => by
    simp only [nums, List.getElem_cons_succ]
    rw [nums_get n (k + 1) j (by simpa [nums] using h)]
    simp; omega

/-- a row marked element by element -/
def mkL {α : Type} (mc : α → Nat) (mk : α → Int → α) : List α → Int → List α
  | [], _ => []
  | x :: r, k => mk x k :: mkL mc mk r (k + mc x)
def mcL {α : Type} (mc : α → Nat) (xs : List α) : Nat := (xs.map mc).sum
section
variable {α : Type} {mc : α → Nat} {mk : α → Int → α}
@[simp] theorem mkL_len : ∀ (xs : List α) (k : Int), (mkL mc mk xs k).length = xs.length
  | [], _ => rfl
  | x :: r, k => by simp [mkL, mkL_len r]
theorem mkL_get : ∀ (xs : List α) (k : Int) (j : Nat) (h : j < xs.length), (mkL mc mk xs k)[j]'(by simpa using h) = mk xs[j] (k + (mcL mc (xs.take j) : Nat))
  | [], k, j, h => by simp at h
  | x :: r, k, 0, h => by simp [mkL, mcL]
  | x :: r, k, j + 1, h => by
    simp only [mkL, List.getElem_cons_succ]
    rw [mkL_get r (k + mc x) j (by simpa using h)]
    simp [mcL]; congr 1; omega
theorem mkL_append (ys : List α) : ∀ (xs : List α) (k : Int), mkL mc mk (xs ++ ys) k = mkL mc mk xs k ++ mkL mc mk ys (k + (mcL mc xs : Nat))
  | [], k => by simp [mkL, mcL]
  | x :: r, k => by
    simp only [List.cons_append, mkL, mkL_append ys r]
    simp [mcL]; congr 1; omega
/-- under way -/
def mkJ (mc : α → Nat) (mk : α → Int → α) (xs : List α) (k : Int) (j : Nat) : List α := mkL mc mk (xs.take j) k ++ xs.drop j
theorem mkJ_zero {xs : List α} {k : Int} : mkJ mc mk xs k 0 = xs := by simp [mkJ, mkL]
theorem mkJ_all {xs : List α} {k : Int} {j : Nat} (h : xs.length ≤ j) : mkJ mc mk xs k j = mkL mc mk xs k := by simp [mkJ, List.take_of_length_le h, List.drop_eq_nil_of_le h]
@[simp] theorem mkJ_len {xs : List α} {k : Int} {j : Nat} (h : j ≤ xs.length) : (mkJ mc mk xs k j).length = xs.length := by simp [mkJ]; omega
theorem mkJ_get {xs : List α} {k : Int} {j : Nat} (h : j < xs.length) : (mkJ mc mk xs k j)[j]'(by rw [mkJ_len (by omega)]; exact h) = xs[j] := by
  unfold mkJ
  have hl : (mkL mc mk (xs.take j) k).length = j := by simp; omega
  rw [List.getElem_append_right (by omega)]
  simp [hl]
theorem mkJ_set {xs : List α} {k : Int} {j : Nat} (h : j < xs.length) : (mkJ mc mk xs k j).set j (mk xs[j] (k + (mcL mc (xs.take j) : Nat))) = mkJ mc mk xs k (j + 1) := by
  unfold mkJ
  have hl : (mkL mc mk (xs.take j) k).length = j := by simp; omega
  have ht : xs.take (j + 1) = xs.take j ++ [xs[j]] := by simp
  rw [List.set_append_right _ _ (by omega), hl, Nat.sub_self, ht, mkL_append, List.drop_eq_getElem_cons h, List.set_cons_zero, List.append_assoc]
  rfl
theorem mcL_step {xs : List α} {j : Nat} (h : j < xs.length) : mcL mc (xs.take (j + 1)) = mcL mc (xs.take j) + mc xs[j] := sum_take h
theorem mcL_le {xs : List α} {j : Nat} : mcL mc (xs.take j) ≤ mcL mc xs := sum_take_le
theorem mcL_all {xs : List α} {j : Nat} (h : xs.length ≤ j) : mcL mc (xs.take j) = mcL mc xs := sum_all h
theorem mcL_ge (h : ∀ x, 1 ≤ mc x) (xs : List α) : xs.length ≤ mcL mc xs := by
  induction xs with
  | nil => simp
  | cons x r ih =>
    have := h x
    simp [mcL] at *
    omega
end
theorem set_flat {α : Type} {f : α → List V} {e : Nat} (hf : ∀ x, (f x).length = e) {o : Nat} (ho : o < e) {v : V} {y : α} : ∀ {xs : List α} {j : Nat} (h : j < xs.length), f y = (f xs[j]).set o v → (xs.flatMap f).set (j * e + o) v = (xs.set j y).flatMap f
  | [], j, h, _ => by simp at h
  | x :: xs, 0, _, hy => by
    simp only [List.flatMap_cons, List.set_cons_zero, Nat.zero_mul, Nat.zero_add]
    rw [List.set_append_left _ _ (by rw [hf]; exact ho), hy]
    rfl
  | x :: xs, j + 1, h, hy => by
    simp only [List.flatMap_cons, List.set_cons_succ]
    have e1 : (j + 1) * e + o = (f x).length + (j * e + o) := by rw [hf, Nat.add_mul]; omega
    rw [e1, List.set_append_right _ _ (by omega), Nat.add_sub_cancel_left, set_flat hf ho (by simpa using h) (by simpa using hy)]
@[simp high] theorem eBox_s0 {xs : List Box} {j : Nat} (h : j < xs.length) (a : Int) : (xs.flatMap eBox).set (j * 4) (.sc (.int .i64 a)) = (xs.set j ⟨a, xs[j].drops, xs[j].strips, xs[j].lists⟩).flatMap eBox := set_flat (o := 0) eBox_len (by omega) h rfl
@[simp high] theorem eBox_s1 {xs : List Box} {j : Nat} (h : j < xs.length) {n : Nat} (a : List Int) (hn : n = a.length) : (xs.flatMap eBox).set (j * 4 + 1) (.sl 0 1 n (ints a)) = (xs.set j ⟨xs[j].limit, a, xs[j].strips, xs[j].lists⟩).flatMap eBox := by subst hn; exact set_flat (o := 1) eBox_len (by omega) h rfl
@[simp high] theorem eBox_s2 {xs : List Box} {j : Nat} (h : j < xs.length) {n : Nat} (a : List Int) (hn : n = a.length) : (xs.flatMap eBox).set (j * 4 + 2) (.sl 0 1 n (ints a)) = (xs.set j ⟨xs[j].limit, xs[j].drops, a, xs[j].lists⟩).flatMap eBox := by subst hn; exact set_flat (o := 2) eBox_len (by omega) h rfl
@[simp high] theorem eBox_s3 {xs : List Box} {j : Nat} (h : j < xs.length) (a : Bool) : (xs.flatMap eBox).set (j * 4 + 3) (.sc (.bool a)) = (xs.set j ⟨xs[j].limit, xs[j].drops, xs[j].strips, a⟩).flatMap eBox := set_flat (o := 3) eBox_len (by omega) h rfl
@[simp high] theorem eDialed_s0 {xs : List Dialed} {j : Nat} (h : j < xs.length) (a : Bool) : (xs.flatMap eDialed).set (j * 5) (.sc (.bool a)) = (xs.set j ⟨⟨a, xs[j].deal.version, xs[j].deal.tags⟩, xs[j].tries, xs[j].up⟩).flatMap eDialed := set_flat (o := 0) eDialed_len (by omega) h rfl
@[simp high] theorem eDialed_s1 {xs : List Dialed} {j : Nat} (h : j < xs.length) (a : Int) : (xs.flatMap eDialed).set (j * 5 + 1) (.sc (.int .i64 a)) = (xs.set j ⟨⟨xs[j].deal.ok, a, xs[j].deal.tags⟩, xs[j].tries, xs[j].up⟩).flatMap eDialed := set_flat (o := 1) eDialed_len (by omega) h rfl
@[simp high] theorem eDialed_s2 {xs : List Dialed} {j : Nat} (h : j < xs.length) {n : Nat} (a : List Int) (hn : n = a.length) : (xs.flatMap eDialed).set (j * 5 + 2) (.sl 0 1 n (ints a)) = (xs.set j ⟨⟨xs[j].deal.ok, xs[j].deal.version, a⟩, xs[j].tries, xs[j].up⟩).flatMap eDialed := by subst hn; exact set_flat (o := 2) eDialed_len (by omega) h rfl
@[simp high] theorem eDialed_s3 {xs : List Dialed} {j : Nat} (h : j < xs.length) (a : Int) : (xs.flatMap eDialed).set (j * 5 + 3) (.sc (.int .i64 a)) = (xs.set j ⟨⟨xs[j].deal.ok, xs[j].deal.version, xs[j].deal.tags⟩, a, xs[j].up⟩).flatMap eDialed := set_flat (o := 3) eDialed_len (by omega) h rfl
@[simp high] theorem eDialed_s4 {xs : List Dialed} {j : Nat} (h : j < xs.length) {n : Nat} (a : List Int) (hn : n = a.length) : (xs.flatMap eDialed).set (j * 5 + 4) (.sl 0 1 n (ints a)) = (xs.set j ⟨⟨xs[j].deal.ok, xs[j].deal.version, xs[j].deal.tags⟩, xs[j].tries, a⟩).flatMap eDialed := by subst hn; exact set_flat (o := 4) eDialed_len (by omega) h rfl
@[simp high] theorem eEndpoint_s0 {xs : List Endpoint} {j : Nat} (h : j < xs.length) {n : Nat} (a : List Int) (hn : n = a.length) : (xs.flatMap eEndpoint).set (j * 4) (.sl 0 1 n (ints a)) = (xs.set j ⟨a, xs[j].tags, xs[j].path, xs[j].cls⟩).flatMap eEndpoint := by subst hn; exact set_flat (o := 0) eEndpoint_len (by omega) h rfl
@[simp high] theorem eEndpoint_s1 {xs : List Endpoint} {j : Nat} (h : j < xs.length) {n : Nat} (a : List Int) (hn : n = a.length) : (xs.flatMap eEndpoint).set (j * 4 + 1) (.sl 0 1 n (ints a)) = (xs.set j ⟨xs[j].versions, a, xs[j].path, xs[j].cls⟩).flatMap eEndpoint := by subst hn; exact set_flat (o := 1) eEndpoint_len (by omega) h rfl
@[simp high] theorem eEndpoint_s2 {xs : List Endpoint} {j : Nat} (h : j < xs.length) {n : Nat} (a : List Box) (hn : n = a.length) : (xs.flatMap eEndpoint).set (j * 4 + 2) (.sl 0 4 n (a.flatMap eBox)) = (xs.set j ⟨xs[j].versions, xs[j].tags, a, xs[j].cls⟩).flatMap eEndpoint := by subst hn; exact set_flat (o := 2) eEndpoint_len (by omega) h rfl
@[simp high] theorem eEndpoint_s3 {xs : List Endpoint} {j : Nat} (h : j < xs.length) (a : Int) : (xs.flatMap eEndpoint).set (j * 4 + 3) (.sc (.int .i64 a)) = (xs.set j ⟨xs[j].versions, xs[j].tags, xs[j].path, a⟩).flatMap eEndpoint := set_flat (o := 3) eEndpoint_len (by omega) h rfl
@[simp high] theorem eLogged_s0 {xs : List Logged} {j : Nat} (h : j < xs.length) (a : Int) : (xs.flatMap eLogged).set (j * 8) (.sc (.int .i64 a)) = (xs.set j ⟨a, xs[j].tick, xs[j].on, ⟨⟨xs[j].dialed.deal.ok, xs[j].dialed.deal.version, xs[j].dialed.deal.tags⟩, xs[j].dialed.tries, xs[j].dialed.up⟩⟩).flatMap eLogged := set_flat (o := 0) eLogged_len (by omega) h rfl
@[simp high] theorem eLogged_s1 {xs : List Logged} {j : Nat} (h : j < xs.length) (a : Int) : (xs.flatMap eLogged).set (j * 8 + 1) (.sc (.int .i64 a)) = (xs.set j ⟨xs[j].fin, a, xs[j].on, ⟨⟨xs[j].dialed.deal.ok, xs[j].dialed.deal.version, xs[j].dialed.deal.tags⟩, xs[j].dialed.tries, xs[j].dialed.up⟩⟩).flatMap eLogged := set_flat (o := 1) eLogged_len (by omega) h rfl
@[simp high] theorem eLogged_s2 {xs : List Logged} {j : Nat} (h : j < xs.length) (a : Bool) : (xs.flatMap eLogged).set (j * 8 + 2) (.sc (.bool a)) = (xs.set j ⟨xs[j].fin, xs[j].tick, a, ⟨⟨xs[j].dialed.deal.ok, xs[j].dialed.deal.version, xs[j].dialed.deal.tags⟩, xs[j].dialed.tries, xs[j].dialed.up⟩⟩).flatMap eLogged := set_flat (o := 2) eLogged_len (by omega) h rfl
@[simp high] theorem eLogged_s3 {xs : List Logged} {j : Nat} (h : j < xs.length) (a : Bool) : (xs.flatMap eLogged).set (j * 8 + 3) (.sc (.bool a)) = (xs.set j ⟨xs[j].fin, xs[j].tick, xs[j].on, ⟨⟨a, xs[j].dialed.deal.version, xs[j].dialed.deal.tags⟩, xs[j].dialed.tries, xs[j].dialed.up⟩⟩).flatMap eLogged := set_flat (o := 3) eLogged_len (by omega) h rfl
@[simp high] theorem eLogged_s4 {xs : List Logged} {j : Nat} (h : j < xs.length) (a : Int) : (xs.flatMap eLogged).set (j * 8 + 4) (.sc (.int .i64 a)) = (xs.set j ⟨xs[j].fin, xs[j].tick, xs[j].on, ⟨⟨xs[j].dialed.deal.ok, a, xs[j].dialed.deal.tags⟩, xs[j].dialed.tries, xs[j].dialed.up⟩⟩).flatMap eLogged := set_flat (o := 4) eLogged_len (by omega) h rfl
@[simp high] theorem eLogged_s5 {xs : List Logged} {j : Nat} (h : j < xs.length) {n : Nat} (a : List Int) (hn : n = a.length) : (xs.flatMap eLogged).set (j * 8 + 5) (.sl 0 1 n (ints a)) = (xs.set j ⟨xs[j].fin, xs[j].tick, xs[j].on, ⟨⟨xs[j].dialed.deal.ok, xs[j].dialed.deal.version, a⟩, xs[j].dialed.tries, xs[j].dialed.up⟩⟩).flatMap eLogged := by subst hn; exact set_flat (o := 5) eLogged_len (by omega) h rfl
@[simp high] theorem eLogged_s6 {xs : List Logged} {j : Nat} (h : j < xs.length) (a : Int) : (xs.flatMap eLogged).set (j * 8 + 6) (.sc (.int .i64 a)) = (xs.set j ⟨xs[j].fin, xs[j].tick, xs[j].on, ⟨⟨xs[j].dialed.deal.ok, xs[j].dialed.deal.version, xs[j].dialed.deal.tags⟩, a, xs[j].dialed.up⟩⟩).flatMap eLogged := set_flat (o := 6) eLogged_len (by omega) h rfl
@[simp high] theorem eLogged_s7 {xs : List Logged} {j : Nat} (h : j < xs.length) {n : Nat} (a : List Int) (hn : n = a.length) : (xs.flatMap eLogged).set (j * 8 + 7) (.sl 0 1 n (ints a)) = (xs.set j ⟨xs[j].fin, xs[j].tick, xs[j].on, ⟨⟨xs[j].dialed.deal.ok, xs[j].dialed.deal.version, xs[j].dialed.deal.tags⟩, xs[j].dialed.tries, a⟩⟩).flatMap eLogged := by subst hn; exact set_flat (o := 7) eLogged_len (by omega) h rfl
@[simp high] theorem eEvent_s0 {xs : List Event} {j : Nat} (h : j < xs.length) (a : Int) : (xs.flatMap eEvent).set (j * 6) (.sc (.int .i64 a)) = (xs.set j ⟨a, xs[j].n, ⟨xs[j].box.limit, xs[j].box.drops, xs[j].box.strips, xs[j].box.lists⟩⟩).flatMap eEvent := set_flat (o := 0) eEvent_len (by omega) h rfl
@[simp high] theorem eEvent_s1 {xs : List Event} {j : Nat} (h : j < xs.length) (a : Int) : (xs.flatMap eEvent).set (j * 6 + 1) (.sc (.int .i64 a)) = (xs.set j ⟨xs[j].kind, a, ⟨xs[j].box.limit, xs[j].box.drops, xs[j].box.strips, xs[j].box.lists⟩⟩).flatMap eEvent := set_flat (o := 1) eEvent_len (by omega) h rfl
@[simp high] theorem eEvent_s2 {xs : List Event} {j : Nat} (h : j < xs.length) (a : Int) : (xs.flatMap eEvent).set (j * 6 + 2) (.sc (.int .i64 a)) = (xs.set j ⟨xs[j].kind, xs[j].n, ⟨a, xs[j].box.drops, xs[j].box.strips, xs[j].box.lists⟩⟩).flatMap eEvent := set_flat (o := 2) eEvent_len (by omega) h rfl
@[simp high] theorem eEvent_s3 {xs : List Event} {j : Nat} (h : j < xs.length) {n : Nat} (a : List Int) (hn : n = a.length) : (xs.flatMap eEvent).set (j * 6 + 3) (.sl 0 1 n (ints a)) = (xs.set j ⟨xs[j].kind, xs[j].n, ⟨xs[j].box.limit, a, xs[j].box.strips, xs[j].box.lists⟩⟩).flatMap eEvent := by subst hn; exact set_flat (o := 3) eEvent_len (by omega) h rfl
@[simp high] theorem eEvent_s4 {xs : List Event} {j : Nat} (h : j < xs.length) {n : Nat} (a : List Int) (hn : n = a.length) : (xs.flatMap eEvent).set (j * 6 + 4) (.sl 0 1 n (ints a)) = (xs.set j ⟨xs[j].kind, xs[j].n, ⟨xs[j].box.limit, xs[j].box.drops, a, xs[j].box.lists⟩⟩).flatMap eEvent := by subst hn; exact set_flat (o := 4) eEvent_len (by omega) h rfl
@[simp high] theorem eEvent_s5 {xs : List Event} {j : Nat} (h : j < xs.length) (a : Bool) : (xs.flatMap eEvent).set (j * 6 + 5) (.sc (.bool a)) = (xs.set j ⟨xs[j].kind, xs[j].n, ⟨xs[j].box.limit, xs[j].box.drops, xs[j].box.strips, a⟩⟩).flatMap eEvent := set_flat (o := 5) eEvent_len (by omega) h rfl
def mcDeal (x : Deal) : Nat := x.tags.length
def mkDeal (x : Deal) (k : Int) : Deal := ⟨x.ok, x.version, nums x.tags.length (k)⟩
def mcBox (x : Box) : Nat := 1 + x.drops.length + x.strips.length + 1
def mkBox (x : Box) (k : Int) : Box := ⟨k, nums x.drops.length (k + 1), nums x.strips.length (k + 1 + ((x.drops.length : Nat) : Int)), ((k + 1 + ((x.drops.length : Nat) : Int) + ((x.strips.length : Nat) : Int)).tmod 3 == 0)⟩
def mcDialed (x : Dialed) : Nat := 1 + 1 + x.deal.tags.length + 1 + x.up.length
def mkDialed (x : Dialed) (k : Int) : Dialed := ⟨⟨((k).tmod 3 == 0), k + 1, nums x.deal.tags.length (k + 1 + 1)⟩, k + 1 + 1 + ((x.deal.tags.length : Nat) : Int), nums x.up.length (k + 1 + 1 + ((x.deal.tags.length : Nat) : Int) + 1)⟩
def mcEndpoint (x : Endpoint) : Nat := x.versions.length + x.tags.length + mcL mcBox x.path + 1
def mkEndpoint (x : Endpoint) (k : Int) : Endpoint := ⟨nums x.versions.length (k), nums x.tags.length (k + ((x.versions.length : Nat) : Int)), mkL mcBox mkBox x.path (k + ((x.versions.length : Nat) : Int) + ((x.tags.length : Nat) : Int)), k + ((x.versions.length : Nat) : Int) + ((x.tags.length : Nat) : Int) + ((mcL mcBox x.path : Nat) : Int)⟩
def mcLogged (x : Logged) : Nat := 1 + 1 + 1 + 1 + 1 + x.dialed.deal.tags.length + 1 + x.dialed.up.length
def mkLogged (x : Logged) (k : Int) : Logged := ⟨k, k + 1, ((k + 1 + 1).tmod 3 == 0), ⟨⟨((k + 1 + 1 + 1).tmod 3 == 0), k + 1 + 1 + 1 + 1, nums x.dialed.deal.tags.length (k + 1 + 1 + 1 + 1 + 1)⟩, k + 1 + 1 + 1 + 1 + 1 + ((x.dialed.deal.tags.length : Nat) : Int), nums x.dialed.up.length (k + 1 + 1 + 1 + 1 + 1 + ((x.dialed.deal.tags.length : Nat) : Int) + 1)⟩⟩
def mcEvent (x : Event) : Nat := 1 + 1 + 1 + x.box.drops.length + x.box.strips.length + 1
def mkEvent (x : Event) (k : Int) : Event := ⟨k, k + 1, ⟨k + 1 + 1, nums x.box.drops.length (k + 1 + 1 + 1), nums x.box.strips.length (k + 1 + 1 + 1 + ((x.box.drops.length : Nat) : Int)), ((k + 1 + 1 + 1 + ((x.box.drops.length : Nat) : Int) + ((x.box.strips.length : Nat) : Int)).tmod 3 == 0)⟩⟩
def mcRollout (x : Rollout) : Nat := x.stages.length
def mkRollout (x : Rollout) (k : Int) : Rollout := ⟨x.version, nums x.stages.length (k), x.pos, x.off⟩
def mcWorld (x : World) : Nat := x.server.length + x.tags.length + mcL mcEndpoint x.ends + x.rollout.stages.length + mcL mcDialed x.stage + mcL mcLogged x.log
def mkWorld (x : World) (k : Int) : World := ⟨nums x.server.length (k), nums x.tags.length (k + ((x.server.length : Nat) : Int)), x.key, mkL mcEndpoint mkEndpoint x.ends (k + ((x.server.length : Nat) : Int) + ((x.tags.length : Nat) : Int)), ⟨x.rollout.version, nums x.rollout.stages.length (k + ((x.server.length : Nat) : Int) + ((x.tags.length : Nat) : Int) + ((mcL mcEndpoint x.ends : Nat) : Int)), x.rollout.pos, x.rollout.off⟩, x.least, x.percent, mkL mcDialed mkDialed x.stage (k + ((x.server.length : Nat) : Int) + ((x.tags.length : Nat) : Int) + ((mcL mcEndpoint x.ends : Nat) : Int) + ((x.rollout.stages.length : Nat) : Int)), mkL mcLogged mkLogged x.log (k + ((x.server.length : Nat) : Int) + ((x.tags.length : Nat) : Int) + ((mcL mcEndpoint x.ends : Nat) : Int) + ((x.rollout.stages.length : Nat) : Int) + ((mcL mcDialed x.stage : Nat) : Int)), x.now, x.hurt, x.reached⟩
def mcTBox (x : Box) : Nat := x.drops.length + x.strips.length
def mkTBox (x : Box) (k : Int) : Box := ⟨x.limit, nums x.drops.length (k), nums x.strips.length (k + ((x.drops.length : Nat) : Int)), x.lists⟩
def mcTDialed (x : Dialed) : Nat := x.deal.tags.length + x.up.length
def mkTDialed (x : Dialed) (k : Int) : Dialed := ⟨⟨x.deal.ok, x.deal.version, nums x.deal.tags.length (k)⟩, x.tries, nums x.up.length (k + ((x.deal.tags.length : Nat) : Int))⟩
def mcTEndpoint (x : Endpoint) : Nat := x.versions.length + x.tags.length + mcL mcBox x.path
def mkTEndpoint (x : Endpoint) (k : Int) : Endpoint := ⟨nums x.versions.length (k), nums x.tags.length (k + ((x.versions.length : Nat) : Int)), mkL mcBox mkBox x.path (k + ((x.versions.length : Nat) : Int) + ((x.tags.length : Nat) : Int)), x.cls⟩
def mcTLogged (x : Logged) : Nat := x.dialed.deal.tags.length + x.dialed.up.length
def mkTLogged (x : Logged) (k : Int) : Logged := ⟨x.fin, x.tick, x.on, ⟨⟨x.dialed.deal.ok, x.dialed.deal.version, nums x.dialed.deal.tags.length (k)⟩, x.dialed.tries, nums x.dialed.up.length (k + ((x.dialed.deal.tags.length : Nat) : Int))⟩⟩
def mcTEvent (x : Event) : Nat := x.box.drops.length + x.box.strips.length
def mkTEvent (x : Event) (k : Int) : Event := ⟨x.kind, x.n, ⟨x.box.limit, nums x.box.drops.length (k), nums x.box.strips.length (k + ((x.box.drops.length : Nat) : Int)), x.box.lists⟩⟩
end Go.Eng.T

namespace Go.Eng.T

theorem nums_push : ∀ (n : Nat) (k : Int), nums n k ++ [k + n] = nums (n + 1) k
  | 0, k => by simp [nums]
  | n + 1, k => by
    have := nums_push n (k + 1)
    simp only [nums, List.cons_append]
    rw [show k + ((n + 1 : Nat) : Int) = k + 1 + (n : Int) by omega, this]
    rfl
theorem numsJ_set {xs : List Int} {k : Int} {j : Nat} (h : j < xs.length) : (nums j k ++ xs.drop j).set j (k + j) = nums (j + 1) k ++ xs.drop (j + 1) := by
  rw [List.set_append_right _ _ (by simp), nums_len, Nat.sub_self, List.drop_eq_getElem_cons h, List.set_cons_zero, ← nums_push, List.append_assoc]
  rfl

abbrev markIntSS (R : Rel) : Prop := ∀ (xs : List Int) (k : Int), 0 ≤ k → k + xs.length ≤ 4611686018427387904 → R [.arr 0, I k] [.arr 1 0 xs.length (ints xs)] (I (k + xs.length)) [.arr 1 0 xs.length (ints (nums xs.length k))]
theorem markIntS_b (D : Dn) : markIntSS (Body D slaws_markIntS) := by
  intro xs k hk hl
  simp -implicitDefEqProofs
  refine swp_loop (fun n s => ∃ j, j + n = xs.length ∧ s = ⟨[.arr 0, .sc (.int .i64 (k + j)), .undef, .sc (.int .i64 j), .undef], [.arr 1 0 xs.length (ints (nums j k ++ xs.drop j))]⟩) ?_ xs.length _ ⟨0, by simp, by simp [nums]⟩
  intro n s ⟨j, hj, hs⟩
  subst hs
  by_cases hjn : j < xs.length
  · have hw : IntKind.i64.wrap ((j : Int) + 1) = (j + 1 : Nat) := by rw [wrap_id (by omega) (by omega)]; simp
    have hw2 : IntKind.i64.wrap (k + j + 1) = k + (j + 1 : Nat) := by rw [wrap_id (by omega) (by omega)]; omega
    have hlen : j + (xs.length - j) = xs.length := by omega
    simp -implicitDefEqProofs [hjn, hlen, -List.append_assoc, numsJ_set hjn]
    exact ⟨n - 1, by omega, j + 1, by omega, ⟨by simpa using hw2, by simp [hw]⟩, rfl⟩
  · have hje : j = xs.length := by omega
    subst hje
    simp -implicitDefEqProofs [outO]
abbrev heldIntSS (R : Rel) : Prop := ∀ (n : Nat) (k : Int), 0 ≤ k → k + n ≤ 4611686018427387904 → R [.sl 1 1 n (ints (nums n k)), I k] [] (I (k + n)) []
theorem heldIntS_b (D : Dn) : heldIntSS (Body D slaws_heldIntS) := by
  intro m k hk hl
  simp -implicitDefEqProofs
  refine swp_loop (fun n s => ∃ j, j + n = m ∧ s = ⟨[.sl 1 1 m (ints (nums m k)), .sc (.int .i64 (k + j)), .undef, .sc (.int .i64 j), .undef, .undef], []⟩) ?_ m _ ⟨0, by simp, by simp⟩
  intro n s ⟨j, hj, hs⟩
  subst hs
  by_cases hjn : j < m
  · have hw : IntKind.i64.wrap ((j : Int) + 1) = (j + 1 : Nat) := by rw [wrap_id (by omega) (by omega)]; simp
    have hw2 : IntKind.i64.wrap (k + j + 1) = k + (j + 1 : Nat) := by rw [wrap_id (by omega) (by omega)]; omega
    simp -implicitDefEqProofs [hjn, nums_get]
    exact ⟨n - 1, by omega, j + 1, by omega, by simpa using hw2, by simp [hw]⟩
  · have hje : j = m := by omega
    subst hje
    simp -implicitDefEqProofs
end Go.Eng.T

