/- Own work: part 44 of the proof of FnWorlds. -/
import Derived.Test.YtncobgjmochecabGreatP43
set_option linter.unusedSimpArgs false
set_option linter.unusedVariables false
namespace Go.Eng.T
def sspec_FallbackHello_r4 : Reg := { id := 4, draw := true, ops := [{ op := .load (some 2) (.slot 2), tau := some [0], om := [] },{ op := .mv (.slot 5), tau := some [], om := [] },{ op := .mv (.slot 1), tau := some [], om := [] },{ op := .fieldAddr (.slot 2) 0, tau := some [], om := [] },{ op := .load none (.loc 3), tau := some [0], om := [] },{ op := .mv (.slot 5), tau := some [], om := [] },{ op := .call 223 [(false, .loc 4), (false, .loc 5)] [3], tau := some [2, 3], om := [3] },{ op := .fieldAddr (.slot 2) 1, tau := some [], om := [] },{ op := .load none (.loc 7), tau := some [0], om := [] },{ op := .call 329 [(false, .loc 2), (false, .loc 6), (false, .loc 8)] [4], tau := some [3, 4], om := [4] },{ op := .call 330 [(false, .loc 0), (false, .loc 1), (false, .loc 9)] [5, 6], tau := some [2, 4, 5, 6], om := [5, 6] },{ op := .extract (.loc 10) 0, tau := some [], om := [] },{ op := .extract (.loc 10) 1, tau := some [], om := [] },{ op := .store 2 (.slot 3) (.loc 11), tau := some [1], om := [1] },{ op := .mv (.loc 12), tau := some [], om := [] }], sets := [(4, 14)], clr := [1, 2, 5] }
def sspec_FallbackHello_b : SC := .seq (.reg sspec_FallbackHello_r0) (.seq (.seq (.reg sspec_FallbackHello_r1) (.cond 6 (.seq (.reg sspec_FallbackHello_r2) (.ret)) (.skip))) (.seq (.reg sspec_FallbackHello_r3) (.seq (.reg sspec_FallbackHello_r4) (.ret))))
def sspec_FallbackHello : SFn := { nslots := 7, nobjs := 7, params := [0, 1], ngiven := 0, bor := false, takes := [], body := sspec_FallbackHello_b, results := [.cell 3 (some 2), .slot 4] }
def sspec_FallbackHello_t : List Tmp := [0, 1, 2, 4, 5, 6, 9]
attribute [simp] sspec_FallbackHello_r0 sspec_FallbackHello_r1 sspec_FallbackHello_r2 sspec_FallbackHello_r3 sspec_FallbackHello_r4 sspec_FallbackHello_b sspec_FallbackHello
def sspec_ChooseAnswer_r0 : Reg := { id := 0, ops := [{ op := .box 0 (.slot 2) },{ op := .alloc 1 [.sc (.int .i64 0), .nil 2] },{ op := .mv (.con (.sc (.bool false))) }], sets := [(3, 0), (4, 1)], clr := [2, 5] }
def sspec_ChooseAnswer_r1 : Reg := { id := 1, ops := [{ op := .mv (.slot 0) },{ op := .fieldAddr (.slot 3) 0 },{ op := .load none (.loc 1) },{ op := .call 168 [(false, .loc 0), (false, .loc 2)] [] },{ op := .mv (.loc 3) }], sets := [(6, 4)], clr := [0] }
def sspec_ChooseAnswer_r2 : Reg := { id := 2, ops := [{ op := .load (some 2) (.slot 3) },{ op := .call 285 [(false, .loc 0)] [] },{ op := .un .not (.loc 1) },{ op := .mv (.loc 2) },{ op := .mv (.slot 6), guard := some (3, false) },{ op := .bin .eql (.loc 4) (.con (.sc (.int .i64 0))), guard := some (3, false) },{ op := .pick (.loc 3) (.con (.sc (.bool true))) (.loc 5) }], sets := [(7, 6)] }
def sspec_ChooseAnswer_r3 : Reg := { id := 3, ops := [{ op := .build [.sc (.int .i64 0), .nil 2] [] },{ op := .store 2 (.slot 4) (.loc 0) },{ op := .mv (.con (.sc (.bool false))) }], sets := [(5, 2)], clr := [1, 3, 6] }
def sspec_ChooseAnswer_r4 : Reg := { id := 4, ops := [{ op := .mv (.slot 6) },{ op := .fieldAddr (.slot 3) 1 },{ op := .load none (.loc 1) },{ op := .mv (.slot 1) },{ op := .call 331 [(false, .loc 2), (false, .loc 3)] [2] },{ op := .call 332 [(false, .loc 4)] [3] },{ op := .build [.sc (.int .i64 0), .nil 2] [(0, 1, .loc 0), (1, 1, .loc 5)] },{ op := .store 2 (.slot 4) (.loc 6) },{ op := .mv (.con (.sc (.bool true))) }], sets := [(5, 8)], clr := [1, 3, 6] }
def sspec_ChooseAnswer_b : SC := .seq (.reg sspec_ChooseAnswer_r0) (.seq (.reg sspec_ChooseAnswer_r1) (.seq (.seq (.reg sspec_ChooseAnswer_r2) (.cond 7 (.seq (.reg sspec_ChooseAnswer_r3) (.ret)) (.skip))) (.seq (.reg sspec_ChooseAnswer_r4) (.ret))))
def sspec_ChooseAnswer : SFn := { nslots := 8, nobjs := 4, params := [0, 1, 2], ngiven := 0, bor := false, takes := [], body := sspec_ChooseAnswer_b, results := [.cell 4 (some 2), .slot 5] }
def sspec_ChooseAnswer_t : List Tmp := [0, 1, 2, 5, 6, 7, 8, 19]
attribute [simp] sspec_ChooseAnswer_r0 sspec_ChooseAnswer_r1 sspec_ChooseAnswer_r2 sspec_ChooseAnswer_r3 sspec_ChooseAnswer_r4 sspec_ChooseAnswer_b sspec_ChooseAnswer
def sspec_FitsHello_r0 : Reg := { id := 0, ops := [{ op := .box 0 (.slot 0) },{ op := .box 1 (.slot 1) },{ op := .mv (.con (.sc (.bool false))) }], sets := [(2, 0), (3, 1)], clr := [0, 1, 4] }
def sspec_FitsHello_r1 : Reg := { id := 1, ops := [{ op := .mv (.con (.sc (.int .i64 0))) }], sets := [(5, 0)] }
def sspec_FitsHello_r2 : Reg := { id := 2, ops := [{ op := .mv (.slot 5) },{ op := .fieldAddr (.slot 3) 1 },{ op := .load none (.loc 1) },{ op := .len false (.loc 2) },{ op := .bin .lss (.loc 0) (.loc 3) }], sets := [(6, 4)] }
def sspec_FitsHello_r3 : Reg := { id := 4, draw := true, ops := [{ op := .fieldAddr (.slot 2) 1, tau := some [], om := [] },{ op := .load none (.loc 0), tau := some [0], om := [] },{ op := .fieldAddr (.slot 3) 1, tau := some [], om := [] },{ op := .load none (.loc 2), tau := some [1], om := [] },{ op := .mv (.slot 5), tau := some [], om := [] },{ op := .indexAddr 2 (.loc 3) (.loc 4), tau := some [], om := [] },{ op := .fieldAddr (.loc 5) 0, tau := some [], om := [] },{ op := .load none (.loc 6), tau := some [], om := [] },{ op := .call 309 [(false, .loc 1), (false, .loc 7)] [], tau := some [], om := [] },{ op := .bin .lss (.loc 8) (.con (.sc (.int .i64 0))), tau := some [], om := [] },{ op := .mv (.loc 9), tau := some [], om := [] },{ op := .fieldAddr (.slot 3) 1, guard := some (10, false), tau := some [], om := [] },{ op := .load none (.loc 11), guard := some (10, false), tau := some [1], om := [] },{ op := .mv (.slot 5), guard := some (10, false), tau := some [], om := [] },{ op := .indexAddr 2 (.loc 12) (.loc 13), guard := some (10, false), tau := some [], om := [] },{ op := .fieldAddr (.loc 14) 0, guard := some (10, false), tau := some [], om := [] },{ op := .load none (.loc 15), guard := some (10, false), tau := some [], om := [] },{ op := .call 250 [(false, .loc 16)] [], guard := some (10, false), tau := some [], om := [] },{ op := .pick (.loc 10) (.con (.sc (.bool true))) (.loc 17), tau := some [], om := [] }], sets := [(7, 18)] }
def sspec_FitsHello_r4 : Reg := { id := 5, ops := [{ op := .mv (.con (.sc (.bool false))) }], sets := [(4, 0)], clr := [2, 3, 5] }
def sspec_FitsHello_r5 : Reg := { id := 3, ops := [{ op := .mv (.slot 5) },{ op := .bin .add (.loc 0) (.con (.sc (.int .i64 1))) },{ op := .mv (.loc 1) }], sets := [(5, 2)] }
def sspec_FitsHello_r6 : Reg := { id := 6, ops := [{ op := .load (some 2) (.slot 2) },{ op := .call 285 [(false, .loc 0)] [] },{ op := .mv (.loc 1) },{ op := .load (some 2) (.slot 3), guard := some (2, true) },{ op := .call 333 [(false, .loc 3)] [], guard := some (2, true) },{ op := .pick (.loc 2) (.loc 4) (.con (.sc (.bool false))) },{ op := .mv (.loc 5) },{ op := .fieldAddr (.slot 2) 0, guard := some (6, true) },{ op := .load none (.loc 7), guard := some (6, true) },{ op := .fieldAddr (.slot 3) 0, guard := some (6, true) },{ op := .load none (.loc 9), guard := some (6, true) },{ op := .call 166 [(false, .loc 8), (false, .loc 10)] [], guard := some (6, true) },{ op := .pick (.loc 6) (.loc 11) (.con (.sc (.bool false))) },{ op := .mv (.loc 12) }], sets := [(4, 13)], clr := [2, 3, 5] }
def sspec_FitsHello_b : SC := .seq (.reg sspec_FitsHello_r0) (.seq (.seq (.reg sspec_FitsHello_r1) (.block 0 (.loop (.seq (.seq (.reg sspec_FitsHello_r2) (.cond 6 (.skip) (.exit 0))) (.seq (.block 1 (.seq (.reg sspec_FitsHello_r3) (.cond 7 (.seq (.reg sspec_FitsHello_r4) (.ret)) (.skip)))) (.reg sspec_FitsHello_r5)))))) (.seq (.reg sspec_FitsHello_r6) (.ret)))
def sspec_FitsHello : SFn := { nslots := 8, nobjs := 2, params := [0, 1], ngiven := 0, bor := false, takes := [], body := sspec_FitsHello_b, results := [.slot 4] }
def sspec_FitsHello_t : List Tmp := [0, 1, 2, 3, 4, 5, 10, 31]
attribute [simp] sspec_FitsHello_r0 sspec_FitsHello_r1 sspec_FitsHello_r2 sspec_FitsHello_r3 sspec_FitsHello_r4 sspec_FitsHello_r5 sspec_FitsHello_r6 sspec_FitsHello_b sspec_FitsHello
def sspec_FinishOf_r0 : Reg := { id := 0, ops := [{ op := .mv (.con (.sc (.int .i64 0))) }], clr := [3] }
def sspec_FinishOf_r1 : Reg := { id := 1, ops := [{ op := .mv (.slot 0) },{ op := .call 210 [(false, .loc 0)] [] },{ op := .un .not (.loc 1) },{ op := .mv (.loc 2) },{ op := .mv (.slot 1), guard := some (3, false) },{ op := .call 334 [(false, .loc 4)] [], guard := some (3, false) },{ op := .un .not (.loc 5), guard := some (3, false) },{ op := .pick (.loc 3) (.con (.sc (.bool true))) (.loc 6) },{ op := .mv (.loc 7) },{ op := .mv (.slot 2), guard := some (8, false) },{ op := .call 71 [(false, .loc 9), (false, .con (.sc (.int .i64 0))), (false, .con (.sc (.int .i64 1)))] [], guard := some (8, false) },{ op := .un .not (.loc 10), guard := some (8, false) },{ op := .pick (.loc 8) (.con (.sc (.bool true))) (.loc 11) }], sets := [(4, 12)] }
def sspec_FinishOf_r2 : Reg := { id := 2, ops := [{ op := .mv (.con (.sc (.int .i64 0))) }], sets := [(3, 0)], clr := [0, 1, 2] }
def sspec_FinishOf_r3 : Reg := { id := 3, ops := [{ op := .mv (.slot 0) },{ op := .mv (.slot 2) },{ op := .mv (.slot 1) },{ op := .call 335 [(false, .loc 2)] [] },{ op := .buildSlice 0 1 2 [.loc 1, .loc 3] },{ op := .call 336 [(false, .loc 0), (false, .loc 4)] [] },{ op := .mv (.loc 5) }], sets := [(3, 6)], clr := [0, 1, 2] }
def sspec_FinishOf_b : SC := .seq (.reg sspec_FinishOf_r0) (.seq (.seq (.reg sspec_FinishOf_r1) (.cond 4 (.seq (.reg sspec_FinishOf_r2) (.ret)) (.skip))) (.seq (.reg sspec_FinishOf_r3) (.ret)))
def sspec_FinishOf : SFn := { nslots := 5, nobjs := 1, params := [0, 1, 2], ngiven := 0, bor := false, takes := [], body := sspec_FinishOf_b, results := [.slot 3] }
def sspec_FinishOf_t : List Tmp := [0, 1, 2, 6, 19]
attribute [simp] sspec_FinishOf_r0 sspec_FinishOf_r1 sspec_FinishOf_r2 sspec_FinishOf_r3 sspec_FinishOf_b sspec_FinishOf
def sspec_HelloBytes_r0 : Reg := { id := 0, ops := [{ op := .box 0 (.slot 0) },{ op := .mv (.con (.nil 1)) }], sets := [(1, 0)], clr := [0, 2] }
def sspec_HelloBytes_r1 : Reg := { id := 1, ops := [{ op := .load (some 2) (.slot 1) },{ op := .call 285 [(false, .loc 0)] [] },{ op := .un .not (.loc 1) }], sets := [(4, 2)] }
def sspec_HelloBytes_r2 : Reg := { id := 2, ops := [{ op := .buildSlice 1 1 0 [] },{ op := .mv (.loc 0) }], sets := [(2, 1)], clr := [1] }
def sspec_HelloBytes_r3 : Reg := { id := 3, ops := [{ op := .fieldAddr (.slot 1) 1 },{ op := .load none (.loc 0) },{ op := .call 337 [(false, .loc 1)] [2] },{ op := .mv (.loc 2) },{ op := .extract (.loc 3) 0 },{ op := .extract (.loc 3) 1 },{ op := .mv (.loc 4) },{ op := .mv (.loc 5) }], sets := [(3, 6)] }
def sspec_HelloBytes_r4 : Reg := { id := 4, ops := [{ op := .fieldAddr (.slot 1) 0 },{ op := .load none (.loc 0) },{ op := .len false (.loc 1) },{ op := .buildSlice 3 1 1 [.loc 2] },{ op := .fieldAddr (.slot 1) 0 },{ op := .load none (.loc 4) },{ op := .append 4 1 8 false (.loc 3) (.loc 5) },{ op := .mv (.slot 3) },{ op := .append 5 1 8 false (.loc 6) (.loc 7) },{ op := .mv (.loc 8) }], sets := [(2, 9)], clr := [1, 3] }
def sspec_HelloBytes_b : SC := .seq (.reg sspec_HelloBytes_r0) (.seq (.seq (.reg sspec_HelloBytes_r1) (.cond 4 (.seq (.reg sspec_HelloBytes_r2) (.ret)) (.skip))) (.seq (.reg sspec_HelloBytes_r3) (.seq (.reg sspec_HelloBytes_r4) (.ret))))
def sspec_HelloBytes : SFn := { nslots := 5, nobjs := 6, params := [0], ngiven := 0, bor := false, takes := [], body := sspec_HelloBytes_b, results := [.slot 2] }
def sspec_HelloBytes_t : List Tmp := [0, 1, 2, 3, 7]
attribute [simp] sspec_HelloBytes_r0 sspec_HelloBytes_r1 sspec_HelloBytes_r2 sspec_HelloBytes_r3 sspec_HelloBytes_r4 sspec_HelloBytes_b sspec_HelloBytes
def sspec_AnswerBytes_r0 : Reg := { id := 0, ops := [{ op := .box 0 (.slot 0) },{ op := .mv (.con (.nil 1)) }], sets := [(1, 0)], clr := [0, 2] }
def sspec_AnswerBytes_r1 : Reg := { id := 1, ops := [{ op := .load (some 2) (.slot 1) },{ op := .call 333 [(false, .loc 0)] [] },{ op := .un .not (.loc 1) }], sets := [(4, 2)] }
def sspec_AnswerBytes_r2 : Reg := { id := 2, ops := [{ op := .buildSlice 1 1 0 [] },{ op := .mv (.loc 0) }], sets := [(2, 1)], clr := [1] }
def sspec_AnswerBytes_r3 : Reg := { id := 3, ops := [{ op := .fieldAddr (.slot 1) 1 },{ op := .load none (.loc 0) },{ op := .call 337 [(false, .loc 1)] [2] },{ op := .mv (.loc 2) },{ op := .extract (.loc 3) 0 },{ op := .extract (.loc 3) 1 },{ op := .mv (.loc 4) },{ op := .mv (.loc 5) }], sets := [(3, 6)] }
def sspec_AnswerBytes_r4 : Reg := { id := 4, ops := [{ op := .fieldAddr (.slot 1) 0 },{ op := .load none (.loc 0) },{ op := .buildSlice 3 1 1 [.loc 1] },{ op := .mv (.slot 3) },{ op := .append 4 1 8 false (.loc 2) (.loc 3) },{ op := .mv (.loc 4) }], sets := [(2, 5)], clr := [1, 3] }
def sspec_AnswerBytes_b : SC := .seq (.reg sspec_AnswerBytes_r0) (.seq (.seq (.reg sspec_AnswerBytes_r1) (.cond 4 (.seq (.reg sspec_AnswerBytes_r2) (.ret)) (.skip))) (.seq (.reg sspec_AnswerBytes_r3) (.seq (.reg sspec_AnswerBytes_r4) (.ret))))
def sspec_AnswerBytes : SFn := { nslots := 5, nobjs := 5, params := [0], ngiven := 0, bor := false, takes := [], body := sspec_AnswerBytes_b, results := [.slot 2] }
def sspec_AnswerBytes_t : List Tmp := [0, 1, 2, 3, 7]
attribute [simp] sspec_AnswerBytes_r0 sspec_AnswerBytes_r1 sspec_AnswerBytes_r2 sspec_AnswerBytes_r3 sspec_AnswerBytes_r4 sspec_AnswerBytes_b sspec_AnswerBytes
def sspec_GreaseTag_r0 : Reg := { id := 0, ops := [{ op := .mv (.con (.sc (.int .i64 0))) }], clr := [1] }
def sspec_GreaseTag_r1 : Reg := { id := 1, ops := [{ op := .mv (.slot 0) },{ op := .call 313 [(false, .loc 0), (false, .con (.sc (.int .i64 0))), (false, .con (.sc (.int .i64 16)))] [] },{ op := .bin .mul (.con (.sc (.int .i64 16))) (.loc 1) },{ op := .bin .add (.loc 2) (.con (.sc (.int .i64 10))) },{ op := .mv (.loc 3) }], sets := [(1, 4)], clr := [0] }
def sspec_GreaseTag_b : SC := .seq (.reg sspec_GreaseTag_r0) (.seq (.reg sspec_GreaseTag_r1) (.ret))
def sspec_GreaseTag : SFn := { nslots := 2, nobjs := 0, params := [0], ngiven := 0, bor := false, takes := [], body := sspec_GreaseTag_b, results := [.slot 1] }
def sspec_GreaseTag_t : List Tmp := [0, 2]
attribute [simp] sspec_GreaseTag_r0 sspec_GreaseTag_r1 sspec_GreaseTag_b sspec_GreaseTag
def sspec_PickOf_r0 : Reg := { id := 0, ops := [{ op := .mv (.con (.sc (.int .i64 0))) }], clr := [3] }
def sspec_PickOf_r1 : Reg := { id := 1, ops := [{ op := .mv (.slot 2) },{ op := .bin .lss (.loc 0) (.con (.sc (.int .i64 1))) }], sets := [(4, 1)] }
def sspec_PickOf_r2 : Reg := { id := 2, ops := [{ op := .mv (.con (.sc (.int .i64 0))) }], sets := [(3, 0)], clr := [0, 1, 2] }
def sspec_PickOf_r3 : Reg := { id := 3, ops := [{ op := .mv (.slot 0) },{ op := .mv (.slot 1) },{ op := .buildSlice 0 1 2 [.loc 0, .loc 1] },{ op := .call 338 [(false, .loc 2)] [] },{ op := .mv (.slot 2) },{ op := .call 339 [(false, .loc 3), (false, .loc 4)] [] },{ op := .mv (.loc 5) }], sets := [(3, 6)], clr := [0, 1, 2] }
def sspec_PickOf_b : SC := .seq (.reg sspec_PickOf_r0) (.seq (.seq (.reg sspec_PickOf_r1) (.cond 4 (.seq (.reg sspec_PickOf_r2) (.ret)) (.skip))) (.seq (.reg sspec_PickOf_r3) (.ret)))
def sspec_PickOf : SFn := { nslots := 5, nobjs := 1, params := [0, 1, 2], ngiven := 0, bor := false, takes := [], body := sspec_PickOf_b, results := [.slot 3] }
def sspec_PickOf_t : List Tmp := [0, 1, 2, 6, 8]
attribute [simp] sspec_PickOf_r0 sspec_PickOf_r1 sspec_PickOf_r2 sspec_PickOf_r3 sspec_PickOf_b sspec_PickOf
def sspec_EqualHellos_r0 : Reg := { id := 0, ops := [{ op := .box 0 (.slot 0) },{ op := .box 1 (.slot 1) },{ op := .mv (.con (.sc (.bool false))) }], sets := [(2, 0), (3, 1)], clr := [0, 1, 4] }
def sspec_EqualHellos_r1 : Reg := { id := 1, ops := [{ op := .fieldAddr (.slot 2) 0 },{ op := .load none (.loc 0) },{ op := .fieldAddr (.slot 3) 0 },{ op := .load none (.loc 2) },{ op := .call 355 [(false, .loc 1), (false, .loc 3)] [] },{ op := .mv (.loc 4) },{ op := .fieldAddr (.slot 2) 1, guard := some (5, true) },{ op := .load none (.loc 6), guard := some (5, true) },{ op := .fieldAddr (.slot 3) 1, guard := some (5, true) },{ op := .load none (.loc 8), guard := some (5, true) },{ op := .call 356 [(false, .loc 7), (false, .loc 9)] [], guard := some (5, true) },{ op := .pick (.loc 5) (.loc 10) (.con (.sc (.bool false))) },{ op := .mv (.loc 11) }], sets := [(4, 12)], clr := [2, 3] }
def sspec_EqualHellos_b : SC := .seq (.reg sspec_EqualHellos_r0) (.seq (.reg sspec_EqualHellos_r1) (.ret))
def sspec_EqualHellos : SFn := { nslots := 5, nobjs := 2, params := [0, 1], ngiven := 0, bor := false, takes := [], body := sspec_EqualHellos_b, results := [.slot 4] }
def sspec_EqualHellos_t : List Tmp := [0, 1, 2, 3, 4]
attribute [simp] sspec_EqualHellos_r0 sspec_EqualHellos_r1 sspec_EqualHellos_b sspec_EqualHellos
def sspec_PartHello_r0 : Reg := { id := 0, ops := [{ op := .box 0 (.slot 0) },{ op := .alloc 1 [.nil 1, .nil 2] },{ op := .mv (.con (.sc (.bool false))) }], sets := [(3, 0), (4, 1)], clr := [0, 5] }
def sspec_PartHello_r1 : Reg := { id := 1, ops := [{ op := .load (some 2) (.slot 3) },{ op := .call 285 [(false, .loc 0)] [] },{ op := .un .not (.loc 1) }], sets := [(9, 2)] }
def sspec_PartHello_r2 : Reg := { id := 2, ops := [{ op := .build [.nil 1, .nil 2] [] },{ op := .store 2 (.slot 4) (.loc 0) },{ op := .mv (.con (.sc (.bool false))) }], sets := [(5, 2)], clr := [1, 2, 3] }
def sspec_PartHello_r3 : Reg := { id := 3, ops := [{ op := .build [.nil 1, .nil 2] [] },{ op := .alloc 2 [.nil 1, .nil 2] },{ op := .store 2 (.loc 1) (.loc 0) }], sets := [(6, 1)], ghosts := [.ownc 2 0 9, .ownc 2 1 10] }
def sspec_PartHello_r4 : Reg := { id := 4, ops := [{ op := .mv (.con (.sc (.int .i64 0))) }], sets := [(7, 0)] }
def sspec_PartHello_r5 : Reg := { id := 5, ops := [{ op := .mv (.slot 7) },{ op := .fieldAddr (.slot 3) 0 },{ op := .load none (.loc 1) },{ op := .len false (.loc 2) },{ op := .bin .lss (.loc 0) (.loc 3) }], sets := [(10, 4)] }
def sspec_PartHello_r6 : Reg := { id := 7, ops := [{ op := .mv (.slot 1) },{ op := .fieldAddr (.slot 3) 0 },{ op := .load none (.loc 1) },{ op := .mv (.slot 7) },{ op := .indexAddr 1 (.loc 2) (.loc 3) },{ op := .load none (.loc 4) },{ op := .call 166 [(false, .loc 0), (false, .loc 5)] [] },{ op := .un .not (.loc 6) }], sets := [(11, 7)] }
def sspec_PartHello_r7 : Reg := { id := 8, draw := true, fresh := [3, 4], ops := [{ op := .fieldAddr (.slot 6) 0, tau := some [], om := [] },{ op := .load none (.loc 0), tau := some [2], om := [] },{ op := .fieldAddr (.slot 3) 0, tau := some [], om := [] },{ op := .load none (.loc 2), tau := some [0], om := [] },{ op := .mv (.slot 7), tau := some [], om := [] },{ op := .indexAddr 1 (.loc 3) (.loc 4), tau := some [], om := [] },{ op := .load none (.loc 5), tau := some [], om := [] },{ op := .buildSlice 3 1 1 [.loc 6], tau := some [3], om := [3] },{ op := .append 4 1 8 false (.loc 1) (.loc 7), tau := some [3, 4, 9], om := [4, 9] },{ op := .fieldAddr (.slot 6) 0, tau := some [], om := [] },{ op := .store 1 (.loc 9) (.loc 8), tau := some [2], om := [2] }], ghosts := [.ren 4 9] }
def sspec_PartHello_r8 : Reg := { id := 6, ops := [{ op := .mv (.slot 7) },{ op := .bin .add (.loc 0) (.con (.sc (.int .i64 1))) },{ op := .mv (.loc 1) }], sets := [(7, 2)] }
def sspec_PartHello_r9 : Reg := { id := 9, ops := [{ op := .mv (.con (.sc (.int .i64 0))) }], sets := [(8, 0)], clr := [1, 7] }
def sspec_PartHello_r10 : Reg := { id := 10, ops := [{ op := .mv (.slot 8) },{ op := .fieldAddr (.slot 3) 1 },{ op := .load none (.loc 1) },{ op := .len false (.loc 2) },{ op := .bin .lss (.loc 0) (.loc 3) }], sets := [(12, 4)] }
def sspec_PartHello_r11 : Reg := { id := 12, ops := [{ op := .mv (.slot 2) },{ op := .fieldAddr (.slot 3) 1 },{ op := .load none (.loc 1) },{ op := .mv (.slot 8) },{ op := .indexAddr 2 (.loc 2) (.loc 3) },{ op := .fieldAddr (.loc 4) 0 },{ op := .load none (.loc 5) },{ op := .call 166 [(false, .loc 0), (false, .loc 6)] [] },{ op := .un .not (.loc 7) }], sets := [(13, 8)] }
def sspec_PartHello_r12 : Reg := { id := 13, draw := true, fresh := [5, 6, 7, 8], ops := [{ op := .fieldAddr (.slot 6) 1, tau := some [], om := [] },{ op := .load none (.loc 0), tau := some [2], om := [] },{ op := .fieldAddr (.slot 3) 1, tau := some [], om := [] },{ op := .load none (.loc 2), tau := some [0], om := [] },{ op := .mv (.slot 8), tau := some [], om := [] },{ op := .indexAddr 2 (.loc 3) (.loc 4), tau := some [], om := [] },{ op := .fieldAddr (.loc 5) 0, tau := some [], om := [] },{ op := .load none (.loc 6), tau := some [], om := [] },{ op := .buildSlice 5 1 0 [], tau := some [5], om := [5] },{ op := .fieldAddr (.slot 3) 1, tau := some [], om := [] },{ op := .load none (.loc 9), tau := some [0], om := [] },{ op := .mv (.slot 8), tau := some [], om := [] },{ op := .indexAddr 2 (.loc 10) (.loc 11), tau := some [], om := [] },{ op := .fieldAddr (.loc 12) 1, tau := some [], om := [] },{ op := .load none (.loc 13), tau := some [], om := [] },{ op := .append 6 1 8 false (.loc 8) (.loc 14), tau := some [5, 6], om := [5, 6] },{ op := .build [.sc (.int .i64 0), .nil 1] [(0, 1, .loc 7), (1, 1, .loc 15)], tau := some [], om := [] },{ op := .buildSlice 7 2 1 [.loc 16], tau := some [6, 7], om := [6, 7] },{ op := .append 8 2 32 true (.loc 1) (.loc 17), tau := some [7, 8, 10], om := [7, 8, 10] },{ op := .fieldAddr (.slot 6) 1, tau := some [], om := [] },{ op := .store 1 (.loc 19) (.loc 18), tau := some [2], om := [2] }], ghosts := [.ren 8 10] }
def sspec_PartHello_r13 : Reg := { id := 11, ops := [{ op := .mv (.slot 8) },{ op := .bin .add (.loc 0) (.con (.sc (.int .i64 1))) },{ op := .mv (.loc 1) }], sets := [(8, 2)] }
def sspec_PartHello_r14 : Reg := { id := 14, ops := [{ op := .fieldAddr (.slot 6) 0 },{ op := .load none (.loc 0) },{ op := .len false (.loc 1) },{ op := .bin .eql (.loc 2) (.con (.sc (.int .i64 0))) }], sets := [(14, 3)], clr := [2, 3, 8] }
def sspec_PartHello_r15 : Reg := { id := 15, ops := [{ op := .build [.nil 1, .nil 2] [] },{ op := .store 2 (.slot 4) (.loc 0) },{ op := .mv (.con (.sc (.bool false))) }], sets := [(5, 2)], clr := [6] }
def sspec_PartHello_r16 : Reg := { id := 16, ops := [{ op := .load (some 2) (.slot 6) },{ op := .store 2 (.slot 4) (.loc 0) },{ op := .mv (.con (.sc (.bool true))) }], sets := [(5, 2)], clr := [6] }
def sspec_PartHello_b : SC := .seq (.reg sspec_PartHello_r0) (.seq (.seq (.reg sspec_PartHello_r1) (.cond 9 (.seq (.reg sspec_PartHello_r2) (.ret)) (.skip))) (.seq (.reg sspec_PartHello_r3) (.seq (.seq (.reg sspec_PartHello_r4) (.block 0 (.loop (.seq (.seq (.reg sspec_PartHello_r5) (.cond 10 (.skip) (.exit 0))) (.seq (.block 1 (.seq (.reg sspec_PartHello_r6) (.cond 11 (.reg sspec_PartHello_r7) (.skip)))) (.reg sspec_PartHello_r8)))))) (.seq (.seq (.reg sspec_PartHello_r9) (.block 2 (.loop (.seq (.seq (.reg sspec_PartHello_r10) (.cond 12 (.skip) (.exit 2))) (.seq (.block 3 (.seq (.reg sspec_PartHello_r11) (.cond 13 (.reg sspec_PartHello_r12) (.skip)))) (.reg sspec_PartHello_r13)))))) (.seq (.seq (.reg sspec_PartHello_r14) (.cond 14 (.seq (.reg sspec_PartHello_r15) (.ret)) (.skip))) (.seq (.reg sspec_PartHello_r16) (.ret)))))))
def sspec_PartHello : SFn := { nslots := 15, nobjs := 11, params := [0, 1, 2], ngiven := 0, bor := false, takes := [], body := sspec_PartHello_b, results := [.cell 4 (some 2), .slot 5] }
def sspec_PartHello_t : List Tmp := [0, 1, 2, 3, 6, 7, 8, 9, 10, 13, 20, 30, 45, 56, 80]
attribute [simp] sspec_PartHello_r0 sspec_PartHello_r1 sspec_PartHello_r2 sspec_PartHello_r3 sspec_PartHello_r4 sspec_PartHello_r5 sspec_PartHello_r6 sspec_PartHello_r7 sspec_PartHello_r8 sspec_PartHello_r9 sspec_PartHello_r10 sspec_PartHello_r11 sspec_PartHello_r12 sspec_PartHello_r13 sspec_PartHello_r14 sspec_PartHello_r15 sspec_PartHello_r16 sspec_PartHello_b sspec_PartHello
def sspec_LostTags_r0 : Reg := { id := 0, ops := [{ op := .mv (.con (.nil 1)) }], clr := [3] }
def sspec_LostTags_r1 : Reg := { id := 1, ops := [{ op := .buildSlice 0 1 0 [] },{ op := .mv (.loc 0) }], sets := [(4, 1)], ghosts := [.ren 0 9] }
def sspec_LostTags_r2 : Reg := { id := 2, ops := [{ op := .mv (.slot 2) },{ op := .call 312 [(false, .loc 0)] [] },{ op := .un .not (.loc 1) },{ op := .mv (.loc 2) },{ op := .mv (.slot 0), guard := some (3, false) },{ op := .mv (.slot 1), guard := some (3, false) },{ op := .call 260 [(false, .loc 4), (false, .loc 5)] [], guard := some (3, false) },{ op := .un .not (.loc 6), guard := some (3, false) },{ op := .pick (.loc 3) (.con (.sc (.bool true))) (.loc 7) }], sets := [(9, 8)] }
def sspec_LostTags_r3 : Reg := { id := 3, ops := [{ op := .mv (.slot 4) },{ op := .mv (.loc 0) }], sets := [(3, 1)], clr := [0, 1, 2, 4] }
def sspec_LostTags_r4 : Reg := { id := 4, ops := [{ op := .mv (.con (.sc (.int .i64 0))) }], sets := [(5, 0)] }
def sspec_LostTags_r5 : Reg := { id := 5, ops := [{ op := .mv (.slot 5) },{ op := .mv (.slot 2) },{ op := .len false (.loc 1) },{ op := .bin .lss (.loc 0) (.loc 2) }], sets := [(10, 3)] }
def sspec_LostTags_r6 : Reg := { id := 7, fresh := [1, 2, 3], ops := [{ op := .mv (.slot 1) },{ op := .slice 1 (.loc 0) none (some (.con (.sc (.int .i64 1)))) },{ op := .call 256 [(false, .loc 1)] [1, 2] },{ op := .alloc 3 [.nil 1, .nil 2] },{ op := .store 2 (.loc 3) (.loc 2) }], sets := [(6, 3)] }
def sspec_LostTags_r7 : Reg := { id := 8, ops := [{ op := .mv (.slot 2) },{ op := .mv (.slot 5) },{ op := .mv (.slot 5) },{ op := .bin .add (.loc 2) (.con (.sc (.int .i64 1))) },{ op := .slice 2 (.loc 0) (some (.loc 1)) (some (.loc 3)) },{ op := .fieldAddr (.slot 6) 1 },{ op := .store 1 (.loc 5) (.loc 4) }] }
def sspec_LostTags_r8 : Reg := { id := 9, fresh := [4, 5, 6], ops := [{ op := .mv (.slot 0) },{ op := .load (some 2) (.slot 6) },{ op := .call 286 [(false, .loc 0), (false, .loc 1)] [4, 5] },{ op := .mv (.loc 2) },{ op := .extract (.loc 3) 0 },{ op := .extract (.loc 3) 1 },{ op := .alloc 6 [.nil 1, .nil 2] },{ op := .store 2 (.loc 6) (.loc 4) },{ op := .mv (.loc 5) }], sets := [(7, 6), (8, 8)] }
def sspec_LostTags_r9 : Reg := { id := 10, ops := [{ op := .mv (.slot 8) },{ op := .un .not (.loc 0) },{ op := .mv (.loc 1) },{ op := .fieldAddr (.slot 7) 1, guard := some (2, false) },{ op := .load none (.loc 3), guard := some (2, false) },{ op := .fieldAddr (.slot 6) 1, guard := some (2, false) },{ op := .load none (.loc 5), guard := some (2, false) },{ op := .call 356 [(false, .loc 4), (false, .loc 6)] [], guard := some (2, false) },{ op := .un .not (.loc 7), guard := some (2, false) },{ op := .pick (.loc 2) (.con (.sc (.bool true))) (.loc 8) }], sets := [(11, 9)], clr := [6, 7, 8] }
def sspec_LostTags_r10 : Reg := { id := 11, fresh := [7, 8], ops := [{ op := .mv (.slot 4) },{ op := .mv (.slot 2) },{ op := .mv (.slot 5) },{ op := .indexAddr 2 (.loc 1) (.loc 2) },{ op := .fieldAddr (.loc 3) 0 },{ op := .load none (.loc 4) },{ op := .buildSlice 7 1 1 [.loc 5] },{ op := .append 8 1 8 false (.loc 0) (.loc 6) },{ op := .mv (.loc 7) }], sets := [(4, 8)], ghosts := [.ren 8 9] }
def sspec_LostTags_r11 : Reg := { id := 6, ops := [{ op := .mv (.slot 5) },{ op := .bin .add (.loc 0) (.con (.sc (.int .i64 1))) },{ op := .mv (.loc 1) }], sets := [(5, 2)] }
def sspec_LostTags_r12 : Reg := { id := 12, ops := [{ op := .mv (.slot 4) },{ op := .mv (.loc 0) }], sets := [(3, 1)], clr := [0, 1, 2, 4, 5] }
def sspec_LostTags_b : SC := .seq (.reg sspec_LostTags_r0) (.seq (.reg sspec_LostTags_r1) (.seq (.seq (.reg sspec_LostTags_r2) (.cond 9 (.seq (.reg sspec_LostTags_r3) (.ret)) (.skip))) (.seq (.seq (.reg sspec_LostTags_r4) (.block 0 (.loop (.seq (.seq (.reg sspec_LostTags_r5) (.cond 10 (.skip) (.exit 0))) (.seq (.block 1 (.seq (.reg sspec_LostTags_r6) (.seq (.reg sspec_LostTags_r7) (.seq (.reg sspec_LostTags_r8) (.seq (.reg sspec_LostTags_r9) (.cond 11 (.reg sspec_LostTags_r10) (.skip))))))) (.reg sspec_LostTags_r11)))))) (.seq (.reg sspec_LostTags_r12) (.ret)))))
def sspec_LostTags : SFn := { nslots := 12, nobjs := 10, params := [0, 1, 2], ngiven := 0, bor := false, takes := [], body := sspec_LostTags_b, results := [.slot 3] }
def sspec_LostTags_t : List Tmp := [0, 1, 2, 6, 7, 8, 9, 10, 11, 21, 26, 53]
attribute [simp] sspec_LostTags_r0 sspec_LostTags_r1 sspec_LostTags_r2 sspec_LostTags_r3 sspec_LostTags_r4 sspec_LostTags_r5 sspec_LostTags_r6 sspec_LostTags_r7 sspec_LostTags_r8 sspec_LostTags_r9 sspec_LostTags_r10 sspec_LostTags_r11 sspec_LostTags_r12 sspec_LostTags_b sspec_LostTags
def sspec_StripGrease_r0 : Reg := { id := 0, ops := [{ op := .mv (.con (.nil 2)) }], clr := [1] }
def sspec_StripGrease_r1 : Reg := { id := 1, ops := [{ op := .buildSlice 0 2 0 [] },{ op := .mv (.loc 0) }], sets := [(2, 1)], ghosts := [.ren 0 5] }
def sspec_StripGrease_r2 : Reg := { id := 2, ops := [{ op := .mv (.con (.sc (.int .i64 0))) }], sets := [(3, 0)] }
def sspec_StripGrease_r3 : Reg := { id := 3, ops := [{ op := .mv (.slot 3) },{ op := .mv (.slot 0) },{ op := .len false (.loc 1) },{ op := .bin .lss (.loc 0) (.loc 2) }], sets := [(4, 3)] }
def sspec_StripGrease_r4 : Reg := { id := 5, ops := [{ op := .mv (.slot 0) },{ op := .mv (.slot 3) },{ op := .indexAddr 2 (.loc 0) (.loc 1) },{ op := .fieldAddr (.loc 2) 0 },{ op := .load none (.loc 3) },{ op := .call 250 [(false, .loc 4)] [] },{ op := .un .not (.loc 5) }], sets := [(5, 6)] }
def sspec_StripGrease_r5 : Reg := { id := 6, draw := true, fresh := [1, 2, 3, 4], ops := [{ op := .mv (.slot 2), tau := some [], om := [] },{ op := .mv (.slot 0), tau := some [], om := [] },{ op := .mv (.slot 3), tau := some [], om := [] },{ op := .indexAddr 2 (.loc 1) (.loc 2), tau := some [], om := [] },{ op := .fieldAddr (.loc 3) 0, tau := some [], om := [] },{ op := .load none (.loc 4), tau := some [], om := [] },{ op := .buildSlice 1 1 0 [], tau := some [1], om := [1] },{ op := .mv (.slot 0), tau := some [], om := [] },{ op := .mv (.slot 3), tau := some [], om := [] },{ op := .indexAddr 2 (.loc 7) (.loc 8), tau := some [], om := [] },{ op := .fieldAddr (.loc 9) 1, tau := some [], om := [] },{ op := .load none (.loc 10), tau := some [], om := [] },{ op := .append 2 1 8 false (.loc 6) (.loc 11), tau := some [1, 2], om := [1, 2] },{ op := .build [.sc (.int .i64 0), .nil 1] [(0, 1, .loc 5), (1, 1, .loc 12)], tau := some [], om := [] },{ op := .buildSlice 3 2 1 [.loc 13], tau := some [2, 3], om := [2, 3] },{ op := .append 4 2 32 true (.loc 0) (.loc 14), tau := some [3, 4, 5], om := [3, 4, 5] },{ op := .mv (.loc 15), tau := some [], om := [] }], sets := [(2, 16)], ghosts := [.ren 4 5] }
def sspec_StripGrease_r6 : Reg := { id := 4, ops := [{ op := .mv (.slot 3) },{ op := .bin .add (.loc 0) (.con (.sc (.int .i64 1))) },{ op := .mv (.loc 1) }], sets := [(3, 2)] }
def sspec_StripGrease_r7 : Reg := { id := 7, ops := [{ op := .mv (.slot 2) },{ op := .mv (.loc 0) }], sets := [(1, 1)], clr := [0, 2, 3] }
def sspec_StripGrease_b : SC := .seq (.reg sspec_StripGrease_r0) (.seq (.reg sspec_StripGrease_r1) (.seq (.seq (.reg sspec_StripGrease_r2) (.block 0 (.loop (.seq (.seq (.reg sspec_StripGrease_r3) (.cond 4 (.skip) (.exit 0))) (.seq (.block 1 (.seq (.reg sspec_StripGrease_r4) (.cond 5 (.reg sspec_StripGrease_r5) (.skip)))) (.reg sspec_StripGrease_r6)))))) (.seq (.reg sspec_StripGrease_r7) (.ret))))
def sspec_StripGrease : SFn := { nslots := 6, nobjs := 6, params := [0], ngiven := 0, bor := false, takes := [], body := sspec_StripGrease_b, results := [.slot 1] }
def sspec_StripGrease_t : List Tmp := [0, 2, 3, 4, 9, 18]
attribute [simp] sspec_StripGrease_r0 sspec_StripGrease_r1 sspec_StripGrease_r2 sspec_StripGrease_r3 sspec_StripGrease_r4 sspec_StripGrease_r5 sspec_StripGrease_r6 sspec_StripGrease_r7 sspec_StripGrease_b sspec_StripGrease
def sspec_IsAnswer_r0 : Reg := { id := 0, ops := [{ op := .box 0 (.slot 0) },{ op := .mv (.con (.sc (.bool false))) }], sets := [(1, 0)], clr := [0, 2] }
def sspec_IsAnswer_r1 : Reg := { id := 1, ops := [{ op := .fieldAddr (.slot 1) 0 },{ op := .load none (.loc 0) },{ op := .call 71 [(false, .loc 1), (false, .con (.sc (.int .i64 1))), (false, .con (.sc (.int .i64 9)))] [] },{ op := .mv (.loc 2) },{ op := .fieldAddr (.slot 1) 1, guard := some (3, true) },{ op := .load none (.loc 4), guard := some (3, true) },{ op := .call 312 [(false, .loc 5)] [], guard := some (3, true) },{ op := .pick (.loc 3) (.loc 6) (.con (.sc (.bool false))) },{ op := .mv (.loc 7) }], sets := [(2, 8)], clr := [1] }
def sspec_IsAnswer_b : SC := .seq (.reg sspec_IsAnswer_r0) (.seq (.reg sspec_IsAnswer_r1) (.ret))
def sspec_IsAnswer : SFn := { nslots := 3, nobjs := 1, params := [0], ngiven := 0, bor := false, takes := [], body := sspec_IsAnswer_b, results := [.slot 2] }
def sspec_IsAnswer_t : List Tmp := [0, 1, 2]
attribute [simp] sspec_IsAnswer_r0 sspec_IsAnswer_r1 sspec_IsAnswer_b sspec_IsAnswer
def sspec_IsTranscript_r0 : Reg := { id := 0, ops := [{ op := .mv (.con (.sc (.bool false))) }], clr := [1] }
def sspec_IsTranscript_r1 : Reg := { id := 1, ops := [{ op := .mv (.con (.sc (.int .i64 0))) }], sets := [(2, 0)] }
def sspec_IsTranscript_r2 : Reg := { id := 2, ops := [{ op := .mv (.slot 2) },{ op := .mv (.slot 0) },{ op := .len false (.loc 1) },{ op := .bin .lss (.loc 0) (.loc 2) }], sets := [(3, 3)] }
def sspec_IsTranscript_r3 : Reg := { id := 4, ops := [{ op := .mv (.slot 0) },{ op := .mv (.slot 2) },{ op := .indexAddr 1 (.loc 0) (.loc 1) },{ op := .load none (.loc 2) },{ op := .call 217 [(false, .loc 3)] [] },{ op := .un .not (.loc 4) }], sets := [(4, 5)] }
def sspec_IsTranscript_r4 : Reg := { id := 5, ops := [{ op := .mv (.con (.sc (.bool false))) }], sets := [(1, 0)], clr := [0, 2] }
def sspec_IsTranscript_r5 : Reg := { id := 3, ops := [{ op := .mv (.slot 2) },{ op := .bin .add (.loc 0) (.con (.sc (.int .i64 1))) },{ op := .mv (.loc 1) }], sets := [(2, 2)] }
def sspec_IsTranscript_r6 : Reg := { id := 6, ops := [{ op := .mv (.slot 0) },{ op := .len false (.loc 0) },{ op := .bin .leq (.loc 1) (.con (.sc (.int .i64 12))) },{ op := .mv (.loc 2) }], sets := [(1, 3)], clr := [0, 2] }
def sspec_IsTranscript_b : SC := .seq (.reg sspec_IsTranscript_r0) (.seq (.seq (.reg sspec_IsTranscript_r1) (.block 0 (.loop (.seq (.seq (.reg sspec_IsTranscript_r2) (.cond 3 (.skip) (.exit 0))) (.seq (.block 1 (.seq (.reg sspec_IsTranscript_r3) (.cond 4 (.seq (.reg sspec_IsTranscript_r4) (.ret)) (.skip)))) (.reg sspec_IsTranscript_r5)))))) (.seq (.reg sspec_IsTranscript_r6) (.ret)))
def sspec_IsTranscript : SFn := { nslots := 5, nobjs := 0, params := [0], ngiven := 0, bor := false, takes := [], body := sspec_IsTranscript_b, results := [.slot 1] }
def sspec_IsTranscript_t : List Tmp := [0, 2, 3, 7, 15]
attribute [simp] sspec_IsTranscript_r0 sspec_IsTranscript_r1 sspec_IsTranscript_r2 sspec_IsTranscript_r3 sspec_IsTranscript_r4 sspec_IsTranscript_r5 sspec_IsTranscript_r6 sspec_IsTranscript_b sspec_IsTranscript
def sspec_KeyedHash_r0 : Reg := { id := 0, ops := [{ op := .mv (.con (.sc (.int .i64 0))) }], clr := [2] }
def sspec_KeyedHash_r1 : Reg := { id := 1, ops := [{ op := .mv (.slot 0) },{ op := .buildSlice 0 1 1 [.loc 0] },{ op := .mv (.slot 1) },{ op := .append 1 1 8 false (.loc 1) (.loc 2) },{ op := .mv (.slot 0) },{ op := .buildSlice 2 1 1 [.loc 4] },{ op := .append 3 1 8 false (.loc 3) (.loc 5) },{ op := .call 338 [(false, .loc 6)] [] },{ op := .mv (.loc 7) }], sets := [(2, 8)], clr := [0, 1] }
def sspec_KeyedHash_b : SC := .seq (.reg sspec_KeyedHash_r0) (.seq (.reg sspec_KeyedHash_r1) (.ret))
def sspec_KeyedHash : SFn := { nslots := 3, nobjs := 4, params := [0, 1], ngiven := 0, bor := false, takes := [], body := sspec_KeyedHash_b, results := [.slot 2] }
def sspec_KeyedHash_t : List Tmp := [0, 1, 4]
attribute [simp] sspec_KeyedHash_r0 sspec_KeyedHash_r1 sspec_KeyedHash_b sspec_KeyedHash
def sspec_TranscriptHash_r0 : Reg := { id := 0, ops := [{ op := .mv (.con (.sc (.int .i64 0))) }], clr := [1] }
def sspec_TranscriptHash_r1 : Reg := { id := 1, ops := [{ op := .mv (.con (.sc (.int .i64 1))) }], sets := [(2, 0)] }
def sspec_TranscriptHash_r2 : Reg := { id := 2, ops := [{ op := .mv (.slot 0) },{ op := .call 334 [(false, .loc 0)] [] },{ op := .un .not (.loc 1) }], sets := [(4, 2)] }
def sspec_TranscriptHash_r3 : Reg := { id := 3, ops := [{ op := .mv (.con (.sc (.int .i64 0))) }], sets := [(1, 0)], clr := [0, 2] }
def sspec_TranscriptHash_r4 : Reg := { id := 4, ops := [{ op := .mv (.con (.sc (.int .i64 0))) }], sets := [(3, 0)] }
def sspec_TranscriptHash_r5 : Reg := { id := 5, ops := [{ op := .mv (.slot 3) },{ op := .mv (.slot 0) },{ op := .len false (.loc 1) },{ op := .bin .lss (.loc 0) (.loc 2) }], sets := [(5, 3)] }
def sspec_TranscriptHash_r6 : Reg := { id := 7, draw := true, fresh := [0, 1], ops := [{ op := .mv (.slot 2), tau := some [], om := [] },{ op := .mv (.slot 0), tau := some [], om := [] },{ op := .mv (.slot 3), tau := some [], om := [] },{ op := .indexAddr 1 (.loc 1) (.loc 2), tau := some [], om := [] },{ op := .load none (.loc 3), tau := some [], om := [] },{ op := .len false (.loc 4), tau := some [], om := [] },{ op := .buildSlice 0 1 2 [.loc 0, .loc 5], tau := some [0], om := [0] },{ op := .mv (.slot 0), tau := some [], om := [] },{ op := .mv (.slot 3), tau := some [], om := [] },{ op := .indexAddr 1 (.loc 7) (.loc 8), tau := some [], om := [] },{ op := .load none (.loc 9), tau := some [], om := [] },{ op := .append 1 1 8 false (.loc 6) (.loc 10), tau := some [0, 1], om := [0, 1] },{ op := .call 338 [(false, .loc 11)] [], tau := some [1], om := [] },{ op := .mv (.loc 12), tau := some [], om := [] }], sets := [(2, 13)] }
def sspec_TranscriptHash_r7 : Reg := { id := 6, ops := [{ op := .mv (.slot 3) },{ op := .bin .add (.loc 0) (.con (.sc (.int .i64 1))) },{ op := .mv (.loc 1) }], sets := [(3, 2)] }
def sspec_TranscriptHash_r8 : Reg := { id := 8, ops := [{ op := .mv (.slot 2) },{ op := .mv (.loc 0) }], sets := [(1, 1)], clr := [0, 2, 3] }
def sspec_TranscriptHash_b : SC := .seq (.reg sspec_TranscriptHash_r0) (.seq (.reg sspec_TranscriptHash_r1) (.seq (.seq (.reg sspec_TranscriptHash_r2) (.cond 4 (.seq (.reg sspec_TranscriptHash_r3) (.ret)) (.skip))) (.seq (.seq (.reg sspec_TranscriptHash_r4) (.block 0 (.loop (.seq (.seq (.reg sspec_TranscriptHash_r5) (.cond 5 (.skip) (.exit 0))) (.seq (.block 1 (.reg sspec_TranscriptHash_r6)) (.reg sspec_TranscriptHash_r7)))))) (.seq (.reg sspec_TranscriptHash_r8) (.ret)))))
def sspec_TranscriptHash : SFn := { nslots := 6, nobjs := 2, params := [0], ngiven := 0, bor := false, takes := [], body := sspec_TranscriptHash_b, results := [.slot 1] }
def sspec_TranscriptHash_t : List Tmp := [0, 2, 3, 4, 7, 11]
attribute [simp] sspec_TranscriptHash_r0 sspec_TranscriptHash_r1 sspec_TranscriptHash_r2 sspec_TranscriptHash_r3 sspec_TranscriptHash_r4 sspec_TranscriptHash_r5 sspec_TranscriptHash_r6 sspec_TranscriptHash_r7 sspec_TranscriptHash_r8 sspec_TranscriptHash_b sspec_TranscriptHash
def sspec_EncodeExts_r0 : Reg := { id := 0, ops := [{ op := .mv (.con (.nil 1)) },{ op := .mv (.con (.sc (.bool false))) }], clr := [1, 2] }
def sspec_EncodeExts_r1 : Reg := { id := 1, ops := [{ op := .mv (.slot 0) },{ op := .call 312 [(false, .loc 0)] [] },{ op := .un .not (.loc 1) }], sets := [(5, 2)] }
def sspec_EncodeExts_r2 : Reg := { id := 2, ops := [{ op := .buildSlice 0 1 0 [] },{ op := .mv (.loc 0) },{ op := .mv (.con (.sc (.bool false))) }], sets := [(1, 1), (2, 2)], clr := [0] }
def sspec_EncodeExts_r3 : Reg := { id := 3, ops := [{ op := .mv (.slot 0) },{ op := .len false (.loc 0) },{ op := .buildSlice 1 1 1 [.loc 1] },{ op := .mv (.loc 2) }], sets := [(3, 3)], ghosts := [.ren 1 5] }
def sspec_EncodeExts_r4 : Reg := { id := 4, ops := [{ op := .mv (.con (.sc (.int .i64 0))) }], sets := [(4, 0)] }
def sspec_EncodeExts_r5 : Reg := { id := 5, ops := [{ op := .mv (.slot 4) },{ op := .mv (.slot 0) },{ op := .len false (.loc 1) },{ op := .bin .lss (.loc 0) (.loc 2) }], sets := [(6, 3)] }
def sspec_EncodeExts_r6 : Reg := { id := 7, draw := true, fresh := [2, 3], ops := [{ op := .mv (.slot 3), tau := some [], om := [] },{ op := .mv (.slot 0), tau := some [], om := [] },{ op := .mv (.slot 4), tau := some [], om := [] },{ op := .indexAddr 2 (.loc 1) (.loc 2), tau := some [], om := [] },{ op := .fieldAddr (.loc 3) 0, tau := some [], om := [] },{ op := .load none (.loc 4), tau := some [], om := [] },{ op := .mv (.slot 0), tau := some [], om := [] },{ op := .mv (.slot 4), tau := some [], om := [] },{ op := .indexAddr 2 (.loc 6) (.loc 7), tau := some [], om := [] },{ op := .fieldAddr (.loc 8) 1, tau := some [], om := [] },{ op := .load none (.loc 9), tau := some [], om := [] },{ op := .len false (.loc 10), tau := some [], om := [] },{ op := .buildSlice 2 1 2 [.loc 5, .loc 11], tau := some [2], om := [2] },{ op := .append 3 1 8 false (.loc 0) (.loc 12), tau := some [2, 3, 5], om := [3, 5] },{ op := .mv (.loc 13), tau := some [], om := [] }], sets := [(3, 14)], ghosts := [.ren 3 5] }
def sspec_EncodeExts_r7 : Reg := { id := 8, fresh := [4], ops := [{ op := .mv (.slot 3) },{ op := .mv (.slot 0) },{ op := .mv (.slot 4) },{ op := .indexAddr 2 (.loc 1) (.loc 2) },{ op := .fieldAddr (.loc 3) 1 },{ op := .load none (.loc 4) },{ op := .append 4 1 8 false (.loc 0) (.loc 5) },{ op := .mv (.loc 6) }], sets := [(3, 7)], ghosts := [.ren 4 5] }
def sspec_EncodeExts_r8 : Reg := { id := 6, ops := [{ op := .mv (.slot 4) },{ op := .bin .add (.loc 0) (.con (.sc (.int .i64 1))) },{ op := .mv (.loc 1) }], sets := [(4, 2)] }
def sspec_EncodeExts_r9 : Reg := { id := 9, ops := [{ op := .mv (.slot 3) },{ op := .mv (.loc 0) },{ op := .mv (.con (.sc (.bool true))) }], sets := [(1, 1), (2, 2)], clr := [0, 3, 4] }
def sspec_EncodeExts_b : SC := .seq (.reg sspec_EncodeExts_r0) (.seq (.seq (.reg sspec_EncodeExts_r1) (.cond 5 (.seq (.reg sspec_EncodeExts_r2) (.ret)) (.skip))) (.seq (.reg sspec_EncodeExts_r3) (.seq (.seq (.reg sspec_EncodeExts_r4) (.block 0 (.loop (.seq (.seq (.reg sspec_EncodeExts_r5) (.cond 6 (.skip) (.exit 0))) (.seq (.block 1 (.seq (.reg sspec_EncodeExts_r6) (.reg sspec_EncodeExts_r7))) (.reg sspec_EncodeExts_r8)))))) (.seq (.reg sspec_EncodeExts_r9) (.ret)))))
def sspec_EncodeExts : SFn := { nslots := 7, nobjs := 6, params := [0], ngiven := 0, bor := false, takes := [], body := sspec_EncodeExts_b, results := [.slot 1, .slot 2] }
def sspec_EncodeExts_t : List Tmp := [0, 2, 3, 4, 5, 8, 16]
attribute [simp] sspec_EncodeExts_r0 sspec_EncodeExts_r1 sspec_EncodeExts_r2 sspec_EncodeExts_r3 sspec_EncodeExts_r4 sspec_EncodeExts_r5 sspec_EncodeExts_r6 sspec_EncodeExts_r7 sspec_EncodeExts_r8 sspec_EncodeExts_r9 sspec_EncodeExts_b sspec_EncodeExts
def sspec_Mod_r0 : Reg := { id := 0, ops := [{ op := .mv (.con (.sc (.int .i64 0))) }], clr := [2] }
def sspec_Mod_r1 : Reg := { id := 1, ops := [{ op := .mv (.slot 1) },{ op := .call 71 [(false, .loc 0), (false, .con (.sc (.int .i64 1))), (false, .con (.sc (.int .i64 1000000000000)))] [] },{ op := .un .not (.loc 1) }], sets := [(3, 2)] }
def sspec_Mod_r2 : Reg := { id := 2, ops := [{ op := .mv (.con (.sc (.int .i64 0))) }], sets := [(2, 0)], clr := [0, 1] }
def sspec_Mod_r3 : Reg := { id := 3, ops := [{ op := .mv (.slot 0) },{ op := .mv (.slot 1) },{ op := .bin .rem (.loc 0) (.loc 1) },{ op := .mv (.slot 1) },{ op := .bin .add (.loc 2) (.loc 3) },{ op := .mv (.slot 1) },{ op := .bin .rem (.loc 4) (.loc 5) },{ op := .mv (.loc 6) }], sets := [(2, 7)], clr := [0, 1] }
def sspec_Mod_b : SC := .seq (.reg sspec_Mod_r0) (.seq (.seq (.reg sspec_Mod_r1) (.cond 3 (.seq (.reg sspec_Mod_r2) (.ret)) (.skip))) (.seq (.reg sspec_Mod_r3) (.ret)))
def sspec_Mod : SFn := { nslots := 4, nobjs := 0, params := [0, 1], ngiven := 0, bor := false, takes := [], body := sspec_Mod_b, results := [.slot 2] }
def sspec_Mod_t : List Tmp := [0, 1, 4, 7]
attribute [simp] sspec_Mod_r0 sspec_Mod_r1 sspec_Mod_r2 sspec_Mod_r3 sspec_Mod_b sspec_Mod
def sspec_Hash_r0 : Reg := { id := 0, ops := [{ op := .mv (.con (.sc (.int .i64 0))) }], clr := [1] }
def sspec_Hash_r1 : Reg := { id := 1, ops := [{ op := .mv (.con (.sc (.int .i64 11))) }], sets := [(2, 0)] }
def sspec_Hash_r2 : Reg := { id := 2, ops := [{ op := .mv (.con (.sc (.int .i64 0))) }], sets := [(3, 0)] }
def sspec_Hash_r3 : Reg := { id := 3, ops := [{ op := .mv (.slot 3) },{ op := .mv (.slot 0) },{ op := .len false (.loc 1) },{ op := .bin .lss (.loc 0) (.loc 2) }], sets := [(4, 3)] }
def sspec_Hash_r4 : Reg := { id := 5, ops := [{ op := .mv (.slot 2) },{ op := .bin .mul (.loc 0) (.con (.sc (.int .i64 1000003))) },{ op := .mv (.slot 0) },{ op := .mv (.slot 3) },{ op := .indexAddr 1 (.loc 2) (.loc 3) },{ op := .load none (.loc 4) },{ op := .call 339 [(false, .loc 5), (false, .con (.sc (.int .i64 2147483647)))] [] },{ op := .bin .add (.loc 1) (.loc 6) },{ op := .bin .add (.loc 7) (.con (.sc (.int .i64 13))) },{ op := .bin .rem (.loc 8) (.con (.sc (.int .i64 2147483647))) },{ op := .mv (.loc 9) }], sets := [(2, 10)] }
def sspec_Hash_r5 : Reg := { id := 4, ops := [{ op := .mv (.slot 3) },{ op := .bin .add (.loc 0) (.con (.sc (.int .i64 1))) },{ op := .mv (.loc 1) }], sets := [(3, 2)] }
def sspec_Hash_r6 : Reg := { id := 6, ops := [{ op := .mv (.slot 2) },{ op := .mv (.loc 0) }], sets := [(1, 1)], clr := [0, 2, 3] }
def sspec_Hash_b : SC := .seq (.reg sspec_Hash_r0) (.seq (.reg sspec_Hash_r1) (.seq (.seq (.reg sspec_Hash_r2) (.block 0 (.loop (.seq (.seq (.reg sspec_Hash_r3) (.cond 4 (.skip) (.exit 0))) (.seq (.block 1 (.reg sspec_Hash_r4)) (.reg sspec_Hash_r5)))))) (.seq (.reg sspec_Hash_r6) (.ret))))
def sspec_Hash : SFn := { nslots := 5, nobjs := 0, params := [0], ngiven := 0, bor := false, takes := [], body := sspec_Hash_b, results := [.slot 1] }
def sspec_Hash_t : List Tmp := [0, 2, 3, 4, 8]
attribute [simp] sspec_Hash_r0 sspec_Hash_r1 sspec_Hash_r2 sspec_Hash_r3 sspec_Hash_r4 sspec_Hash_r5 sspec_Hash_r6 sspec_Hash_b sspec_Hash
def sspec_EqualInts_r0 : Reg := { id := 0, ops := [{ op := .mv (.con (.sc (.bool false))) }], clr := [2] }
def sspec_EqualInts_r1 : Reg := { id := 1, ops := [{ op := .mv (.slot 0) },{ op := .len false (.loc 0) },{ op := .mv (.slot 1) },{ op := .len false (.loc 2) },{ op := .bin .neq (.loc 1) (.loc 3) }], sets := [(4, 4)] }
def sspec_EqualInts_r2 : Reg := { id := 2, ops := [{ op := .mv (.con (.sc (.bool false))) }], sets := [(2, 0)], clr := [0, 1] }
def sspec_EqualInts_r3 : Reg := { id := 3, ops := [{ op := .mv (.con (.sc (.int .i64 0))) }], sets := [(3, 0)] }
def sspec_EqualInts_r4 : Reg := { id := 4, ops := [{ op := .mv (.slot 3) },{ op := .mv (.slot 0) },{ op := .len false (.loc 1) },{ op := .bin .lss (.loc 0) (.loc 2) }], sets := [(5, 3)] }
def sspec_EqualInts_r5 : Reg := { id := 6, draw := true, ops := [{ op := .mv (.slot 0), tau := some [], om := [] },{ op := .mv (.slot 3), tau := some [], om := [] },{ op := .indexAddr 1 (.loc 0) (.loc 1), tau := some [], om := [] },{ op := .load none (.loc 2), tau := some [], om := [] },{ op := .mv (.slot 1), tau := some [], om := [] },{ op := .mv (.slot 3), tau := some [], om := [] },{ op := .indexAddr 1 (.loc 4) (.loc 5), tau := some [], om := [] },{ op := .load none (.loc 6), tau := some [], om := [] },{ op := .bin .neq (.loc 3) (.loc 7), tau := some [], om := [] }], sets := [(6, 8)] }
def sspec_EqualInts_r6 : Reg := { id := 7, ops := [{ op := .mv (.con (.sc (.bool false))) }], sets := [(2, 0)], clr := [0, 1, 3] }
def sspec_EqualInts_r7 : Reg := { id := 5, ops := [{ op := .mv (.slot 3) },{ op := .bin .add (.loc 0) (.con (.sc (.int .i64 1))) },{ op := .mv (.loc 1) }], sets := [(3, 2)] }
def sspec_EqualInts_r8 : Reg := { id := 8, ops := [{ op := .mv (.con (.sc (.bool true))) }], sets := [(2, 0)], clr := [0, 1, 3] }
def sspec_EqualInts_b : SC := .seq (.reg sspec_EqualInts_r0) (.seq (.seq (.reg sspec_EqualInts_r1) (.cond 4 (.seq (.reg sspec_EqualInts_r2) (.ret)) (.skip))) (.seq (.seq (.reg sspec_EqualInts_r3) (.block 0 (.loop (.seq (.seq (.reg sspec_EqualInts_r4) (.cond 5 (.skip) (.exit 0))) (.seq (.block 1 (.seq (.reg sspec_EqualInts_r5) (.cond 6 (.seq (.reg sspec_EqualInts_r6) (.ret)) (.skip)))) (.reg sspec_EqualInts_r7)))))) (.seq (.reg sspec_EqualInts_r8) (.ret))))
def sspec_EqualInts : SFn := { nslots := 7, nobjs := 0, params := [0, 1], ngiven := 0, bor := false, takes := [], body := sspec_EqualInts_b, results := [.slot 2] }
def sspec_EqualInts_t : List Tmp := [0, 1, 4, 5, 10, 14, 25]
attribute [simp] sspec_EqualInts_r0 sspec_EqualInts_r1 sspec_EqualInts_r2 sspec_EqualInts_r3 sspec_EqualInts_r4 sspec_EqualInts_r5 sspec_EqualInts_r6 sspec_EqualInts_r7 sspec_EqualInts_r8 sspec_EqualInts_b sspec_EqualInts
def sspec_EqualExts_r0 : Reg := { id := 0, ops := [{ op := .mv (.con (.sc (.bool false))) }], clr := [2] }
def sspec_EqualExts_r1 : Reg := { id := 1, ops := [{ op := .mv (.slot 0) },{ op := .len false (.loc 0) },{ op := .mv (.slot 1) },{ op := .len false (.loc 2) },{ op := .bin .neq (.loc 1) (.loc 3) }], sets := [(4, 4)] }
def sspec_EqualExts_r2 : Reg := { id := 2, ops := [{ op := .mv (.con (.sc (.bool false))) }], sets := [(2, 0)], clr := [0, 1] }
def sspec_EqualExts_r3 : Reg := { id := 3, ops := [{ op := .mv (.con (.sc (.int .i64 0))) }], sets := [(3, 0)] }
def sspec_EqualExts_r4 : Reg := { id := 4, ops := [{ op := .mv (.slot 3) },{ op := .mv (.slot 0) },{ op := .len false (.loc 1) },{ op := .bin .lss (.loc 0) (.loc 2) }], sets := [(5, 3)] }
def sspec_EqualExts_r5 : Reg := { id := 6, draw := true, ops := [{ op := .mv (.slot 0), tau := some [], om := [] },{ op := .mv (.slot 3), tau := some [], om := [] },{ op := .indexAddr 2 (.loc 0) (.loc 1), tau := some [], om := [] },{ op := .fieldAddr (.loc 2) 0, tau := some [], om := [] },{ op := .load none (.loc 3), tau := some [], om := [] },{ op := .mv (.slot 1), tau := some [], om := [] },{ op := .mv (.slot 3), tau := some [], om := [] },{ op := .indexAddr 2 (.loc 5) (.loc 6), tau := some [], om := [] },{ op := .fieldAddr (.loc 7) 0, tau := some [], om := [] },{ op := .load none (.loc 8), tau := some [], om := [] },{ op := .bin .neq (.loc 4) (.loc 9), tau := some [], om := [] },{ op := .mv (.loc 10), tau := some [], om := [] },{ op := .mv (.slot 0), guard := some (11, false), tau := some [], om := [] },{ op := .mv (.slot 3), guard := some (11, false), tau := some [], om := [] },{ op := .indexAddr 2 (.loc 12) (.loc 13), guard := some (11, false), tau := some [], om := [] },{ op := .fieldAddr (.loc 14) 1, guard := some (11, false), tau := some [], om := [] },{ op := .load none (.loc 15), guard := some (11, false), tau := some [], om := [] },{ op := .mv (.slot 1), guard := some (11, false), tau := some [], om := [] },{ op := .mv (.slot 3), guard := some (11, false), tau := some [], om := [] },{ op := .indexAddr 2 (.loc 17) (.loc 18), guard := some (11, false), tau := some [], om := [] },{ op := .fieldAddr (.loc 19) 1, guard := some (11, false), tau := some [], om := [] },{ op := .load none (.loc 20), guard := some (11, false), tau := some [], om := [] },{ op := .call 355 [(false, .loc 16), (false, .loc 21)] [], guard := some (11, false), tau := some [], om := [] },{ op := .un .not (.loc 22), guard := some (11, false), tau := some [], om := [] },{ op := .pick (.loc 11) (.con (.sc (.bool true))) (.loc 23), tau := some [], om := [] }], sets := [(6, 24)] }
def sspec_EqualExts_r6 : Reg := { id := 7, ops := [{ op := .mv (.con (.sc (.bool false))) }], sets := [(2, 0)], clr := [0, 1, 3] }
def sspec_EqualExts_r7 : Reg := { id := 5, ops := [{ op := .mv (.slot 3) },{ op := .bin .add (.loc 0) (.con (.sc (.int .i64 1))) },{ op := .mv (.loc 1) }], sets := [(3, 2)] }
def sspec_EqualExts_r8 : Reg := { id := 8, ops := [{ op := .mv (.con (.sc (.bool true))) }], sets := [(2, 0)], clr := [0, 1, 3] }
def sspec_EqualExts_b : SC := .seq (.reg sspec_EqualExts_r0) (.seq (.seq (.reg sspec_EqualExts_r1) (.cond 4 (.seq (.reg sspec_EqualExts_r2) (.ret)) (.skip))) (.seq (.seq (.reg sspec_EqualExts_r3) (.block 0 (.loop (.seq (.seq (.reg sspec_EqualExts_r4) (.cond 5 (.skip) (.exit 0))) (.seq (.block 1 (.seq (.reg sspec_EqualExts_r5) (.cond 6 (.seq (.reg sspec_EqualExts_r6) (.ret)) (.skip)))) (.reg sspec_EqualExts_r7)))))) (.seq (.reg sspec_EqualExts_r8) (.ret))))
def sspec_EqualExts : SFn := { nslots := 7, nobjs := 0, params := [0, 1], ngiven := 0, bor := false, takes := [], body := sspec_EqualExts_b, results := [.slot 2] }
def sspec_EqualExts_t : List Tmp := [0, 1, 4, 5, 10, 14, 41]
attribute [simp] sspec_EqualExts_r0 sspec_EqualExts_r1 sspec_EqualExts_r2 sspec_EqualExts_r3 sspec_EqualExts_r4 sspec_EqualExts_r5 sspec_EqualExts_r6 sspec_EqualExts_r7 sspec_EqualExts_r8 sspec_EqualExts_b sspec_EqualExts
def sslices_Equal___int_int__r0 : Reg := { id := 0, ops := [{ op := .mv (.con (.sc (.bool false))) }], clr := [2] }
def sslices_Equal___int_int__r1 : Reg := { id := 1, ops := [{ op := .mv (.slot 0) },{ op := .len false (.loc 0) },{ op := .mv (.slot 1) },{ op := .len false (.loc 2) },{ op := .bin .neq (.loc 1) (.loc 3) }], sets := [(4, 4)] }
def sslices_Equal___int_int__r2 : Reg := { id := 2, ops := [{ op := .mv (.con (.sc (.bool false))) }], sets := [(2, 0)], clr := [0, 1] }
def sslices_Equal___int_int__r3 : Reg := { id := 3, ops := [{ op := .mv (.slot 0) },{ op := .len false (.loc 0) },{ op := .mv (.con (.sc (.int .i64 0))) }], sets := [(5, 1), (6, 2)] }
def sslices_Equal___int_int__r4 : Reg := { id := 4, ops := [{ op := .bin .lss (.slot 6) (.slot 5) }], sets := [(7, 0)] }
def sslices_Equal___int_int__r5 : Reg := { id := 5, ops := [{ op := .mv (.slot 6) },{ op := .mv (.loc 0) }], sets := [(3, 1)] }
def sslices_Equal___int_int__r6 : Reg := { id := 6, draw := true, ops := [{ op := .mv (.slot 0), tau := some [], om := [] },{ op := .mv (.slot 3), tau := some [], om := [] },{ op := .indexAddr 1 (.loc 0) (.loc 1), tau := some [], om := [] },{ op := .load none (.loc 2), tau := some [], om := [] },{ op := .mv (.slot 1), tau := some [], om := [] },{ op := .mv (.slot 3), tau := some [], om := [] },{ op := .indexAddr 1 (.loc 4) (.loc 5), tau := some [], om := [] },{ op := .load none (.loc 6), tau := some [], om := [] },{ op := .bin .neq (.loc 3) (.loc 7), tau := some [], om := [] }], sets := [(8, 8)], clr := [3] }
def sslices_Equal___int_int__r7 : Reg := { id := 7, ops := [{ op := .mv (.con (.sc (.bool false))) }], sets := [(2, 0)], clr := [0, 1, 5, 6] }
def sslices_Equal___int_int__r8 : Reg := { id := 8, ops := [{ op := .bin .add (.slot 6) (.con (.sc (.int .i64 1))) },{ op := .mv (.loc 0) }], sets := [(6, 1)] }
def sslices_Equal___int_int__r9 : Reg := { id := 9, ops := [{ op := .mv (.con (.sc (.bool true))) }], sets := [(2, 0)], clr := [0, 1, 5, 6] }
def sslices_Equal___int_int__b : SC := .seq (.reg sslices_Equal___int_int__r0) (.seq (.seq (.reg sslices_Equal___int_int__r1) (.cond 4 (.seq (.reg sslices_Equal___int_int__r2) (.ret)) (.skip))) (.seq (.seq (.reg sslices_Equal___int_int__r3) (.block 0 (.loop (.seq (.reg sslices_Equal___int_int__r4) (.seq (.cond 7 (.skip) (.exit 0)) (.seq (.block 1 (.seq (.reg sslices_Equal___int_int__r5) (.seq (.reg sslices_Equal___int_int__r6) (.cond 8 (.seq (.reg sslices_Equal___int_int__r7) (.ret)) (.skip))))) (.reg sslices_Equal___int_int__r8))))))) (.seq (.reg sslices_Equal___int_int__r9) (.ret))))
def sslices_Equal___int_int_ : SFn := { nslots := 9, nobjs := 0, params := [0, 1], ngiven := 0, bor := false, takes := [], body := sslices_Equal___int_int__b, results := [.slot 2] }
def sslices_Equal___int_int__t : List Tmp := [0, 1, 4, 5, 10, 12, 13, 14, 24]
attribute [simp] sslices_Equal___int_int__r0 sslices_Equal___int_int__r1 sslices_Equal___int_int__r2 sslices_Equal___int_int__r3 sslices_Equal___int_int__r4 sslices_Equal___int_int__r5 sslices_Equal___int_int__r6 sslices_Equal___int_int__r7 sslices_Equal___int_int__r8 sslices_Equal___int_int__r9 sslices_Equal___int_int__b sslices_Equal___int_int_

end Go.Eng.T

namespace Go.Eng.T
abbrev glaws_FnExactRunConsole : Nat := 0
abbrev gspec_RunConsole : Nat := 1
abbrev gimpl_RunConsole : Nat := 2
abbrev glaws_eqStringS : Nat := 3
abbrev glaws_markStringS : Nat := 4
abbrev glaws_heldStringS : Nat := 5
abbrev glaws_FnExactConsoleLine : Nat := 6
abbrev glaws_szWorld : Nat := 7
abbrev glaws_toWorld : Nat := 8
abbrev gspec_ConsoleLine : Nat := 9
abbrev gimpl_ConsoleLine : Nat := 10
abbrev glaws_eqWorld : Nat := 11
abbrev glaws_markWorld : Nat := 12
abbrev glaws_heldWorld : Nat := 13
abbrev gstrings_Split : Nat := 14
abbrev glaws_markText : Nat := 15
abbrev glaws_szIntS : Nat := 16
abbrev glaws_szEndpointS : Nat := 17
abbrev glaws_szRollout : Nat := 18
abbrev glaws_szDialedS : Nat := 19
abbrev glaws_szLoggedS : Nat := 20
abbrev gspec_l40Words : Nat := 21
abbrev gspec_l32Copy : Nat := 22
abbrev gspec_l40Nums : Nat := 23
abbrev gspec_l40World : Nat := 24
abbrev gspec_TryAll : Nat := 25
abbrev gspec_l40Event : Nat := 26
abbrev gspec_ApplyEvent : Nat := 27
abbrev gspec_l40Said : Nat := 28
abbrev gspec_l40None : Nat := 29
abbrev gspec_l40One : Nat := 30
abbrev glaws_toIntS : Nat := 31
abbrev glaws_toEndpointS : Nat := 32
abbrev glaws_toRollout : Nat := 33
abbrev glaws_toDialedS : Nat := 34
abbrev glaws_toLoggedS : Nat := 35
abbrev gimpl_ConsoleLine_1 : Nat := 36
abbrev gslices_DeleteFunc___string_string_ : Nat := 37
abbrev gimpl_copyWorld : Nat := 38
abbrev gimpl_numbersOf : Nat := 39
abbrev gimpl_eventOf : Nat := 40
abbrev gimpl_ApplyEvent : Nat := 41
abbrev gimpl_told : Nat := 42
abbrev gimpl_newWorldOf : Nat := 43
abbrev gimpl_TryAll : Nat := 44
abbrev gimpl_askNumber : Nat := 45
abbrev gimpl_ask : Nat := 46
abbrev glaws_eqIntS : Nat := 47
abbrev glaws_eqEndpointS : Nat := 48
abbrev glaws_eqRollout : Nat := 49
abbrev glaws_eqDialedS : Nat := 50
abbrev glaws_eqLoggedS : Nat := 51
abbrev glaws_markIntS : Nat := 52
abbrev glaws_markEndpointS : Nat := 53
abbrev glaws_markRollout : Nat := 54
abbrev glaws_markDialedS : Nat := 55
abbrev glaws_markLoggedS : Nat := 56
abbrev glaws_heldIntS : Nat := 57
abbrev glaws_heldEndpointS : Nat := 58
abbrev glaws_heldRollout : Nat := 59
abbrev glaws_heldDialedS : Nat := 60
abbrev glaws_heldLoggedS : Nat := 61
abbrev glaws_szEndpoint : Nat := 62
abbrev glaws_szDialed : Nat := 63
abbrev glaws_szLogged : Nat := 64
abbrev gspec_l32End : Nat := 65
abbrev gspec_l26Copy : Nat := 66
abbrev gspec_l32Dialed : Nat := 67
abbrev gspec_ParseInt : Nat := 68
abbrev gspec_ExampleEnds : Nat := 69
abbrev gspec_NewWorld : Nat := 70
abbrev gspec_l1In : Nat := 71
abbrev gspec_StepDial : Nat := 72
abbrev gspec_EventName : Nat := 73
abbrev gspec_StepStart : Nat := 74
abbrev gspec_StepStage : Nat := 75
abbrev gspec_StepRetire : Nat := 76
abbrev gspec_StepRevive : Nat := 77
abbrev gspec_StepBox : Nat := 78
abbrev gspec_StepClear : Nat := 79
abbrev gspec_StepTick : Nat := 80
abbrev gspec_FormatDialed : Nat := 81
abbrev gspec_SignalNow : Nat := 82
abbrev gspec_SignalName : Nat := 83
abbrev gspec_HardEnds : Nat := 84
abbrev gspec_FormatList : Nat := 85
abbrev gspec_VersionCounts : Nat := 86
abbrev gspec_HurtEnds : Nat := 87
abbrev gspec_FormatWorld : Nat := 88
abbrev gspec_FaultOf : Nat := 89
abbrev gspec_l40Or : Nat := 90
abbrev gspec_FormatEnd : Nat := 91
abbrev gspec_BestNow : Nat := 92
abbrev gspec_FormatInt : Nat := 93
abbrev gspec_HasVersion : Nat := 94
abbrev gspec_ListsOf : Nat := 95
abbrev gspec_Stranded : Nat := 96
abbrev gspec_ReportNow : Nat := 97
abbrev glaws_toEndpoint : Nat := 98
abbrev glaws_toDialed : Nat := 99
abbrev glaws_toLogged : Nat := 100
abbrev gimpl_copyRollout : Nat := 101
abbrev gimpl_copyEndpoint : Nat := 102
abbrev gimpl_copyDialed : Nat := 103
abbrev gimpl_ParseInt : Nat := 104
abbrev gslices_Index___string_string_ : Nat := 105
abbrev gimpl_StepDial : Nat := 106
abbrev gimpl_StepStart : Nat := 107
abbrev gimpl_StepStage : Nat := 108
abbrev gimpl_StepRetire : Nat := 109
abbrev gimpl_StepRevive : Nat := 110
abbrev gimpl_StepBox : Nat := 111
abbrev gimpl_StepClear : Nat := 112
abbrev gimpl_StepTick : Nat := 113
abbrev gimpl_InRange : Nat := 114
abbrev gimpl_ExampleEnds : Nat := 115
abbrev gimpl_NewWorld : Nat := 116
abbrev gimpl_hasEnd : Nat := 117
abbrev gimpl_FormatEnd : Nat := 118
abbrev gimpl_BestNow : Nat := 119
abbrev gimpl_FormatInt : Nat := 120
abbrev gimpl_HasVersion : Nat := 121
abbrev gimpl_FormatList : Nat := 122
abbrev gimpl_ListsOf : Nat := 123
abbrev gimpl_Stranded : Nat := 124
abbrev gimpl_ReportNow : Nat := 125
abbrev gimpl_FormatDialed : Nat := 126
abbrev gimpl_SignalNow : Nat := 127
abbrev gimpl_SignalName : Nat := 128
abbrev gimpl_HardEnds : Nat := 129
abbrev gimpl_VersionCounts : Nat := 130
abbrev gimpl_HurtEnds : Nat := 131
abbrev gimpl_FormatWorld : Nat := 132
abbrev gimpl_FaultOf : Nat := 133
abbrev glaws_eqEndpoint : Nat := 134
abbrev glaws_eqDialed : Nat := 135
abbrev glaws_eqLogged : Nat := 136
abbrev glaws_markBoxS : Nat := 137
abbrev glaws_heldBoxS : Nat := 138
abbrev glaws_szBoxS : Nat := 139
abbrev glaws_szDeal : Nat := 140
abbrev gspec_IsWorld : Nat := 141
abbrev gspec_DialOf : Nat := 142
abbrev gspec_IsOnNew : Nat := 143
abbrev gspec_IsBadDial : Nat := 144
abbrev gspec_IsRollout : Nat := 145
abbrev gspec_EnterStage : Nat := 146
abbrev gspec_NextStage : Nat := 147
abbrev gspec_BackStage : Nat := 148
abbrev gspec_LeaveRollout : Nat := 149
abbrev gspec_RetireVersion : Nat := 150
abbrev gspec_AddVersion : Nat := 151
abbrev gspec_IsBox : Nat := 152
abbrev gspec_FormatDeal : Nat := 153
abbrev gspec_l39Join : Nat := 154
abbrev gspec_MaskedBy : Nat := 155
abbrev gspec_SignalOf : Nat := 156
abbrev gspec_HardenedBoxes : Nat := 157
abbrev gspec_l37Bad : Nat := 158
abbrev gspec_l4Put : Nat := 159
abbrev gspec_FormatRollout : Nat := 160
abbrev gspec_IsBounded : Nat := 161
abbrev gspec_IsTogether : Nat := 162
abbrev gspec_IsCounted : Nat := 163
abbrev gspec_IsSober : Nat := 164
abbrev gspec_BestFor : Nat := 165
abbrev gspec_l9Has : Nat := 166
abbrev gspec_l12Without : Nat := 167
abbrev gspec_BestCommon : Nat := 168
abbrev gspec_HideSmall : Nat := 169
abbrev glaws_toBoxS : Nat := 170
abbrev glaws_toDeal : Nat := 171
abbrev gimpl_copyPath : Nat := 172
abbrev gimpl_DialOf : Nat := 173
abbrev gimpl_IsOnNew : Nat := 174
abbrev gimpl_IsBadDial : Nat := 175
abbrev gimpl_IsRollout : Nat := 176
abbrev gimpl_EnterStage : Nat := 177
abbrev gimpl_NextStage : Nat := 178
abbrev gimpl_BackStage : Nat := 179
abbrev gimpl_LeaveRollout : Nat := 180
abbrev gimpl_RetireVersion : Nat := 181
abbrev gimpl_AddVersion : Nat := 182
abbrev gimpl_IsBox : Nat := 183
abbrev gimpl_IsWorld : Nat := 184
abbrev gstrconv_Itoa : Nat := 185
abbrev gimpl_BestFor : Nat := 186
abbrev gimpl_joined : Nat := 187
abbrev gslices_Contains___int_int_ : Nat := 188
abbrev gimpl_without : Nat := 189
abbrev gimpl_BestCommon : Nat := 190
abbrev gimpl_HideSmall : Nat := 191
abbrev gimpl_FormatDeal : Nat := 192
abbrev gimpl_MaskedBy : Nat := 193
abbrev gimpl_SignalOf : Nat := 194
abbrev gimpl_HardenedBoxes : Nat := 195
abbrev gimpl_isHurt : Nat := 196
abbrev gslices_Sort___int_int_ : Nat := 197
abbrev gslices_Compact___int_int_ : Nat := 198
abbrev gimpl_FormatRollout : Nat := 199
abbrev gimpl_IsBounded : Nat := 200
abbrev gimpl_IsTogether : Nat := 201
abbrev gimpl_IsCounted : Nat := 202
abbrev gimpl_IsSober : Nat := 203
abbrev glaws_eqBoxS : Nat := 204
abbrev glaws_eqDeal : Nat := 205
abbrev glaws_szBox : Nat := 206
abbrev gspec_IsEndpoint : Nat := 207
abbrev gspec_AreVersions : Nat := 208
abbrev gspec_l32Tags : Nat := 209
abbrev gspec_IsValidKey : Nat := 210
abbrev gspec_AllReach : Nat := 211
abbrev gspec_l33Clip : Nat := 212
abbrev gspec_EndDial : Nat := 213
abbrev gspec_IsIn : Nat := 214
abbrev gspec_Max : Nat := 215
abbrev gspec_MayRetire : Nat := 216
abbrev gspec_l9Byte : Nat := 217
abbrev gspec_RefusesGrease : Nat := 218
abbrev gspec_MostHurt : Nat := 219
abbrev gspec_IsClearPath : Nat := 220
abbrev gspec_IsHardened : Nat := 221
abbrev gspec_LostVersions : Nat := 222
abbrev gspec_l21Left : Nat := 223
abbrev gspec_CommonOf : Nat := 224
abbrev gspec_AreCounts : Nat := 225
abbrev glaws_toBox : Nat := 226
abbrev gimpl_EndDial : Nat := 227
abbrev gimpl_IsIn : Nat := 228
abbrev gimpl_isBad : Nat := 229
abbrev gimpl_withVersion : Nat := 230
abbrev gimpl_MayRetire : Nat := 231
abbrev gimpl_AreVersions : Nat := 232
abbrev gimpl_areNumbers : Nat := 233
abbrev gimpl_AllReach : Nat := 234
abbrev gimpl_areTags : Nat := 235
abbrev gimpl_IsValidKey : Nat := 236
abbrev gimpl_IsWorld_1 : Nat := 237
abbrev gslices_ContainsFunc___impl_Endpoint_impl_Endpoint_ : Nat := 238
abbrev gimpl_IsEndpoint : Nat := 239
abbrev gimpl_LostVersions : Nat := 240
abbrev gstrings_Join : Nat := 241
abbrev gimpl_CommonOf : Nat := 242
abbrev gimpl_canHide : Nat := 243
abbrev gimpl_RefusesGrease : Nat := 244
abbrev gimpl_MostHurt : Nat := 245
abbrev gimpl_IsClearPath : Nat := 246
abbrev gimpl_IsSober_1 : Nat := 247
abbrev gslices_ContainsFunc___impl_Logged_impl_Logged_ : Nat := 248
abbrev glaws_eqBox : Nat := 249
abbrev gspec_IsReserved : Nat := 250
abbrev gspec_HelloOf : Nat := 251
abbrev gspec_Dial : Nat := 252
abbrev gspec_Min : Nat := 253
abbrev gspec_CountIn : Nat := 254
abbrev gspec_UseOf : Nat := 255
abbrev gspec_PlainHello : Nat := 256
abbrev gspec_l29One : Nat := 257
abbrev gspec_PassBox : Nat := 258
abbrev gspec_IsClear : Nat := 259
abbrev gspec_IsOpenPath : Nat := 260
abbrev gimpl_HelloOf : Nat := 261
abbrev gimpl_Dial : Nat := 262
abbrev gimpl_CountIn : Nat := 263
abbrev gslices_Insert___int_int_ : Nat := 264
abbrev gimpl_UseOf : Nat := 265
abbrev gimpl_areNumbers_1 : Nat := 266
abbrev gslices_ContainsFunc___int_int_ : Nat := 267
abbrev gimpl_AllReach_1 : Nat := 268
abbrev gslices_ContainsFunc_____int___int_ : Nat := 269
abbrev gimpl_IsHardened : Nat := 270
abbrev gimpl_IsEndpoint_1 : Nat := 271
abbrev gslices_ContainsFunc___impl_Box_impl_Box_ : Nat := 272
abbrev gimpl_PlainHello : Nat := 273
abbrev gimpl_PassPath : Nat := 274
abbrev gimpl_AreCounts : Nat := 275
abbrev gimpl_reservedTags : Nat := 276
abbrev gimpl_RefusesGrease_1 : Nat := 277
abbrev gimpl_IsClearPath_1 : Nat := 278
abbrev gimpl_IsReserved : Nat := 279
abbrev gspec_HelloFor : Nat := 280
abbrev gspec_DialOnce : Nat := 281
abbrev gspec_GivenUp : Nat := 282
abbrev gspec_AddGrease : Nat := 283
abbrev gspec_CeilDiv : Nat := 284
abbrev gspec_IsHello : Nat := 285
abbrev gspec_PassPath : Nat := 286
abbrev gimpl_HelloFor : Nat := 287
abbrev gimpl_DialOnce : Nat := 288
abbrev gimpl_GivenUp : Nat := 289
abbrev gimpl_AddGrease : Nat := 290
abbrev gimpl_CeilDiv : Nat := 291
abbrev gimpl_IsHello : Nat := 292
abbrev gimpl_copyHello : Nat := 293
abbrev gimpl_PassBox : Nat := 294
abbrev gimpl_loses : Nat := 295
abbrev gslices_Clone___int_int_ : Nat := 296
abbrev gimpl_PassBox_1 : Nat := 297
abbrev gimpl_keptExts : Nat := 298
abbrev gimpl_IsClear : Nat := 299
abbrev gspec_PassesWhole : Nat := 300
abbrev gspec_l18Hello : Nat := 301
abbrev gspec_FallbackHello : Nat := 302
abbrev gspec_ChooseAnswer : Nat := 303
abbrev gspec_FitsHello : Nat := 304
abbrev gspec_HelloBytes : Nat := 305
abbrev gspec_AnswerBytes : Nat := 306
abbrev gspec_FinishOf : Nat := 307
abbrev gspec_TagsOf : Nat := 308
abbrev gspec_ExtOf : Nat := 309
abbrev gspec_GreaseTag : Nat := 310
abbrev gspec_l11Copy : Nat := 311
abbrev gspec_AreExts : Nat := 312
abbrev gspec_PickOf : Nat := 313
abbrev gimpl_PassesWhole : Nat := 314
abbrev gimpl_FallbackHello : Nat := 315
abbrev gimpl_dealt : Nat := 316
abbrev gimpl_TagsOf : Nat := 317
abbrev gimpl_copyExts : Nat := 318
abbrev gimpl_GreaseTag : Nat := 319
abbrev gimpl_AreExts : Nat := 320
abbrev gimpl_ExtOf : Nat := 321
abbrev gimpl_PickOf : Nat := 322
abbrev gslices_Repeat___int_int_ : Nat := 323
abbrev gslices_Insert___impl_Ext_impl_Ext_ : Nat := 324
abbrev gslices_Max___int_int_ : Nat := 325
abbrev gimpl_loses_1 : Nat := 326
abbrev gslices_ContainsFunc___impl_Ext_impl_Ext_ : Nat := 327
abbrev gspec_EqualHellos : Nat := 328
abbrev gspec_LostTags : Nat := 329
abbrev gspec_PartHello : Nat := 330
abbrev gspec_KnownOf : Nat := 331
abbrev gspec_StripGrease : Nat := 332
abbrev gspec_IsAnswer : Nat := 333
abbrev gspec_IsTranscript : Nat := 334
abbrev gspec_TranscriptHash : Nat := 335
abbrev gspec_KeyedHash : Nat := 336
abbrev gspec_EncodeExts : Nat := 337
abbrev gspec_Hash : Nat := 338
abbrev gspec_Mod : Nat := 339
abbrev gimpl_EqualHellos : Nat := 340
abbrev gimpl_LostTags : Nat := 341
abbrev gimpl_PartHello : Nat := 342
abbrev gimpl_ChooseAnswer : Nat := 343
abbrev gimpl_EditAnswer : Nat := 344
abbrev gimpl_HelloBytes : Nat := 345
abbrev gimpl_AnswerBytes : Nat := 346
abbrev gimpl_FinishOf : Nat := 347
abbrev gimpl_FitsHello : Nat := 348
abbrev gimpl_ChecksOut : Nat := 349
abbrev gimpl_copyExts_1 : Nat := 350
abbrev gimpl_ExtOf_1 : Nat := 351
abbrev gslices_IndexFunc___impl_Ext_impl_Ext_ : Nat := 352
abbrev gimpl_Hash : Nat := 353
abbrev gimpl_Mod : Nat := 354
abbrev gspec_EqualInts : Nat := 355
abbrev gspec_EqualExts : Nat := 356
abbrev gslices_Equal___int_int_ : Nat := 357
abbrev gimpl_EqualExts : Nat := 358
abbrev gimpl_PartHello_1 : Nat := 359
abbrev gimpl_IsOpenPath : Nat := 360
abbrev gimpl_KnownOf : Nat := 361
abbrev gimpl_StripGrease : Nat := 362
abbrev gimpl_EditAnswer_1 : Nat := 363
abbrev gimpl_IsTranscript : Nat := 364
abbrev gimpl_TranscriptHash : Nat := 365
abbrev gimpl_KeyedHash : Nat := 366
abbrev gimpl_EncodeExts : Nat := 367
abbrev gslices_Concat___int_int_ : Nat := 368
abbrev gimpl_IsAnswer : Nat := 369
abbrev gimpl_HasGrease : Nat := 370
abbrev gimpl_equalExt : Nat := 371
abbrev gslices_EqualFunc___impl_Ext___impl_Ext_impl_Ext_impl_Ext_ : Nat := 372
abbrev gimpl_StripGrease_1 : Nat := 373
abbrev gimpl_KnownOf_1 : Nat := 374
abbrev gimpl_IsTranscript_1 : Nat := 375
abbrev glaws_FnExactEventName : Nat := 376
abbrev gimpl_EventName : Nat := 377
abbrev glaws_FnExactIsBadDial : Nat := 378
abbrev glaws_FnExactCountKind : Nat := 379
abbrev glaws_szEventS : Nat := 380
abbrev glaws_toEventS : Nat := 381
abbrev gspec_CountKind : Nat := 382
abbrev gimpl_CountKind : Nat := 383
abbrev glaws_eqEventS : Nat := 384
abbrev glaws_FnExactExampleEnds : Nat := 385
abbrev glaws_szEvent : Nat := 386
abbrev glaws_toEvent : Nat := 387
abbrev glaws_eqEvent : Nat := 388
abbrev gslices_Index___int_int_ : Nat := 389
abbrev gslices_IndexFunc___string_string_ : Nat := 390
abbrev gmath_bits_Len : Nat := 391
abbrev gslices_pdqsortOrdered_int_ : Nat := 392
abbrev gslices_IndexFunc___impl_Endpoint_impl_Endpoint_ : Nat := 393
abbrev gslices_insertionSortOrdered_int_ : Nat := 394
abbrev gslices_heapSortOrdered_int_ : Nat := 395
abbrev gslices_breakPatternsOrdered_int_ : Nat := 396
abbrev gslices_choosePivotOrdered_int_ : Nat := 397
abbrev gslices_reverseRangeOrdered_int_ : Nat := 398
abbrev gslices_partialInsertionSortOrdered_int_ : Nat := 399
abbrev gcmp_Less_int_ : Nat := 400
abbrev gslices_partitionEqualOrdered_int_ : Nat := 401
abbrev gslices_partitionOrdered_int_ : Nat := 402
abbrev gslices_IndexFunc___impl_Logged_impl_Logged_ : Nat := 403
abbrev gslices_IndexFunc___int_int_ : Nat := 404
abbrev gslices_IndexFunc_____int___int_ : Nat := 405
abbrev gslices_IndexFunc___impl_Box_impl_Box_ : Nat := 406
abbrev gslices_siftDownOrdered_int_ : Nat := 407
abbrev gslices_nextPowerOfTwo : Nat := 408
abbrev g__slices_xorshift__Next : Nat := 409
abbrev gslices_medianAdjacentOrdered_int_ : Nat := 410
abbrev gslices_medianOrdered_int_ : Nat := 411
abbrev gslices_rotateRight_int_ : Nat := 412
abbrev gslices_rotateLeft_int_ : Nat := 413
abbrev gslices_order2Ordered_int_ : Nat := 414
abbrev gslices_Reverse___int_int_ : Nat := 415
abbrev gslices_rotateRight_impl_Ext_ : Nat := 416
abbrev gslices_rotateLeft_impl_Ext_ : Nat := 417
abbrev gslices_Reverse___impl_Ext_impl_Ext_ : Nat := 418
abbrev gslices_Grow___int_int_ : Nat := 419
abbrev glaws_FnExactTriesOf : Nat := 420
abbrev gspec_TriesOf : Nat := 421
abbrev gimpl_TriesOf : Nat := 422
abbrev glaws_FnExactDialsBy : Nat := 423
abbrev gspec_DialsBy : Nat := 424
abbrev gimpl_DialsBy : Nat := 425
abbrev glaws_FnExactOkShare : Nat := 426
abbrev gspec_OkShare : Nat := 427
abbrev gimpl_OkShare : Nat := 428
abbrev glaws_FnExactIsSober : Nat := 429
abbrev glaws_FnExactIsCounted : Nat := 430
abbrev glaws_FnExactIsOnNew : Nat := 431
abbrev glaws_FnExactOnNewCount : Nat := 432
abbrev gspec_OnNewCount : Nat := 433
abbrev gimpl_OnNewCount : Nat := 434
abbrev glaws_FnExactSignalNow : Nat := 435
abbrev glaws_FnExactHasVersion : Nat := 436
abbrev glaws_FnExactHardEnds : Nat := 437
abbrev glaws_FnExactStepTick : Nat := 438
abbrev glaws_FnExactStepClear : Nat := 439
abbrev glaws_FnExactStepBox : Nat := 440
abbrev glaws_markBox : Nat := 441
abbrev glaws_FnExactNewWorld : Nat := 442
abbrev glaws_FnExactLeaveRollout : Nat := 443
abbrev glaws_FnExactStepRetire : Nat := 444
abbrev glaws_FnExactBestNow : Nat := 445
abbrev glaws_FnExactVersionCounts : Nat := 446
abbrev glaws_FnExactReportNow : Nat := 447
abbrev glaws_FnExactFormatDeal : Nat := 448
abbrev glaws_FnExactFormatDialed : Nat := 449
abbrev glaws_FnExactFormatEnd : Nat := 450
abbrev glaws_FnExactFormatWorld : Nat := 451
abbrev glaws_FnExactFormatList : Nat := 452
abbrev glaws_FnExactFormatRollout : Nat := 453
abbrev glaws_FnExactEnterStage : Nat := 454
abbrev glaws_FnExactHurtEnds : Nat := 455
abbrev glaws_FnExactStepStart : Nat := 456
abbrev glaws_FnExactIsBounded : Nat := 457
abbrev glaws_FnExactStepRevive : Nat := 458
abbrev glaws_FnStages : Nat := 459
abbrev glaws_big : Nat := 460
abbrev gspec_DrawEnterStage : Nat := 461
abbrev glaws_left : Nat := 462
abbrev glaws_within : Nat := 463
abbrev glaws_FnMeasured : Nat := 464
abbrev gspec_DrawOkShare : Nat := 465
abbrev glaws_sumOf : Nat := 466
abbrev glaws_FnExactStepStage : Nat := 467
abbrev glaws_FnDialing : Nat := 468
abbrev gspec_DrawDialOf : Nat := 469
abbrev gimpl_EndVersions : Nat := 470
abbrev glaws_contains : Nat := 471
abbrev gspec_DrawSignalNow : Nat := 472
abbrev gspec_l1New : Nat := 473
abbrev gspec_l1Once : Nat := 474
abbrev gspec_l32Any : Nat := 475
abbrev gspec_l33World : Nat := 476
abbrev gspec_l38World : Nat := 477
abbrev gspec_l1Below : Nat := 478
abbrev gspec_l32World : Nat := 479
abbrev gspec_l12Any : Nat := 480
abbrev gspec_l1Int : Nat := 481
abbrev gspec_l31Any : Nat := 482
abbrev gspec_l26Any : Nat := 483
abbrev gspec_l36Events : Nat := 484
abbrev gspec_RunEvents : Nat := 485
abbrev gspec_l1Byte : Nat := 486
abbrev gspec_l26Draw : Nat := 487
abbrev gspec_l31Draw : Nat := 488
abbrev gspec_l17Tags : Nat := 489
abbrev gspec_l12Draw : Nat := 490
abbrev gspec_l19Any : Nat := 491
abbrev gspec_l36Event : Nat := 492
abbrev gspec_l19Path : Nat := 493
abbrev gspec_l19Draw : Nat := 494
abbrev glaws_FnWorlds : Nat := 495
abbrev gspec_DrawNewWorld : Nat := 496
abbrev gspec_DrawEndVersions : Nat := 497
abbrev gimpl_EqualInts : Nat := 498
abbrev gspec_DrawEqualWorlds : Nat := 499
abbrev gimpl_EqualWorlds : Nat := 500
abbrev gslices_EqualFunc___impl_Endpoint___impl_Endpoint_impl_Endpoint_impl_Endpoint_ : Nat := 501
abbrev gimpl_EqualEndpoints : Nat := 502
abbrev gimpl_EqualBoxes : Nat := 503
abbrev gslices_EqualFunc___impl_Box___impl_Box_impl_Box_impl_Box_ : Nat := 504
abbrev gimpl_EqualRollouts : Nat := 505
abbrev gslices_EqualFunc___impl_Dialed___impl_Dialed_impl_Dialed_impl_Dialed_ : Nat := 506
abbrev gimpl_EqualDialed : Nat := 507
abbrev gimpl_EqualDeals : Nat := 508
abbrev gslices_EqualFunc___impl_Logged___impl_Logged_impl_Logged_impl_Logged_ : Nat := 509
abbrev gimpl_equalLogged : Nat := 510
end Go.Eng.T

namespace Go.Eng.T

abbrev I (a : Int) : V := .sc (.int .i64 a)
abbrev B (a : Bool) : V := .sc (.bool a)
abbrev S (a : ByteArray) : V := .sc (.string a)
abbrev Rel := List V → List O → V → List O → Prop

def ints (xs : List Int) : List V := xs.map fun x => .sc (.int .i64 x)

@[simp] theorem ints_len (xs : List Int) : (ints xs).length = xs.length := by simp [ints]
@[simp] theorem ints_nil : ints [] = [] := rfl
theorem ints_get (xs : List Int) (j : Nat) : (ints xs)[j]? = (xs[j]?).map fun x => V.sc (.int .i64 x) := by simp [ints]
@[simp] theorem ints_at {xs : List Int} {j : Nat} (h : j < xs.length) : (ints xs)[j]? = some (V.sc (.int .i64 xs[j])) := by simp [ints, h]
@[simp] theorem ints_elem {xs : List Int} {j : Nat} (h : j < (ints xs).length) : (ints xs)[j] = V.sc (.int .i64 (xs[j]'(by simpa using h))) := by simp [ints]
@[simp] theorem ints_ro (xs : List Int) (k : Nat) : (ints xs).map (roCell k) = ints xs := by simp [ints, Function.comp_def, roCell]
theorem ints_app (xs ys : List Int) : ints xs ++ ints ys = ints (xs ++ ys) := by simp [ints]
@[simp] theorem ints_push (xs : List Int) (y : Int) : ints xs ++ [V.sc (.int .i64 y)] = ints (xs ++ [y]) := by simp [ints]
@[simp] theorem ints_set (xs : List Int) (j : Nat) (y : Int) : (ints xs).set j (V.sc (.int .i64 y)) = ints (xs.set j y) := by simp [ints]
@[simp] theorem ints_rep (n : Nat) : (List.replicate n [V.sc (.int .i64 0)]).flatten = ints (List.replicate n 0) := by
  induction n with
  | zero => rfl
  | succ n ih => simp [List.replicate_succ, ints] at *
@[simp] theorem ints_sc (xs : List Int) : (ints xs).all isSc = true := by simp [ints, isSc]
@[simp] theorem ints_part (xs : List Int) (o n : Nat) : part (ints xs) 1 o n = ints ((xs.drop o).take n) := by simp [part, ints]
@[simp] theorem ints_isSc : ∀ xs : List Int, (∀ x, x ∈ ints xs → isSc x = true) = True := by simp [ints, isSc]

@[simp] theorem getAt_lit (a : V) (cs : List V) (off n : Nat) : getAt (a :: cs) off n = if off + n ≤ cs.length + 1 then some (((a :: cs).drop off).take n) else none := by simp [getAt]

structure Deal where
  ok : Bool
  version : Int
  tags : List Int
  deriving DecidableEq
structure Box where
  limit : Int
  drops : List Int
  strips : List Int
  lists : Bool
  deriving DecidableEq
structure Dialed where
  deal : Deal
  tries : Int
  up : List Int
  deriving DecidableEq
structure Rollout where
  version : Int
  stages : List Int
  pos : Int
  off : Bool
  deriving DecidableEq
structure Endpoint where
  versions : List Int
  tags : List Int
  path : List Box
  cls : Int
  deriving DecidableEq
structure Logged where
  fin : Int
  tick : Int
  on : Bool
  dialed : Dialed
  deriving DecidableEq
structure World where
  server : List Int
  tags : List Int
  key : Int
  ends : List Endpoint
  rollout : Rollout
  least : Int
  percent : Int
  stage : List Dialed
  log : List Logged
  now : Int
  hurt : Int
  reached : Int
  deriving DecidableEq
structure Event where
  kind : Int
  n : Int
  box : Box
  deriving DecidableEq

abbrev sl (fl e n : Nat) (cs : List V) : V := .sl fl e n cs
def eDeal (d : Deal) : List V := [.sc (.bool d.ok), .sc (.int .i64 d.version), .sl 0 1 d.tags.length (ints d.tags)]
def eBox (d : Box) : List V := [.sc (.int .i64 d.limit), .sl 0 1 d.drops.length (ints d.drops), .sl 0 1 d.strips.length (ints d.strips), .sc (.bool d.lists)]
def eDialed (d : Dialed) : List V := [.sc (.bool d.deal.ok), .sc (.int .i64 d.deal.version), .sl 0 1 d.deal.tags.length (ints d.deal.tags), .sc (.int .i64 d.tries), .sl 0 1 d.up.length (ints d.up)]
def eRollout (d : Rollout) : List V := [.sc (.int .i64 d.version), .sl 0 1 d.stages.length (ints d.stages), .sc (.int .i64 d.pos), .sc (.bool d.off)]
def eEndpoint (d : Endpoint) : List V := [.sl 0 1 d.versions.length (ints d.versions), .sl 0 1 d.tags.length (ints d.tags), .sl 0 4 d.path.length (d.path.flatMap eBox), .sc (.int .i64 d.cls)]
def eLogged (d : Logged) : List V := [.sc (.int .i64 d.fin), .sc (.int .i64 d.tick), .sc (.bool d.on), .sc (.bool d.dialed.deal.ok), .sc (.int .i64 d.dialed.deal.version), .sl 0 1 d.dialed.deal.tags.length (ints d.dialed.deal.tags), .sc (.int .i64 d.dialed.tries), .sl 0 1 d.dialed.up.length (ints d.dialed.up)]
def eWorld (d : World) : List V := [.sl 0 1 d.server.length (ints d.server), .sl 0 1 d.tags.length (ints d.tags), .sc (.int .i64 d.key), .sl 0 4 d.ends.length (d.ends.flatMap eEndpoint), .sc (.int .i64 d.rollout.version), .sl 0 1 d.rollout.stages.length (ints d.rollout.stages), .sc (.int .i64 d.rollout.pos), .sc (.bool d.rollout.off), .sc (.int .i64 d.least), .sc (.int .i64 d.percent), .sl 0 5 d.stage.length (d.stage.flatMap eDialed), .sl 0 8 d.log.length (d.log.flatMap eLogged), .sc (.int .i64 d.now), .sc (.int .i64 d.hurt), .sc (.int .i64 d.reached)]
def eEvent (d : Event) : List V := [.sc (.int .i64 d.kind), .sc (.int .i64 d.n), .sc (.int .i64 d.box.limit), .sl 0 1 d.box.drops.length (ints d.box.drops), .sl 0 1 d.box.strips.length (ints d.box.strips), .sc (.bool d.box.lists)]

/-- an argument's cells -/
abbrev arg (cs : List V) : V := .agg (cs.map (roCell 1))

section
variable {α : Type} {f : α → List V} {e : Nat}
theorem flat_ro (hf : ∀ x, (f x).map (roCell 0) = f x) (xs : List α) : (xs.flatMap f).map (roCell 0) = xs.flatMap f := by
  induction xs with
  | nil => rfl
  | cons x xs ih => simp [hf, ih]
theorem putAt_app (cs ds : List V) (o : Nat) : ∀ (azs : List V), o + azs.length ≤ ds.length → putAt (cs ++ ds) (cs.length + o) azs = cs ++ putAt ds o azs := by
  intro azs
  induction azs generalizing ds o with
  | nil => intro _; simp [putAt]
  | cons a azs ih =>
    intro h
    simp only [putAt, List.length_cons] at *
    rw [List.set_append_right _ _ (by omega), show cs.length + o - cs.length = o by omega, show cs.length + o + 1 = cs.length + (o + 1) by omega]
    exact ih _ _ (by simp; omega)
theorem putAt_zero : ∀ (ds azs : List V), azs.length ≤ ds.length → putAt ds 0 azs = azs ++ ds.drop azs.length := by
  have key : ∀ (azs pre ds : List V), azs.length ≤ ds.length → putAt (pre ++ ds) pre.length azs = pre ++ azs ++ ds.drop azs.length := by
    intro azs
    induction azs with
    | nil => intro pre ds _; simp [putAt]
    | cons a azs ih =>
      intro pre ds h
      cases ds with
      | nil => simp at h
      | cons d ds =>
        have := ih (pre ++ [a]) ds (by simpa using h)
        simp only [putAt]
        rw [List.set_append_right _ _ (Nat.le_refl _), Nat.sub_self, List.set_cons_zero]
        simpa using this
  intro ds azs h
  simpa using key azs [] ds h
theorem putAt_flat (hf : ∀ x, (f x).length = e) {xs : List α} {i : Nat} (hi : i < xs.length) (x : α) : putAt (xs.flatMap f) (i * e) (f x) = (xs.set i x).flatMap f := by
  induction xs generalizing i with
  | nil => simp at hi
  | cons y ys ih =>
    cases i with
    | zero =>
      rw [Nat.zero_mul, putAt_zero _ _ (by simp [hf])]
      simp [hf]
    | succ i =>
      simp only [List.flatMap_cons, List.set_cons_succ]
      rw [show (i + 1) * e = (f y).length + i * e by rw [hf, Nat.add_mul]; omega, putAt_app]
      · rw [ih (by simpa using hi)]
      · rw [flat_len hf, hf]
        have := Nat.mul_le_mul_right e (show i + 1 ≤ ys.length by simp at hi; omega)
        rw [Nat.add_mul] at this; omega
theorem rep_flat (z : α) (n : Nat) : (List.replicate n (f z)).flatten = (List.replicate n z).flatMap f := by
  induction n with
  | zero => rfl
  | succ n ih => simp [List.replicate_succ, ih]
end

/-- nothing lies there -/
def fd (o : O) : Prop := o = .free ∨ o = .dead
@[simp] theorem fd_free : fd .free := .inl rfl
@[simp] theorem fd_dead : fd .dead := .inr rfl

/-- a copy under way -/
def mix {α : Type} (z : α) (xs : List α) (j : Nat) : List α := xs.take j ++ List.replicate (xs.length - j) z
section
variable {α : Type} {z : α} {xs : List α} {j : Nat}
@[simp] theorem mix_len (h : j ≤ xs.length) : (mix z xs j).length = xs.length := by simp [mix]; omega
theorem mix_zero : mix z xs 0 = List.replicate xs.length z := by simp [mix]
theorem mix_all (h : xs.length ≤ j) : mix z xs j = xs := by simp [mix, Nat.sub_eq_zero_of_le h, List.take_of_length_le h]
theorem mix_set (h : j < xs.length) : (mix z xs j).set j xs[j] = mix z xs (j + 1) := by
  unfold mix
  have hl : (xs.take j).length = j := by simp; omega
  rw [List.set_append_right _ _ (by omega), hl, Nat.sub_self]
  obtain ⟨k, hk⟩ : ∃ k, xs.length - j = k + 1 := ⟨xs.length - j - 1, by omega⟩
  have hk' : xs.length - (j + 1) = k := by omega
  have ht : xs.take (j + 1) = xs.take j ++ [xs[j]] := by simp
  rw [hk, hk', List.replicate_succ, List.set_cons_zero, ht, List.append_assoc]
  rfl
end

theorem wrap_id {n : Int} (h1 : -9223372036854775808 ≤ n) (h2 : n ≤ 9223372036854775807) : IntKind.i64.wrap n = n := by
  show (if (true && decide (n % (2 ^ 64 : Int) ≥ (2 ^ 63 : Int))) = true then n % (2 ^ 64 : Int) - (2 ^ 64 : Int) else n % (2 ^ 64 : Int)) = n
  by_cases h : n % (2 ^ 64 : Int) ≥ (2 ^ 63 : Int)
  · rw [if_pos (by simp only [h]; rfl)]; omega
  · rw [if_neg (by simp only [h]; simp)]; omega

section
variable {α : Type} {xs ys : List α} {j : Nat}
theorem take_step (hx : j < xs.length) (hy : j < ys.length) (h : xs.take j = ys.take j) (he : xs[j] = ys[j]) : xs.take (j + 1) = ys.take (j + 1) := by
  rw [List.take_add_one, List.take_add_one, h, List.getElem?_eq_getElem hx, List.getElem?_eq_getElem hy, he]
theorem take_all (hx : xs.length ≤ j) (hl : xs.length = ys.length) (h : xs.take j = ys.take j) : xs = ys := by
  rwa [List.take_of_length_le hx, List.take_of_length_le (by omega)] at h
end

/-- how much a value holds -/
def sumF {α : Type} (f : α → Nat) (xs : List α) : Nat := xs.length + (xs.map f).sum
def szDeal (d : Deal) : Nat := d.tags.length
def szBox (d : Box) : Nat := d.drops.length + d.strips.length
def szDialed (d : Dialed) : Nat := szDeal d.deal + d.up.length
def szRollout (d : Rollout) : Nat := d.stages.length
def szEndpoint (d : Endpoint) : Nat := d.versions.length + d.tags.length + sumF szBox d.path
def szLogged (d : Logged) : Nat := szDialed d.dialed
def szWorld (d : World) : Nat := d.server.length + d.tags.length + sumF szEndpoint d.ends + szRollout d.rollout + sumF szDialed d.stage + sumF szLogged d.log
def szEvent (d : Event) : Nat := szBox d.box
/-- what is left of l, or -1 -/
def szl (n : Nat) (l : Int) : Int := if l < n then -1 else l - n

section
variable {α : Type} {f : α → Nat} {xs : List α} {j : Nat}
theorem sum_take (h : j < xs.length) : ((xs.take (j + 1)).map f).sum = ((xs.take j).map f).sum + f xs[j] := by
  rw [List.take_add_one, List.getElem?_eq_getElem h, List.map_append, List.sum_append, Option.toList_some, List.map_cons, List.map_nil, List.sum_cons, List.sum_nil, Nat.add_zero]
theorem sum_take_le : ((xs.take j).map f).sum ≤ (xs.map f).sum := by
  conv => rhs; rw [← List.take_append_drop j xs, List.map_append, List.sum_append]
  omega
theorem sum_all (h : xs.length ≤ j) : ((xs.take j).map f).sum = (xs.map f).sum := by rw [List.take_of_length_le h]
theorem size_at (h : j < xs.length) : f xs[j] ≤ sumF f xs := by
  have h1 := sum_take (f := f) h
  have h2 := sum_take_le (f := f) (xs := xs) (j := j + 1)
  unfold sumF; omega
theorem size_len : xs.length ≤ sumF f xs := by unfold sumF; omega
end
/-- lengths that a value may have at all -/
def lnInts (xs : List Int) : Prop := xs.length ≤ maxLen
def lnS {α : Type} (f : α → Prop) (xs : List α) : Prop := xs.length ≤ maxLen ∧ ∀ (j : Nat) (h : j < xs.length), f xs[j]
def lnDeal (d : Deal) : Prop := lnInts d.tags
def lnBox (d : Box) : Prop := lnInts d.drops ∧ lnInts d.strips
def lnDialed (d : Dialed) : Prop := lnDeal d.deal ∧ lnInts d.up
def lnRollout (d : Rollout) : Prop := lnInts d.stages
def lnEndpoint (d : Endpoint) : Prop := lnInts d.versions ∧ lnInts d.tags ∧ lnS lnBox d.path
def lnLogged (d : Logged) : Prop := lnDialed d.dialed
def lnWorld (d : World) : Prop := lnInts d.server ∧ lnInts d.tags ∧ lnS lnEndpoint d.ends ∧ lnRollout d.rollout ∧ lnS lnDialed d.stage ∧ lnS lnLogged d.log
def lnEvent (d : Event) : Prop := lnBox d.box

theorem eDeal_len (x : Deal) : (eDeal x).length = 3 := rfl
theorem eBox_len (x : Box) : (eBox x).length = 4 := rfl
theorem eDialed_len (x : Dialed) : (eDialed x).length = 5 := rfl
theorem eRollout_len (x : Rollout) : (eRollout x).length = 4 := rfl
theorem eEndpoint_len (x : Endpoint) : (eEndpoint x).length = 4 := rfl
theorem eLogged_len (x : Logged) : (eLogged x).length = 8 := rfl
theorem eWorld_len (x : World) : (eWorld x).length = 15 := rfl
theorem eEvent_len (x : Event) : (eEvent x).length = 6 := rfl
@[simp] theorem eBox_ro (xs : List Box) : (xs.flatMap eBox).map (roCell 0) = xs.flatMap eBox := flat_ro (fun _ => rfl) xs
@[simp] theorem eDialed_ro (xs : List Dialed) : (xs.flatMap eDialed).map (roCell 0) = xs.flatMap eDialed := flat_ro (fun _ => rfl) xs
@[simp] theorem eEndpoint_ro (xs : List Endpoint) : (xs.flatMap eEndpoint).map (roCell 0) = xs.flatMap eEndpoint := flat_ro (fun _ => rfl) xs
@[simp] theorem eLogged_ro (xs : List Logged) : (xs.flatMap eLogged).map (roCell 0) = xs.flatMap eLogged := flat_ro (fun _ => rfl) xs
@[simp] theorem eEvent_ro (xs : List Event) : (xs.flatMap eEvent).map (roCell 0) = xs.flatMap eEvent := flat_ro (fun _ => rfl) xs
@[simp high] theorem eBox_at {xs : List Box} {j : Nat} (h : j < xs.length) : getAt (xs.flatMap eBox) (j * 4) 4 = some (eBox xs[j]) := getAt_flat eBox_len h
@[simp high] theorem eDialed_at {xs : List Dialed} {j : Nat} (h : j < xs.length) : getAt (xs.flatMap eDialed) (j * 5) 5 = some (eDialed xs[j]) := getAt_flat eDialed_len h
@[simp high] theorem eEndpoint_at {xs : List Endpoint} {j : Nat} (h : j < xs.length) : getAt (xs.flatMap eEndpoint) (j * 4) 4 = some (eEndpoint xs[j]) := getAt_flat eEndpoint_len h
@[simp high] theorem eLogged_at {xs : List Logged} {j : Nat} (h : j < xs.length) : getAt (xs.flatMap eLogged) (j * 8) 8 = some (eLogged xs[j]) := getAt_flat eLogged_len h
@[simp high] theorem eEvent_at {xs : List Event} {j : Nat} (h : j < xs.length) : getAt (xs.flatMap eEvent) (j * 6) 6 = some (eEvent xs[j]) := getAt_flat eEvent_len h
@[simp high] theorem eBox_flen (xs : List Box) : (xs.flatMap eBox).length = xs.length * 4 := flat_len eBox_len xs
@[simp high] theorem eBox_put {xs : List Box} {j : Nat} (h : j < xs.length) (a : Int) (b c : List Int) (d : Bool) {nb : Nat} (hb : nb = b.length) {nc : Nat} (hc : nc = c.length) : putAt (xs.flatMap eBox) (j * 4) [.sc (.int .i64 a), .sl 0 1 nb (ints b), .sl 0 1 nc (ints c), .sc (.bool d)] = (xs.set j ⟨a, b, c, d⟩).flatMap eBox := by subst hb; subst hc; exact putAt_flat eBox_len h ⟨a, b, c, d⟩
theorem eBox_push (xs : List Box) (a : Int) (b c : List Int) (d : Bool) {nb : Nat} (hb : nb = b.length) {nc : Nat} (hc : nc = c.length) : xs.flatMap eBox ++ [.sc (.int .i64 a), .sl 0 1 nb (ints b), .sl 0 1 nc (ints c), .sc (.bool d)] = (xs ++ [(⟨a, b, c, d⟩ : Box)]).flatMap eBox := by subst hb; subst hc; simp [eBox]
@[simp high] theorem eDialed_flen (xs : List Dialed) : (xs.flatMap eDialed).length = xs.length * 5 := flat_len eDialed_len xs
@[simp high] theorem eDialed_put {xs : List Dialed} {j : Nat} (h : j < xs.length) (a : Bool) (b : Int) (c : List Int) (d : Int) (u : List Int) {nc : Nat} (hc : nc = c.length) {nu : Nat} (hu : nu = u.length) : putAt (xs.flatMap eDialed) (j * 5) [.sc (.bool a), .sc (.int .i64 b), .sl 0 1 nc (ints c), .sc (.int .i64 d), .sl 0 1 nu (ints u)] = (xs.set j ⟨⟨a, b, c⟩, d, u⟩).flatMap eDialed := by subst hc; subst hu; exact putAt_flat eDialed_len h ⟨⟨a, b, c⟩, d, u⟩
theorem eDialed_push (xs : List Dialed) (a : Bool) (b : Int) (c : List Int) (d : Int) (u : List Int) {nc : Nat} (hc : nc = c.length) {nu : Nat} (hu : nu = u.length) : xs.flatMap eDialed ++ [.sc (.bool a), .sc (.int .i64 b), .sl 0 1 nc (ints c), .sc (.int .i64 d), .sl 0 1 nu (ints u)] = (xs ++ [(⟨⟨a, b, c⟩, d, u⟩ : Dialed)]).flatMap eDialed := by subst hc; subst hu; simp [eDialed]
@[simp high] theorem eEndpoint_flen (xs : List Endpoint) : (xs.flatMap eEndpoint).length = xs.length * 4 := flat_len eEndpoint_len xs
@[simp high] theorem eEndpoint_put {xs : List Endpoint} {j : Nat} (h : j < xs.length) (a b : List Int) (c : List Box) (d : Int) {na : Nat} (ha : na = a.length) {nb : Nat} (hb : nb = b.length) {nc : Nat} (hc : nc = c.length) : putAt (xs.flatMap eEndpoint) (j * 4) [.sl 0 1 na (ints a), .sl 0 1 nb (ints b), .sl 0 4 nc (c.flatMap eBox), .sc (.int .i64 d)] = (xs.set j ⟨a, b, c, d⟩).flatMap eEndpoint := by subst ha; subst hb; subst hc; exact putAt_flat eEndpoint_len h ⟨a, b, c, d⟩
theorem eEndpoint_push (xs : List Endpoint) (a b : List Int) (c : List Box) (d : Int) {na : Nat} (ha : na = a.length) {nb : Nat} (hb : nb = b.length) {nc : Nat} (hc : nc = c.length) : xs.flatMap eEndpoint ++ [.sl 0 1 na (ints a), .sl 0 1 nb (ints b), .sl 0 4 nc (c.flatMap eBox), .sc (.int .i64 d)] = (xs ++ [(⟨a, b, c, d⟩ : Endpoint)]).flatMap eEndpoint := by subst ha; subst hb; subst hc; simp [eEndpoint]
@[simp high] theorem eLogged_flen (xs : List Logged) : (xs.flatMap eLogged).length = xs.length * 8 := flat_len eLogged_len xs
@[simp high] theorem eLogged_put {xs : List Logged} {j : Nat} (h : j < xs.length) (m n : Int) (o a : Bool) (b : Int) (c : List Int) (d : Int) (u : List Int) {nc : Nat} (hc : nc = c.length) {nu : Nat} (hu : nu = u.length) : putAt (xs.flatMap eLogged) (j * 8) [.sc (.int .i64 m), .sc (.int .i64 n), .sc (.bool o), .sc (.bool a), .sc (.int .i64 b), .sl 0 1 nc (ints c), .sc (.int .i64 d), .sl 0 1 nu (ints u)] = (xs.set j ⟨m, n, o, ⟨⟨a, b, c⟩, d, u⟩⟩).flatMap eLogged := by subst hc; subst hu; exact putAt_flat eLogged_len h ⟨m, n, o, ⟨⟨a, b, c⟩, d, u⟩⟩
theorem eLogged_push (xs : List Logged) (m n : Int) (o a : Bool) (b : Int) (c : List Int) (d : Int) (u : List Int) {nc : Nat} (hc : nc = c.length) {nu : Nat} (hu : nu = u.length) : xs.flatMap eLogged ++ [.sc (.int .i64 m), .sc (.int .i64 n), .sc (.bool o), .sc (.bool a), .sc (.int .i64 b), .sl 0 1 nc (ints c), .sc (.int .i64 d), .sl 0 1 nu (ints u)] = (xs ++ [(⟨m, n, o, ⟨⟨a, b, c⟩, d, u⟩⟩ : Logged)]).flatMap eLogged := by subst hc; subst hu; simp [eLogged]
@[simp high] theorem eEvent_flen (xs : List Event) : (xs.flatMap eEvent).length = xs.length * 6 := flat_len eEvent_len xs
@[simp high] theorem eEvent_put {xs : List Event} {j : Nat} (h : j < xs.length) (m n : Int) (a : Int) (b c : List Int) (d : Bool) {nb : Nat} (hb : nb = b.length) {nc : Nat} (hc : nc = c.length) : putAt (xs.flatMap eEvent) (j * 6) [.sc (.int .i64 m), .sc (.int .i64 n), .sc (.int .i64 a), .sl 0 1 nb (ints b), .sl 0 1 nc (ints c), .sc (.bool d)] = (xs.set j ⟨m, n, ⟨a, b, c, d⟩⟩).flatMap eEvent := by subst hb; subst hc; exact putAt_flat eEvent_len h ⟨m, n, ⟨a, b, c, d⟩⟩
theorem eEvent_push (xs : List Event) (m n : Int) (a : Int) (b c : List Int) (d : Bool) {nb : Nat} (hb : nb = b.length) {nc : Nat} (hc : nc = c.length) : xs.flatMap eEvent ++ [.sc (.int .i64 m), .sc (.int .i64 n), .sc (.int .i64 a), .sl 0 1 nb (ints b), .sl 0 1 nc (ints c), .sc (.bool d)] = (xs ++ [(⟨m, n, ⟨a, b, c, d⟩⟩ : Event)]).flatMap eEvent := by subst hb; subst hc; simp [eEvent]

@[simp high] theorem eBox_c0 {xs : List Box} {j : Nat} (h : j < xs.length) : (xs.flatMap eBox)[j * 4]? = some (.sc (.int .i64 xs[j].limit)) := by
  have := getCell_flat (o := 0) eBox_len h (by omega)
  simpa [eBox] using this
@[simp high] theorem eBox_c1 {xs : List Box} {j : Nat} (h : j < xs.length) : (xs.flatMap eBox)[j * 4 + 1]? = some (.sl 0 1 xs[j].drops.length (ints xs[j].drops)) := by
  have := getCell_flat (o := 1) eBox_len h (by omega)
  simpa [eBox] using this
@[simp high] theorem eBox_c2 {xs : List Box} {j : Nat} (h : j < xs.length) : (xs.flatMap eBox)[j * 4 + 2]? = some (.sl 0 1 xs[j].strips.length (ints xs[j].strips)) := by
  have := getCell_flat (o := 2) eBox_len h (by omega)
  simpa [eBox] using this
@[simp high] theorem eBox_c3 {xs : List Box} {j : Nat} (h : j < xs.length) : (xs.flatMap eBox)[j * 4 + 3]? = some (.sc (.bool xs[j].lists)) := by
  have := getCell_flat (o := 3) eBox_len h (by omega)
  simpa [eBox] using this
@[simp high] theorem eDialed_c0 {xs : List Dialed} {j : Nat} (h : j < xs.length) : (xs.flatMap eDialed)[j * 5]? = some (.sc (.bool xs[j].deal.ok)) := by
  have := getCell_flat (o := 0) eDialed_len h (by omega)
  simpa [eDialed] using this
@[simp high] theorem eDialed_c1 {xs : List Dialed} {j : Nat} (h : j < xs.length) : (xs.flatMap eDialed)[j * 5 + 1]? = some (.sc (.int .i64 xs[j].deal.version)) := by
  have := getCell_flat (o := 1) eDialed_len h (by omega)
  simpa [eDialed] using this
@[simp high] theorem eDialed_c2 {xs : List Dialed} {j : Nat} (h : j < xs.length) : (xs.flatMap eDialed)[j * 5 + 2]? = some (.sl 0 1 xs[j].deal.tags.length (ints xs[j].deal.tags)) := by
  have := getCell_flat (o := 2) eDialed_len h (by omega)
  simpa [eDialed] using this
@[simp high] theorem eDialed_c3 {xs : List Dialed} {j : Nat} (h : j < xs.length) : (xs.flatMap eDialed)[j * 5 + 3]? = some (.sc (.int .i64 xs[j].tries)) := by
  have := getCell_flat (o := 3) eDialed_len h (by omega)
  simpa [eDialed] using this
@[simp high] theorem eDialed_c4 {xs : List Dialed} {j : Nat} (h : j < xs.length) : (xs.flatMap eDialed)[j * 5 + 4]? = some (.sl 0 1 xs[j].up.length (ints xs[j].up)) := by
  have := getCell_flat (o := 4) eDialed_len h (by omega)
  simpa [eDialed] using this
@[simp high] theorem eEndpoint_c0 {xs : List Endpoint} {j : Nat} (h : j < xs.length) : (xs.flatMap eEndpoint)[j * 4]? = some (.sl 0 1 xs[j].versions.length (ints xs[j].versions)) := by
  have := getCell_flat (o := 0) eEndpoint_len h (by omega)
  simpa [eEndpoint] using this
@[simp high] theorem eEndpoint_c1 {xs : List Endpoint} {j : Nat} (h : j < xs.length) : (xs.flatMap eEndpoint)[j * 4 + 1]? = some (.sl 0 1 xs[j].tags.length (ints xs[j].tags)) := by
  have := getCell_flat (o := 1) eEndpoint_len h (by omega)
  simpa [eEndpoint] using this
@[simp high] theorem eEndpoint_c2 {xs : List Endpoint} {j : Nat} (h : j < xs.length) : (xs.flatMap eEndpoint)[j * 4 + 2]? = some (.sl 0 4 xs[j].path.length (xs[j].path.flatMap eBox)) := by
  have := getCell_flat (o := 2) eEndpoint_len h (by omega)
  simpa [eEndpoint] using this
@[simp high] theorem eEndpoint_c3 {xs : List Endpoint} {j : Nat} (h : j < xs.length) : (xs.flatMap eEndpoint)[j * 4 + 3]? = some (.sc (.int .i64 xs[j].cls)) := by
  have := getCell_flat (o := 3) eEndpoint_len h (by omega)
  simpa [eEndpoint] using this
@[simp high] theorem eLogged_c0 {xs : List Logged} {j : Nat} (h : j < xs.length) : (xs.flatMap eLogged)[j * 8]? = some (.sc (.int .i64 xs[j].fin)) := by
  have := getCell_flat (o := 0) eLogged_len h (by omega)
  simpa [eLogged] using this
@[simp high] theorem eLogged_c1 {xs : List Logged} {j : Nat} (h : j < xs.length) : (xs.flatMap eLogged)[j * 8 + 1]? = some (.sc (.int .i64 xs[j].tick)) := by
  have := getCell_flat (o := 1) eLogged_len h (by omega)
  simpa [eLogged] using this
@[simp high] theorem eLogged_c2 {xs : List Logged} {j : Nat} (h : j < xs.length) : (xs.flatMap eLogged)[j * 8 + 2]? = some (.sc (.bool xs[j].on)) := by
  have := getCell_flat (o := 2) eLogged_len h (by omega)
  simpa [eLogged] using this
@[simp high] theorem eLogged_c3 {xs : List Logged} {j : Nat} (h : j < xs.length) : (xs.flatMap eLogged)[j * 8 + 3]? = some (.sc (.bool xs[j].dialed.deal.ok)) := by
  have := getCell_flat (o := 3) eLogged_len h (by omega)
  simpa [eLogged] using this
@[simp high] theorem eLogged_c4 {xs : List Logged} {j : Nat} (h : j < xs.length) : (xs.flatMap eLogged)[j * 8 + 4]? = some (.sc (.int .i64 xs[j].dialed.deal.version)) := by
  have := getCell_flat (o := 4) eLogged_len h (by omega)
  simpa [eLogged] using this
@[simp high] theorem eLogged_c5 {xs : List Logged} {j : Nat} (h : j < xs.length) : (xs.flatMap eLogged)[j * 8 + 5]? = some (.sl 0 1 xs[j].dialed.deal.tags.length (ints xs[j].dialed.deal.tags)) := by
  have := getCell_flat (o := 5) eLogged_len h (by omega)
  simpa [eLogged] using this
@[simp high] theorem eLogged_c6 {xs : List Logged} {j : Nat} (h : j < xs.length) : (xs.flatMap eLogged)[j * 8 + 6]? = some (.sc (.int .i64 xs[j].dialed.tries)) := by
  have := getCell_flat (o := 6) eLogged_len h (by omega)
  simpa [eLogged] using this
@[simp high] theorem eLogged_c7 {xs : List Logged} {j : Nat} (h : j < xs.length) : (xs.flatMap eLogged)[j * 8 + 7]? = some (.sl 0 1 xs[j].dialed.up.length (ints xs[j].dialed.up)) := by
  have := getCell_flat (o := 7) eLogged_len h (by omega)
  simpa [eLogged] using this
@[simp high] theorem eEvent_c0 {xs : List Event} {j : Nat} (h : j < xs.length) : (xs.flatMap eEvent)[j * 6]? = some (.sc (.int .i64 xs[j].kind)) := by
  have := getCell_flat (o := 0) eEvent_len h (by omega)
  simpa [eEvent] using this
@[simp high] theorem eEvent_c1 {xs : List Event} {j : Nat} (h : j < xs.length) : (xs.flatMap eEvent)[j * 6 + 1]? = some (.sc (.int .i64 xs[j].n)) := by
  have := getCell_flat (o := 1) eEvent_len h (by omega)
  simpa [eEvent] using this
@[simp high] theorem eEvent_c2 {xs : List Event} {j : Nat} (h : j < xs.length) : (xs.flatMap eEvent)[j * 6 + 2]? = some (.sc (.int .i64 xs[j].box.limit)) := by
  have := getCell_flat (o := 2) eEvent_len h (by omega)
  simpa [eEvent] using this
@[simp high] theorem eEvent_c3 {xs : List Event} {j : Nat} (h : j < xs.length) : (xs.flatMap eEvent)[j * 6 + 3]? = some (.sl 0 1 xs[j].box.drops.length (ints xs[j].box.drops)) := by
  have := getCell_flat (o := 3) eEvent_len h (by omega)
  simpa [eEvent] using this
@[simp high] theorem eEvent_c4 {xs : List Event} {j : Nat} (h : j < xs.length) : (xs.flatMap eEvent)[j * 6 + 4]? = some (.sl 0 1 xs[j].box.strips.length (ints xs[j].box.strips)) := by
  have := getCell_flat (o := 4) eEvent_len h (by omega)
  simpa [eEvent] using this
@[simp high] theorem eEvent_c5 {xs : List Event} {j : Nat} (h : j < xs.length) : (xs.flatMap eEvent)[j * 6 + 5]? = some (.sc (.bool xs[j].box.lists)) := by
  have := getCell_flat (o := 5) eEvent_len h (by omega)
  simpa [eEvent] using this

theorem getPart_flat {α : Type} {f : α → List V} {e : Nat} (hf : ∀ x, (f x).length = e) {xs : List α} {j o n : Nat} (h : j < xs.length) (ho : o + n ≤ e) : getAt (xs.flatMap f) (j * e + o) n = some (((f xs[j]).drop o).take n) := by
  unfold getAt
  have hl := flat_len hf xs
  have h2 : j * e + e ≤ xs.length * e := by
    have := Nat.mul_le_mul_right e (show j + 1 ≤ xs.length by omega)
    rw [Nat.add_mul] at this; omega
  rw [hl, if_pos (by omega), ← List.drop_drop, flat_drop hf, List.drop_eq_getElem_cons h, List.flatMap_cons, List.drop_append, List.take_append]
  have h3 := hf xs[j]
  rw [List.length_drop, h3]
  have : n - (e - o) = 0 := by omega
  rw [this, List.take_zero, List.append_nil]
@[simp high] theorem eLogged_p3 {xs : List Logged} {j : Nat} (h : j < xs.length) : getAt (xs.flatMap eLogged) (j * 8 + 3) 5 = some (eDialed xs[j].dialed) := getPart_flat eLogged_len h (by omega)
@[simp high] theorem eLogged_q3 {xs : List Logged} {j : Nat} (h : j < xs.length) : getAt (xs.flatMap eLogged) (j * 8 + 3) 3 = some (eDeal xs[j].dialed.deal) := getPart_flat eLogged_len h (by omega)
@[simp high] theorem eDialed_q0 {xs : List Dialed} {j : Nat} (h : j < xs.length) : getAt (xs.flatMap eDialed) (j * 5) 3 = some (eDeal xs[j].deal) := getPart_flat (o := 0) eDialed_len h (by omega)
@[simp high] theorem eEvent_p2 {xs : List Event} {j : Nat} (h : j < xs.length) : getAt (xs.flatMap eEvent) (j * 6 + 2) 4 = some (eBox xs[j].box) := getPart_flat eEvent_len h (by omega)

attribute [simp] Nat.add_one_le_iff eDeal eBox eDialed eRollout eEndpoint eLogged eWorld eEvent
end Go.Eng.T

namespace Go.Eng.T


abbrev InS (R : Rel) : Prop := ∀ a b c : Int, R [I a, I b, I c] [] (B (decide (b ≤ a ∧ a ≤ c))) []
theorem l1In_b (D : Dn) : InS (Body D sspec_l1In) := by
  intro a b c
  by_cases h1 : b ≤ a <;> by_cases h2 : a ≤ c <;> simp -implicitDefEqProofs [h1, h2]
theorem InRange_b (D : Dn) : InS (Body D simpl_InRange) := by
  intro a b c
  by_cases h1 : b ≤ a <;> by_cases h2 : a ≤ c <;> simp -implicitDefEqProofs [h1, h2]

def evNames : List (List UInt8) := [[], [100, 105, 97, 108], [115, 116, 97, 114, 116], [115, 116, 97, 103, 101], [114, 101, 116, 105, 114, 101], [114, 101, 118, 105, 118, 101], [98, 111, 120], [99, 108, 101, 97, 114], [116, 105, 99, 107]]
def evName (k : Int) : ByteArray := if 1 ≤ k ∧ k ≤ 8 then ⟨(evNames.getD k.toNat []).toArray⟩ else ⟨#[]⟩
theorem evCases {k : Int} (h : 1 ≤ k ∧ k ≤ 8) : k = 1 ∨ k = 2 ∨ k = 3 ∨ k = 4 ∨ k = 5 ∨ k = 6 ∨ k = 7 ∨ k = 8 := by omega
abbrev EventNameS (R : Rel) : Prop := ∀ k : Int, R [I k] [] (S (evName k)) []

abbrev FnExactEventNameS (R : Rel) : Prop := ∀ k : Int, R [I k] [] (B true) []
end Go.Eng.T

namespace Go.Eng.T

abbrev szIntSS (R : Rel) : Prop := ∀ (xs : List Int) (l : Int), 0 ≤ l → l ≤ 4194304 → lnInts xs → R [.sl 1 1 xs.length (ints xs), I l] [] (I (szl xs.length l)) []
abbrev toIntSS (R : Rel) : Prop := ∀ (xs : List Int), xs.length * 8 ≤ 2 ^ 40 → R [.sl 1 1 xs.length (ints xs)] [] (.sl 0 1 xs.length (ints xs)) []
abbrev eqIntSS (R : Rel) : Prop := ∀ (xs ys : List Int), xs.length ≤ maxLen → ys.length ≤ maxLen → R [.sl 1 1 xs.length (ints xs), .sl 1 1 ys.length (ints ys)] [] (B (decide (xs = ys))) []
end Go.Eng.T

namespace Go.Eng.T

theorem not_mem_step {xs : List Int} {v : Int} {j : Nat} (h : j < xs.length) (hp : v ∉ xs.take j) (hv : ¬ xs[j] = v) : v ∉ xs.take (j + 1) := by
  rw [List.take_add_one, List.getElem?_eq_getElem h]
  intro hm
  rcases List.mem_append.1 hm with hm | hm
  · exact hp hm
  · simp at hm; exact hv hm.symm
theorem not_mem_all {xs : List Int} {v : Int} {j : Nat} (h : xs.length ≤ j) (hp : v ∉ xs.take j) : v ∉ xs := by rwa [List.take_of_length_le h] at hp
theorem mem_here {xs : List Int} {v : Int} {j : Nat} (h : j < xs.length) (hv : xs[j] = v) : v ∈ xs := by rw [← hv]; exact List.getElem_mem h

/-- where v stands first, or -1 -/
def idxI (xs : List Int) (v : Int) : Int := if v ∈ xs then (xs.idxOf v : Nat) else -1
theorem idxI_hit {xs : List Int} {v : Int} {j : Nat} (h : j < xs.length) (hp : v ∉ xs.take j) (hv : xs[j] = v) : idxI xs v = j := by
  unfold idxI
  rw [if_pos (mem_here h hv)]
  congr 1
  have e : xs = xs.take j ++ v :: xs.drop (j + 1) := by
    conv => lhs; rw [← List.take_append_drop j xs, List.drop_eq_getElem_cons h, hv]
  rw [e, List.idxOf_append, if_neg hp]
  simp
  omega
theorem idxI_ge {xs : List Int} {v : Int} : (0 ≤ idxI xs v) = (v ∈ xs) := by
  unfold idxI
  by_cases h : v ∈ xs <;> simp [h]

abbrev IndexS (R : Rel) : Prop := ∀ (xs : List Int) (v : Int), xs.length ≤ maxLen → R [.sl 1 1 xs.length (ints xs), I v] [] (I (idxI xs v)) []
theorem Index_b (D : Dn) : IndexS (Body D sslices_Index___int_int_) := by
  intro xs v hl
  unfold maxLen at hl
  simp -implicitDefEqProofs
  refine swp_loop (fun k s => ∃ j, j + k = xs.length ∧ v ∉ xs.take j ∧ s = ⟨[.sl 1 1 xs.length (ints xs), .sc (.int .i64 v), .undef, .undef, .sc (.int .i64 xs.length), .sc (.int .i64 j), .undef, .undef], []⟩) ?_ xs.length _ ⟨0, by simp, by simp, by simp⟩
  intro k s ⟨j, hj, hp, hs⟩
  subst hs
  by_cases hjn : j < xs.length
  · have hw : IntKind.i64.wrap ((j : Int) + 1) = (j + 1 : Nat) := by rw [wrap_id (by omega) (by omega)]; simp
    by_cases he : v = xs[j]
    · have hx := idxI_hit hjn hp he.symm
      simp -implicitDefEqProofs [hjn, ← he, hx]
    · simp -implicitDefEqProofs [hjn, he]
      exact ⟨k - 1, by omega, j + 1, by omega, not_mem_step hjn hp (fun h => he h.symm), by simp [hw]⟩
  · have hx : idxI xs v = -1 := by unfold idxI; rw [if_neg (not_mem_all (by omega) hp)]
    simp -implicitDefEqProofs [hjn, hx]

abbrev HasS (R : Rel) : Prop := ∀ (xs : List Int) (v : Int), xs.length ≤ maxLen → R [.sl 1 1 xs.length (ints xs), I v] [] (B (decide (v ∈ xs))) []
theorem Contains_b (D : Dn) (hI : IndexS (D 389)) : HasS (Body D sslices_Contains___int_int_) := by
  intro xs v hl
  simp -implicitDefEqProofs
  refine callQ_of (hI xs v hl) ?_
  simp -implicitDefEqProofs [idxI_ge]
theorem l9Has_b (D : Dn) : HasS (Body D sspec_l9Has) := by
  intro xs v hl
  unfold maxLen at hl
  simp -implicitDefEqProofs
  refine swp_loop (fun k s => ∃ j, j + k = xs.length ∧ v ∉ xs.take j ∧ s = ⟨[.sl 1 1 xs.length (ints xs), .sc (.int .i64 v), .undef, .sc (.int .i64 j), .undef, .undef], []⟩) ?_ xs.length _ ⟨0, by simp, by simp, by simp⟩
  intro k s ⟨j, hj, hp, hs⟩
  subst hs
  by_cases hjn : j < xs.length
  · have hw : IntKind.i64.wrap ((j : Int) + 1) = (j + 1 : Nat) := by rw [wrap_id (by omega) (by omega)]; simp
    by_cases he : xs[j] = v
    · have hx := mem_here hjn he
      simp -implicitDefEqProofs [hjn, he, hx]
    · simp -implicitDefEqProofs [hjn, he]
      exact ⟨k - 1, by omega, j + 1, by omega, not_mem_step hjn hp he, by simp [hw]⟩
  · have hx := not_mem_all (by omega) hp
    simp -implicitDefEqProofs [hjn, hx]

/-- a dial that says that the version did not come through -/
def badD (v : Int) (d : Dialed) : Bool := !d.deal.ok || (decide (d.deal.version < v) && decide (v ∈ d.up))
def goodD (v : Int) (d : Dialed) : Bool := !badD v d && decide (v ≤ d.deal.version)
def cntF {α : Type} (f : α → Bool) (xs : List α) : Nat := (xs.filter f).length
theorem cnt_step {α : Type} {f : α → Bool} {xs : List α} {j : Nat} (h : j < xs.length) : cntF f (xs.take (j + 1)) = cntF f (xs.take j) + (if f xs[j] then 1 else 0) := by
  unfold cntF
  rw [List.take_add_one, List.getElem?_eq_getElem h, List.filter_append, List.length_append]
  congr 1
  by_cases hf : f xs[j] <;> simp [hf]
theorem cnt_le {α : Type} {f : α → Bool} {xs : List α} {j : Nat} (h : j ≤ xs.length) : cntF f (xs.take j) ≤ j := by
  unfold cntF
  have := List.length_filter_le f (xs.take j)
  simp at this
  omega
theorem cnt_all {α : Type} {f : α → Bool} {xs : List α} {j : Nat} (h : xs.length ≤ j) : cntF f (xs.take j) = cntF f xs := by rw [List.take_of_length_le h]

abbrev CountKindS (R : Rel) : Prop := ∀ (xs : List Event) (v : Int), xs.length ≤ maxLen → R [.sl 1 6 xs.length (xs.flatMap eEvent), I v] [] (I (cntF (fun e => decide (e.kind = v)) xs)) []
end Go.Eng.T

namespace Go.Eng.T

abbrev MaskedByS (R : Rel) : Prop := ∀ (xs : List Dialed) (v : Int), xs.length ≤ maxLen → (∀ (j : Nat) (h : j < xs.length), xs[j].up.length ≤ maxLen) →
  R [.sl 1 5 xs.length (xs.flatMap eDialed), I v] [] (.tup [I (cntF (goodD v) xs), I (cntF (badD v) xs)]) []
abbrev IsBadDialS (R : Rel) : Prop := ∀ (d : Dialed) (v : Int), d.up.length ≤ maxLen → R [arg (eDialed d), I v] [] (B (badD v d)) []
end Go.Eng.T

namespace Go.Eng.T

/-- the numbers from k on -/
def nums : Nat → Int → List Int
  | 0, _ => []
  | n + 1, k => k :: nums n (k + 1)
@[simp] theorem nums_len : ∀ (n : Nat) (k : Int), (nums n k).length = n
  | 0, _ => rfl
  | n + 1, k => by simp [nums, nums_len n]
theorem nums_get : ∀ (n : Nat) (k : Int) (j : Nat) (h : j < (nums n k).length), (nums n k)[j] = k + j
  | 0, k, j, h => by simp [nums] at h
  | n + 1, k, 0, h => by simp [nums]
  | n + 1, k, j + 1, h => by
    simp only [nums, List.getElem_cons_succ]
    rw [nums_get n (k + 1) j (by simpa [nums] using h)]
    simp; omega

/-- a row marked element by element -/
def mkL {α : Type} (mc : α → Nat) (mk : α → Int → α) : List α → Int → List α
  | [], _ => []
  | x :: r, k => mk x k :: mkL mc mk r (k + mc x)
def mcL {α : Type} (mc : α → Nat) (xs : List α) : Nat := (xs.map mc).sum
section
variable {α : Type} {mc : α → Nat} {mk : α → Int → α}
@[simp] theorem mkL_len : ∀ (xs : List α) (k : Int), (mkL mc mk xs k).length = xs.length
  | [], _ => rfl
  | x :: r, k => by simp [mkL, mkL_len r]
theorem mkL_get : ∀ (xs : List α) (k : Int) (j : Nat) (h : j < xs.length), (mkL mc mk xs k)[j]'(by simpa using h) = mk xs[j] (k + (mcL mc (xs.take j) : Nat))
  | [], k, j, h => by simp at h
  | x :: r, k, 0, h => by simp [mkL, mcL]
  | x :: r, k, j + 1, h => by
    simp only [mkL, List.getElem_cons_succ]
    rw [mkL_get r (k + mc x) j (by simpa using h)]
    simp [mcL]; congr 1; omega
theorem mkL_append (ys : List α) : ∀ (xs : List α) (k : Int), mkL mc mk (xs ++ ys) k = mkL mc mk xs k ++ mkL mc mk ys (k + (mcL mc xs : Nat))
  | [], k => by simp [mkL, mcL]
  | x :: r, k => by
    simp only [List.cons_append, mkL, mkL_append ys r]
    simp [mcL]; congr 1; omega
/-- under way -/
def mkJ (mc : α → Nat) (mk : α → Int → α) (xs : List α) (k : Int) (j : Nat) : List α := mkL mc mk (xs.take j) k ++ xs.drop j
theorem mkJ_zero {xs : List α} {k : Int} : mkJ mc mk xs k 0 = xs := by simp [mkJ, mkL]
theorem mkJ_all {xs : List α} {k : Int} {j : Nat} (h : xs.length ≤ j) : mkJ mc mk xs k j = mkL mc mk xs k := by simp [mkJ, List.take_of_length_le h, List.drop_eq_nil_of_le h]
@[simp] theorem mkJ_len {xs : List α} {k : Int} {j : Nat} (h : j ≤ xs.length) : (mkJ mc mk xs k j).length = xs.length := by simp [mkJ]; omega
theorem mkJ_get {xs : List α} {k : Int} {j : Nat} (h : j < xs.length) : (mkJ mc mk xs k j)[j]'(by rw [mkJ_len (by omega)]; exact h) = xs[j] := by
  unfold mkJ
  have hl : (mkL mc mk (xs.take j) k).length = j := by simp; omega
  rw [List.getElem_append_right (by omega)]
  simp [hl]
theorem mkJ_set {xs : List α} {k : Int} {j : Nat} (h : j < xs.length) : (mkJ mc mk xs k j).set j (mk xs[j] (k + (mcL mc (xs.take j) : Nat))) = mkJ mc mk xs k (j + 1) := by
  unfold mkJ
  have hl : (mkL mc mk (xs.take j) k).length = j := by simp; omega
  have ht : xs.take (j + 1) = xs.take j ++ [xs[j]] := by simp
  rw [List.set_append_right _ _ (by omega), hl, Nat.sub_self, ht, mkL_append, List.drop_eq_getElem_cons h, List.set_cons_zero, List.append_assoc]
  rfl
theorem mcL_step {xs : List α} {j : Nat} (h : j < xs.length) : mcL mc (xs.take (j + 1)) = mcL mc (xs.take j) + mc xs[j] := sum_take h
theorem mcL_le {xs : List α} {j : Nat} : mcL mc (xs.take j) ≤ mcL mc xs := sum_take_le
theorem mcL_all {xs : List α} {j : Nat} (h : xs.length ≤ j) : mcL mc (xs.take j) = mcL mc xs := sum_all h
theorem mcL_ge (h : ∀ x, 1 ≤ mc x) (xs : List α) : xs.length ≤ mcL mc xs := by
  induction xs with
  | nil => simp
  | cons x r ih =>
    have := h x
    simp [mcL] at *
    omega
end
theorem set_flat {α : Type} {f : α → List V} {e : Nat} (hf : ∀ x, (f x).length = e) {o : Nat} (ho : o < e) {v : V} {y : α} : ∀ {xs : List α} {j : Nat} (h : j < xs.length), f y = (f xs[j]).set o v → (xs.flatMap f).set (j * e + o) v = (xs.set j y).flatMap f
  | [], j, h, _ => by simp at h
  | x :: xs, 0, _, hy => by
    simp only [List.flatMap_cons, List.set_cons_zero, Nat.zero_mul, Nat.zero_add]
    rw [List.set_append_left _ _ (by rw [hf]; exact ho), hy]
    rfl
  | x :: xs, j + 1, h, hy => by
    simp only [List.flatMap_cons, List.set_cons_succ]
    have e1 : (j + 1) * e + o = (f x).length + (j * e + o) := by rw [hf, Nat.add_mul]; omega
    rw [e1, List.set_append_right _ _ (by omega), Nat.add_sub_cancel_left, set_flat hf ho (by simpa using h) (by simpa using hy)]
@[simp high] theorem eBox_s0 {xs : List Box} {j : Nat} (h : j < xs.length) (a : Int) : (xs.flatMap eBox).set (j * 4) (.sc (.int .i64 a)) = (xs.set j ⟨a, xs[j].drops, xs[j].strips, xs[j].lists⟩).flatMap eBox := set_flat (o := 0) eBox_len (by omega) h rfl
@[simp high] theorem eBox_s1 {xs : List Box} {j : Nat} (h : j < xs.length) {n : Nat} (a : List Int) (hn : n = a.length) : (xs.flatMap eBox).set (j * 4 + 1) (.sl 0 1 n (ints a)) = (xs.set j ⟨xs[j].limit, a, xs[j].strips, xs[j].lists⟩).flatMap eBox := by subst hn; exact set_flat (o := 1) eBox_len (by omega) h rfl
@[simp high] theorem eBox_s2 {xs : List Box} {j : Nat} (h : j < xs.length) {n : Nat} (a : List Int) (hn : n = a.length) : (xs.flatMap eBox).set (j * 4 + 2) (.sl 0 1 n (ints a)) = (xs.set j ⟨xs[j].limit, xs[j].drops, a, xs[j].lists⟩).flatMap eBox := by subst hn; exact set_flat (o := 2) eBox_len (by omega) h rfl
@[simp high] theorem eBox_s3 {xs : List Box} {j : Nat} (h : j < xs.length) (a : Bool) : (xs.flatMap eBox).set (j * 4 + 3) (.sc (.bool a)) = (xs.set j ⟨xs[j].limit, xs[j].drops, xs[j].strips, a⟩).flatMap eBox := set_flat (o := 3) eBox_len (by omega) h rfl
@[simp high] theorem eDialed_s0 {xs : List Dialed} {j : Nat} (h : j < xs.length) (a : Bool) : (xs.flatMap eDialed).set (j * 5) (.sc (.bool a)) = (xs.set j ⟨⟨a, xs[j].deal.version, xs[j].deal.tags⟩, xs[j].tries, xs[j].up⟩).flatMap eDialed := set_flat (o := 0) eDialed_len (by omega) h rfl
@[simp high] theorem eDialed_s1 {xs : List Dialed} {j : Nat} (h : j < xs.length) (a : Int) : (xs.flatMap eDialed).set (j * 5 + 1) (.sc (.int .i64 a)) = (xs.set j ⟨⟨xs[j].deal.ok, a, xs[j].deal.tags⟩, xs[j].tries, xs[j].up⟩).flatMap eDialed := set_flat (o := 1) eDialed_len (by omega) h rfl
@[simp high] theorem eDialed_s2 {xs : List Dialed} {j : Nat} (h : j < xs.length) {n : Nat} (a : List Int) (hn : n = a.length) : (xs.flatMap eDialed).set (j * 5 + 2) (.sl 0 1 n (ints a)) = (xs.set j ⟨⟨xs[j].deal.ok, xs[j].deal.version, a⟩, xs[j].tries, xs[j].up⟩).flatMap eDialed := by subst hn; exact set_flat (o := 2) eDialed_len (by omega) h rfl
@[simp high] theorem eDialed_s3 {xs : List Dialed} {j : Nat} (h : j < xs.length) (a : Int) : (xs.flatMap eDialed).set (j * 5 + 3) (.sc (.int .i64 a)) = (xs.set j ⟨⟨xs[j].deal.ok, xs[j].deal.version, xs[j].deal.tags⟩, a, xs[j].up⟩).flatMap eDialed := set_flat (o := 3) eDialed_len (by omega) h rfl
@[simp high] theorem eDialed_s4 {xs : List Dialed} {j : Nat} (h : j < xs.length) {n : Nat} (a : List Int) (hn : n = a.length) : (xs.flatMap eDialed).set (j * 5 + 4) (.sl 0 1 n (ints a)) = (xs.set j ⟨⟨xs[j].deal.ok, xs[j].deal.version, xs[j].deal.tags⟩, xs[j].tries, a⟩).flatMap eDialed := by subst hn; exact set_flat (o := 4) eDialed_len (by omega) h rfl
@[simp high] theorem eEndpoint_s0 {xs : List Endpoint} {j : Nat} (h : j < xs.length) {n : Nat} (a : List Int) (hn : n = a.length) : (xs.flatMap eEndpoint).set (j * 4) (.sl 0 1 n (ints a)) = (xs.set j ⟨a, xs[j].tags, xs[j].path, xs[j].cls⟩).flatMap eEndpoint := by subst hn; exact set_flat (o := 0) eEndpoint_len (by omega) h rfl
@[simp high] theorem eEndpoint_s1 {xs : List Endpoint} {j : Nat} (h : j < xs.length) {n : Nat} (a : List Int) (hn : n = a.length) : (xs.flatMap eEndpoint).set (j * 4 + 1) (.sl 0 1 n (ints a)) = (xs.set j ⟨xs[j].versions, a, xs[j].path, xs[j].cls⟩).flatMap eEndpoint := by subst hn; exact set_flat (o := 1) eEndpoint_len (by omega) h rfl
@[simp high] theorem eEndpoint_s2 {xs : List Endpoint} {j : Nat} (h : j < xs.length) {n : Nat} (a : List Box) (hn : n = a.length) : (xs.flatMap eEndpoint).set (j * 4 + 2) (.sl 0 4 n (a.flatMap eBox)) = (xs.set j ⟨xs[j].versions, xs[j].tags, a, xs[j].cls⟩).flatMap eEndpoint := by subst hn; exact set_flat (o := 2) eEndpoint_len (by omega) h rfl
@[simp high] theorem eEndpoint_s3 {xs : List Endpoint} {j : Nat} (h : j < xs.length) (a : Int) : (xs.flatMap eEndpoint).set (j * 4 + 3) (.sc (.int .i64 a)) = (xs.set j ⟨xs[j].versions, xs[j].tags, xs[j].path, a⟩).flatMap eEndpoint := set_flat (o := 3) eEndpoint_len (by omega) h rfl
@[simp high] theorem eLogged_s0 {xs : List Logged} {j : Nat} (h : j < xs.length) (a : Int) : (xs.flatMap eLogged).set (j * 8) (.sc (.int .i64 a)) = (xs.set j ⟨a, xs[j].tick, xs[j].on, ⟨⟨xs[j].dialed.deal.ok, xs[j].dialed.deal.version, xs[j].dialed.deal.tags⟩, xs[j].dialed.tries, xs[j].dialed.up⟩⟩).flatMap eLogged := set_flat (o := 0) eLogged_len (by omega) h rfl
@[simp high] theorem eLogged_s1 {xs : List Logged} {j : Nat} (h : j < xs.length) (a : Int) : (xs.flatMap eLogged).set (j * 8 + 1) (.sc (.int .i64 a)) = (xs.set j ⟨xs[j].fin, a, xs[j].on, ⟨⟨xs[j].dialed.deal.ok, xs[j].dialed.deal.version, xs[j].dialed.deal.tags⟩, xs[j].dialed.tries, xs[j].dialed.up⟩⟩).flatMap eLogged := set_flat (o := 1) eLogged_len (by omega) h rfl
@[simp high] theorem eLogged_s2 {xs : List Logged} {j : Nat} (h : j < xs.length) (a : Bool) : (xs.flatMap eLogged).set (j * 8 + 2) (.sc (.bool a)) = (xs.set j ⟨xs[j].fin, xs[j].tick, a, ⟨⟨xs[j].dialed.deal.ok, xs[j].dialed.deal.version, xs[j].dialed.deal.tags⟩, xs[j].dialed.tries, xs[j].dialed.up⟩⟩).flatMap eLogged := set_flat (o := 2) eLogged_len (by omega) h rfl
@[simp high] theorem eLogged_s3 {xs : List Logged} {j : Nat} (h : j < xs.length) (a : Bool) : (xs.flatMap eLogged).set (j * 8 + 3) (.sc (.bool a)) = (xs.set j ⟨xs[j].fin, xs[j].tick, xs[j].on, ⟨⟨a, xs[j].dialed.deal.version, xs[j].dialed.deal.tags⟩, xs[j].dialed.tries, xs[j].dialed.up⟩⟩).flatMap eLogged := set_flat (o := 3) eLogged_len (by omega) h rfl
@[simp high] theorem eLogged_s4 {xs : List Logged} {j : Nat} (h : j < xs.length) (a : Int) : (xs.flatMap eLogged).set (j * 8 + 4) (.sc (.int .i64 a)) = (xs.set j ⟨xs[j].fin, xs[j].tick, xs[j].on, ⟨⟨xs[j].dialed.deal.ok, a, xs[j].dialed.deal.tags⟩, xs[j].dialed.tries, xs[j].dialed.up⟩⟩).flatMap eLogged := set_flat (o := 4) eLogged_len (by omega) h rfl
@[simp high] theorem eLogged_s5 {xs : List Logged} {j : Nat} (h : j < xs.length) {n : Nat} (a : List Int) (hn : n = a.length) : (xs.flatMap eLogged).set (j * 8 + 5) (.sl 0 1 n (ints a)) = (xs.set j ⟨xs[j].fin, xs[j].tick, xs[j].on, ⟨⟨xs[j].dialed.deal.ok, xs[j].dialed.deal.version, a⟩, xs[j].dialed.tries, xs[j].dialed.up⟩⟩).flatMap eLogged := by subst hn; exact set_flat (o := 5) eLogged_len (by omega) h rfl
@[simp high] theorem eLogged_s6 {xs : List Logged} {j : Nat} (h : j < xs.length) (a : Int) : (xs.flatMap eLogged).set (j * 8 + 6) (.sc (.int .i64 a)) = (xs.set j ⟨xs[j].fin, xs[j].tick, xs[j].on, ⟨⟨xs[j].dialed.deal.ok, xs[j].dialed.deal.version, xs[j].dialed.deal.tags⟩, a, xs[j].dialed.up⟩⟩).flatMap eLogged := set_flat (o := 6) eLogged_len (by omega) h rfl
@[simp high] theorem eLogged_s7 {xs : List Logged} {j : Nat} (h : j < xs.length) {n : Nat} (a : List Int) (hn : n = a.length) : (xs.flatMap eLogged).set (j * 8 + 7) (.sl 0 1 n (ints a)) = (xs.set j ⟨xs[j].fin, xs[j].tick, xs[j].on, ⟨⟨xs[j].dialed.deal.ok, xs[j].dialed.deal.version, xs[j].dialed.deal.tags⟩, xs[j].dialed.tries, a⟩⟩).flatMap eLogged := by subst hn; exact set_flat (o := 7) eLogged_len (by omega) h rfl
@[simp high] theorem eEvent_s0 {xs : List Event} {j : Nat} (h : j < xs.length) (a : Int) : (xs.flatMap eEvent).set (j * 6) (.sc (.int .i64 a)) = (xs.set j ⟨a, xs[j].n, ⟨xs[j].box.limit, xs[j].box.drops, xs[j].box.strips, xs[j].box.lists⟩⟩).flatMap eEvent := set_flat (o := 0) eEvent_len (by omega) h rfl
@[simp high] theorem eEvent_s1 {xs : List Event} {j : Nat} (h : j < xs.length) (a : Int) : (xs.flatMap eEvent).set (j * 6 + 1) (.sc (.int .i64 a)) = (xs.set j ⟨xs[j].kind, a, ⟨xs[j].box.limit, xs[j].box.drops, xs[j].box.strips, xs[j].box.lists⟩⟩).flatMap eEvent := set_flat (o := 1) eEvent_len (by omega) h rfl
@[simp high] theorem eEvent_s2 {xs : List Event} {j : Nat} (h : j < xs.length) (a : Int) : (xs.flatMap eEvent).set (j * 6 + 2) (.sc (.int .i64 a)) = (xs.set j ⟨xs[j].kind, xs[j].n, ⟨a, xs[j].box.drops, xs[j].box.strips, xs[j].box.lists⟩⟩).flatMap eEvent := set_flat (o := 2) eEvent_len (by omega) h rfl
@[simp high] theorem eEvent_s3 {xs : List Event} {j : Nat} (h : j < xs.length) {n : Nat} (a : List Int) (hn : n = a.length) : (xs.flatMap eEvent).set (j * 6 + 3) (.sl 0 1 n (ints a)) = (xs.set j ⟨xs[j].kind, xs[j].n, ⟨xs[j].box.limit, a, xs[j].box.strips, xs[j].box.lists⟩⟩).flatMap eEvent := by subst hn; exact set_flat (o := 3) eEvent_len (by omega) h rfl
@[simp high] theorem eEvent_s4 {xs : List Event} {j : Nat} (h : j < xs.length) {n : Nat} (a : List Int) (hn : n = a.length) : (xs.flatMap eEvent).set (j * 6 + 4) (.sl 0 1 n (ints a)) = (xs.set j ⟨xs[j].kind, xs[j].n, ⟨xs[j].box.limit, xs[j].box.drops, a, xs[j].box.lists⟩⟩).flatMap eEvent := by subst hn; exact set_flat (o := 4) eEvent_len (by omega) h rfl
@[simp high] theorem eEvent_s5 {xs : List Event} {j : Nat} (h : j < xs.length) (a : Bool) : (xs.flatMap eEvent).set (j * 6 + 5) (.sc (.bool a)) = (xs.set j ⟨xs[j].kind, xs[j].n, ⟨xs[j].box.limit, xs[j].box.drops, xs[j].box.strips, a⟩⟩).flatMap eEvent := set_flat (o := 5) eEvent_len (by omega) h rfl
def mcDeal (x : Deal) : Nat := x.tags.length
def mkDeal (x : Deal) (k : Int) : Deal := ⟨x.ok, x.version, nums x.tags.length (k)⟩
def mcBox (x : Box) : Nat := 1 + x.drops.length + x.strips.length + 1
def mkBox (x : Box) (k : Int) : Box := ⟨k, nums x.drops.length (k + 1), nums x.strips.length (k + 1 + ((x.drops.length : Nat) : Int)), ((k + 1 + ((x.drops.length : Nat) : Int) + ((x.strips.length : Nat) : Int)).tmod 3 == 0)⟩
def mcDialed (x : Dialed) : Nat := 1 + 1 + x.deal.tags.length + 1 + x.up.length
def mkDialed (x : Dialed) (k : Int) : Dialed := ⟨⟨((k).tmod 3 == 0), k + 1, nums x.deal.tags.length (k + 1 + 1)⟩, k + 1 + 1 + ((x.deal.tags.length : Nat) : Int), nums x.up.length (k + 1 + 1 + ((x.deal.tags.length : Nat) : Int) + 1)⟩
def mcEndpoint (x : Endpoint) : Nat := x.versions.length + x.tags.length + mcL mcBox x.path + 1
def mkEndpoint (x : Endpoint) (k : Int) : Endpoint := ⟨nums x.versions.length (k), nums x.tags.length (k + ((x.versions.length : Nat) : Int)), mkL mcBox mkBox x.path (k + ((x.versions.length : Nat) : Int) + ((x.tags.length : Nat) : Int)), k + ((x.versions.length : Nat) : Int) + ((x.tags.length : Nat) : Int) + ((mcL mcBox x.path : Nat) : Int)⟩
def mcLogged (x : Logged) : Nat := 1 + 1 + 1 + 1 + 1 + x.dialed.deal.tags.length + 1 + x.dialed.up.length
def mkLogged (x : Logged) (k : Int) : Logged := ⟨k, k + 1, ((k + 1 + 1).tmod 3 == 0), ⟨⟨((k + 1 + 1 + 1).tmod 3 == 0), k + 1 + 1 + 1 + 1, nums x.dialed.deal.tags.length (k + 1 + 1 + 1 + 1 + 1)⟩, k + 1 + 1 + 1 + 1 + 1 + ((x.dialed.deal.tags.length : Nat) : Int), nums x.dialed.up.length (k + 1 + 1 + 1 + 1 + 1 + ((x.dialed.deal.tags.length : Nat) : Int) + 1)⟩⟩
def mcEvent (x : Event) : Nat := 1 + 1 + 1 + x.box.drops.length + x.box.strips.length + 1
def mkEvent (x : Event) (k : Int) : Event := ⟨k, k + 1, ⟨k + 1 + 1, nums x.box.drops.length (k + 1 + 1 + 1), nums x.box.strips.length (k + 1 + 1 + 1 + ((x.box.drops.length : Nat) : Int)), ((k + 1 + 1 + 1 + ((x.box.drops.length : Nat) : Int) + ((x.box.strips.length : Nat) : Int)).tmod 3 == 0)⟩⟩
def mcRollout (x : Rollout) : Nat := x.stages.length
def mkRollout (x : Rollout) (k : Int) : Rollout := ⟨x.version, nums x.stages.length (k), x.pos, x.off⟩
def mcWorld (x : World) : Nat := x.server.length + x.tags.length + mcL mcEndpoint x.ends + x.rollout.stages.length + mcL mcDialed x.stage + mcL mcLogged x.log
def mkWorld (x : World) (k : Int) : World := ⟨nums x.server.length (k), nums x.tags.length (k + ((x.server.length : Nat) : Int)), x.key, mkL mcEndpoint mkEndpoint x.ends (k + ((x.server.length : Nat) : Int) + ((x.tags.length : Nat) : Int)), ⟨x.rollout.version, nums x.rollout.stages.length (k + ((x.server.length : Nat) : Int) + ((x.tags.length : Nat) : Int) + ((mcL mcEndpoint x.ends : Nat) : Int)), x.rollout.pos, x.rollout.off⟩, x.least, x.percent, mkL mcDialed mkDialed x.stage (k + ((x.server.length : Nat) : Int) + ((x.tags.length : Nat) : Int) + ((mcL mcEndpoint x.ends : Nat) : Int) + ((x.rollout.stages.length : Nat) : Int)), mkL mcLogged mkLogged x.log (k + ((x.server.length : Nat) : Int) + ((x.tags.length : Nat) : Int) + ((mcL mcEndpoint x.ends : Nat) : Int) + ((x.rollout.stages.length : Nat) : Int) + ((mcL mcDialed x.stage : Nat) : Int)), x.now, x.hurt, x.reached⟩
def mcTBox (x : Box) : Nat := x.drops.length + x.strips.length
def mkTBox (x : Box) (k : Int) : Box := ⟨x.limit, nums x.drops.length (k), nums x.strips.length (k + ((x.drops.length : Nat) : Int)), x.lists⟩
def mcTDialed (x : Dialed) : Nat := x.deal.tags.length + x.up.length
def mkTDialed (x : Dialed) (k : Int) : Dialed := ⟨⟨x.deal.ok, x.deal.version, nums x.deal.tags.length (k)⟩, x.tries, nums x.up.length (k + ((x.deal.tags.length : Nat) : Int))⟩
def mcTEndpoint (x : Endpoint) : Nat := x.versions.length + x.tags.length + mcL mcBox x.path
def mkTEndpoint (x : Endpoint) (k : Int) : Endpoint := ⟨nums x.versions.length (k), nums x.tags.length (k + ((x.versions.length : Nat) : Int)), mkL mcBox mkBox x.path (k + ((x.versions.length : Nat) : Int) + ((x.tags.length : Nat) : Int)), x.cls⟩
def mcTLogged (x : Logged) : Nat := x.dialed.deal.tags.length + x.dialed.up.length
def mkTLogged (x : Logged) (k : Int) : Logged := ⟨x.fin, x.tick, x.on, ⟨⟨x.dialed.deal.ok, x.dialed.deal.version, nums x.dialed.deal.tags.length (k)⟩, x.dialed.tries, nums x.dialed.up.length (k + ((x.dialed.deal.tags.length : Nat) : Int))⟩⟩
def mcTEvent (x : Event) : Nat := x.box.drops.length + x.box.strips.length
def mkTEvent (x : Event) (k : Int) : Event := ⟨x.kind, x.n, ⟨x.box.limit, nums x.box.drops.length (k), nums x.box.strips.length (k + ((x.box.drops.length : Nat) : Int)), x.box.lists⟩⟩
end Go.Eng.T

namespace Go.Eng.T
theorem datL_cons {y : Ty} {ys : List Ty} {cs : List V} (h : DatL (y :: ys) cs) : ∃ a b, Dat y a ∧ DatL ys b ∧ cs = a ++ b := by simp only [DatL] at h; exact h
theorem datL_nil {cs : List V} (h : DatL [] cs) : cs = [] := by simp only [DatL] at h; exact h
theorem dat_st {ys : List Ty} {cs : List V} (h : Dat (.st ys) cs) : DatL ys cs := by simp only [Dat] at h; exact h
def rgI (n : Int) : Prop := -9223372036854775808 ≤ n ∧ n ≤ 9223372036854775807
theorem rg_of {n : Int} (h : (Lit.int .i64 n).wf = true) : rgI n := by
  simp only [Lit.wf, IntKind.min, IntKind.max, IntKind.bits, IntKind.signed, Bool.and_eq_true, decide_eq_true_eq] at h
  exact ⟨h.1, h.2⟩
theorem datI {cs : List V} (h : Dat (.int .i64) cs) : ∃ n, cs = [.sc (.int .i64 n)] ∧ rgI n := by
  simp only [Dat] at h
  obtain ⟨n, h1, h2⟩ := h
  exact ⟨n, h2, rg_of h1⟩
theorem datB {cs : List V} (h : Dat .bool cs) : ∃ b, cs = [.sc (.bool b)] := by simp only [Dat] at h; exact h
theorem datS {cs : List V} (h : Dat .str cs) : ∃ s : ByteArray, cs = [.sc (.string s)] ∧ s.size ≤ maxLen := by
  simp only [Dat] at h
  obtain ⟨n, h1, h2⟩ := h
  exact ⟨n, h2, h1⟩
theorem choose_row {α : Type} {f : α → List V} {p : α → Prop} : ∀ {xs : List (List V)}, (∀ x, x ∈ xs → ∃ d, x = f d ∧ p d) → ∃ ds : List α, xs = ds.map f ∧ ∀ d, d ∈ ds → p d
  | [], _ => ⟨[], rfl, by simp⟩
  | x :: xs, h => by
    obtain ⟨d, rfl, hd⟩ := h x (by simp)
    obtain ⟨ds, rfl, hds⟩ := choose_row (xs := xs) fun y hy => h y (by simp [hy])
    exact ⟨d :: ds, rfl, by intro y hy; rcases List.mem_cons.1 hy with rfl | hy; exact hd; exact hds y hy⟩
theorem datRow {α : Type} {y : Ty} {f : α → List V} {p : α → Prop} (hf : ∀ cs, Dat y cs → ∃ d, cs = f d ∧ p d) {cs : List V} (h : Dat (.sl y) cs) :
    ∃ ds : List α, cs = [.sl 0 y.cells ds.length (ds.flatMap f)] ∧ ds.length ≤ maxLen ∧ ∀ d, d ∈ ds → p d := by
  simp only [Dat] at h
  obtain ⟨xs, h1, h2, rfl⟩ := h
  obtain ⟨ds, rfl, h3⟩ := choose_row (f := f) (p := p) (xs := xs) fun x hx => hf x (h2 x hx)
  exact ⟨ds, by simp [List.flatMap_def], by simpa using h1, h3⟩
def rgInts (xs : List Int) : Prop := ∀ x, x ∈ xs → rgI x
def rgS {α : Type} (f : α → Prop) (xs : List α) : Prop := ∀ x, x ∈ xs → f x
theorem datInts {cs : List V} (h : Dat (.sl (.int .i64)) cs) : ∃ xs : List Int, cs = [.sl 0 1 xs.length (ints xs)] ∧ lnInts xs ∧ rgInts xs := by
  obtain ⟨ds, h1, h2, h3⟩ := datRow (f := fun n => [V.sc (.int .i64 n)]) (p := rgI) (fun cs h => datI h) h
  refine ⟨ds, ?_, h2, h3⟩
  have e : ds.flatMap (fun n => [V.sc (.int .i64 n)]) = ints ds := by
    clear h1 h2 h3
    induction ds with
    | nil => rfl
    | cons a ds ih => rw [List.flatMap_cons, ih]; rfl
  rw [h1, e]
  rfl
def tyDeal : Ty := .st [.bool, .int .i64, .sl (.int .i64)]
def rgDeal (d : Deal) : Prop := rgI d.version ∧ rgInts d.tags
theorem datDeal {cs : List V} (h : Dat tyDeal cs) : ∃ x : Deal, cs = eDeal x ∧ lnDeal x ∧ rgDeal x := by
  have h0 := dat_st h
  obtain ⟨a0, r0, g0, h1, e0⟩ := datL_cons h0
  obtain ⟨x0, rfl⟩ := datB g0
  obtain ⟨a1, r1, g1, h2, e1⟩ := datL_cons h1
  obtain ⟨x1, rfl, w1⟩ := datI g1
  obtain ⟨a2, r2, g2, h3, e2⟩ := datL_cons h2
  obtain ⟨x2, rfl, l2, w2⟩ := datInts g2
  have z := datL_nil h3
  subst z; subst e2; subst e1; subst e0
  exact ⟨⟨x0, x1, x2⟩, rfl, l2, ⟨w1, w2⟩⟩
def tyBox : Ty := .st [.int .i64, .sl (.int .i64), .sl (.int .i64), .bool]
def rgBox (d : Box) : Prop := rgI d.limit ∧ rgInts d.drops ∧ rgInts d.strips
theorem datBox {cs : List V} (h : Dat tyBox cs) : ∃ x : Box, cs = eBox x ∧ lnBox x ∧ rgBox x := by
  have h0 := dat_st h
  obtain ⟨a0, r0, g0, h1, e0⟩ := datL_cons h0
  obtain ⟨x0, rfl, w0⟩ := datI g0
  obtain ⟨a1, r1, g1, h2, e1⟩ := datL_cons h1
  obtain ⟨x1, rfl, l1, w1⟩ := datInts g1
  obtain ⟨a2, r2, g2, h3, e2⟩ := datL_cons h2
  obtain ⟨x2, rfl, l2, w2⟩ := datInts g2
  obtain ⟨a3, r3, g3, h4, e3⟩ := datL_cons h3
  obtain ⟨x3, rfl⟩ := datB g3
  have z := datL_nil h4
  subst z; subst e3; subst e2; subst e1; subst e0
  exact ⟨⟨x0, x1, x2, x3⟩, rfl, ⟨l1, l2⟩, ⟨w0, w1, w2⟩⟩
theorem datBoxS {cs : List V} (h : Dat (.sl tyBox) cs) : ∃ xs : List Box, cs = [.sl 0 4 xs.length (xs.flatMap eBox)] ∧ lnS lnBox xs ∧ rgS rgBox xs := by
  obtain ⟨ds, h1, h2, h3⟩ := datRow (f := eBox) (p := fun x => lnBox x ∧ rgBox x) (fun cs h => datBox h) h
  exact ⟨ds, h1, ⟨h2, fun j hj => (h3 _ (List.getElem_mem hj)).1⟩, fun x hx => (h3 x hx).2⟩
def tyDialed : Ty := .st [tyDeal, .int .i64, .sl (.int .i64)]
def rgDialed (d : Dialed) : Prop := rgDeal d.deal ∧ rgI d.tries ∧ rgInts d.up
theorem datDialed {cs : List V} (h : Dat tyDialed cs) : ∃ x : Dialed, cs = eDialed x ∧ lnDialed x ∧ rgDialed x := by
  have h0 := dat_st h
  obtain ⟨a0, r0, g0, h1, e0⟩ := datL_cons h0
  obtain ⟨x0, rfl, l0, w0⟩ := datDeal g0
  obtain ⟨a1, r1, g1, h2, e1⟩ := datL_cons h1
  obtain ⟨x1, rfl, w1⟩ := datI g1
  obtain ⟨a2, r2, g2, h3, e2⟩ := datL_cons h2
  obtain ⟨x2, rfl, l2, w2⟩ := datInts g2
  have z := datL_nil h3
  subst z; subst e2; subst e1; subst e0
  exact ⟨⟨x0, x1, x2⟩, rfl, ⟨l0, l2⟩, ⟨w0, w1, w2⟩⟩
theorem datDialedS {cs : List V} (h : Dat (.sl tyDialed) cs) : ∃ xs : List Dialed, cs = [.sl 0 5 xs.length (xs.flatMap eDialed)] ∧ lnS lnDialed xs ∧ rgS rgDialed xs := by
  obtain ⟨ds, h1, h2, h3⟩ := datRow (f := eDialed) (p := fun x => lnDialed x ∧ rgDialed x) (fun cs h => datDialed h) h
  exact ⟨ds, h1, ⟨h2, fun j hj => (h3 _ (List.getElem_mem hj)).1⟩, fun x hx => (h3 x hx).2⟩
def tyRollout : Ty := .st [.int .i64, .sl (.int .i64), .int .i64, .bool]
def rgRollout (d : Rollout) : Prop := rgI d.version ∧ rgInts d.stages ∧ rgI d.pos
theorem datRollout {cs : List V} (h : Dat tyRollout cs) : ∃ x : Rollout, cs = eRollout x ∧ lnRollout x ∧ rgRollout x := by
  have h0 := dat_st h
  obtain ⟨a0, r0, g0, h1, e0⟩ := datL_cons h0
  obtain ⟨x0, rfl, w0⟩ := datI g0
  obtain ⟨a1, r1, g1, h2, e1⟩ := datL_cons h1
  obtain ⟨x1, rfl, l1, w1⟩ := datInts g1
  obtain ⟨a2, r2, g2, h3, e2⟩ := datL_cons h2
  obtain ⟨x2, rfl, w2⟩ := datI g2
  obtain ⟨a3, r3, g3, h4, e3⟩ := datL_cons h3
  obtain ⟨x3, rfl⟩ := datB g3
  have z := datL_nil h4
  subst z; subst e3; subst e2; subst e1; subst e0
  exact ⟨⟨x0, x1, x2, x3⟩, rfl, l1, ⟨w0, w1, w2⟩⟩
def tyEndpoint : Ty := .st [.sl (.int .i64), .sl (.int .i64), .sl tyBox, .int .i64]
def rgEndpoint (d : Endpoint) : Prop := rgInts d.versions ∧ rgInts d.tags ∧ rgS rgBox d.path ∧ rgI d.cls
theorem datEndpoint {cs : List V} (h : Dat tyEndpoint cs) : ∃ x : Endpoint, cs = eEndpoint x ∧ lnEndpoint x ∧ rgEndpoint x := by
  have h0 := dat_st h
  obtain ⟨a0, r0, g0, h1, e0⟩ := datL_cons h0
  obtain ⟨x0, rfl, l0, w0⟩ := datInts g0
  obtain ⟨a1, r1, g1, h2, e1⟩ := datL_cons h1
  obtain ⟨x1, rfl, l1, w1⟩ := datInts g1
  obtain ⟨a2, r2, g2, h3, e2⟩ := datL_cons h2
  obtain ⟨x2, rfl, l2, w2⟩ := datBoxS g2
  obtain ⟨a3, r3, g3, h4, e3⟩ := datL_cons h3
  obtain ⟨x3, rfl, w3⟩ := datI g3
  have z := datL_nil h4
  subst z; subst e3; subst e2; subst e1; subst e0
  exact ⟨⟨x0, x1, x2, x3⟩, rfl, ⟨l0, l1, l2⟩, ⟨w0, w1, w2, w3⟩⟩
theorem datEndpointS {cs : List V} (h : Dat (.sl tyEndpoint) cs) : ∃ xs : List Endpoint, cs = [.sl 0 4 xs.length (xs.flatMap eEndpoint)] ∧ lnS lnEndpoint xs ∧ rgS rgEndpoint xs := by
  obtain ⟨ds, h1, h2, h3⟩ := datRow (f := eEndpoint) (p := fun x => lnEndpoint x ∧ rgEndpoint x) (fun cs h => datEndpoint h) h
  exact ⟨ds, h1, ⟨h2, fun j hj => (h3 _ (List.getElem_mem hj)).1⟩, fun x hx => (h3 x hx).2⟩
def tyLogged : Ty := .st [.int .i64, .int .i64, .bool, tyDialed]
def rgLogged (d : Logged) : Prop := rgI d.fin ∧ rgI d.tick ∧ rgDialed d.dialed
theorem datLogged {cs : List V} (h : Dat tyLogged cs) : ∃ x : Logged, cs = eLogged x ∧ lnLogged x ∧ rgLogged x := by
  have h0 := dat_st h
  obtain ⟨a0, r0, g0, h1, e0⟩ := datL_cons h0
  obtain ⟨x0, rfl, w0⟩ := datI g0
  obtain ⟨a1, r1, g1, h2, e1⟩ := datL_cons h1
  obtain ⟨x1, rfl, w1⟩ := datI g1
  obtain ⟨a2, r2, g2, h3, e2⟩ := datL_cons h2
  obtain ⟨x2, rfl⟩ := datB g2
  obtain ⟨a3, r3, g3, h4, e3⟩ := datL_cons h3
  obtain ⟨x3, rfl, l3, w3⟩ := datDialed g3
  have z := datL_nil h4
  subst z; subst e3; subst e2; subst e1; subst e0
  exact ⟨⟨x0, x1, x2, x3⟩, rfl, l3, ⟨w0, w1, w3⟩⟩
theorem datLoggedS {cs : List V} (h : Dat (.sl tyLogged) cs) : ∃ xs : List Logged, cs = [.sl 0 8 xs.length (xs.flatMap eLogged)] ∧ lnS lnLogged xs ∧ rgS rgLogged xs := by
  obtain ⟨ds, h1, h2, h3⟩ := datRow (f := eLogged) (p := fun x => lnLogged x ∧ rgLogged x) (fun cs h => datLogged h) h
  exact ⟨ds, h1, ⟨h2, fun j hj => (h3 _ (List.getElem_mem hj)).1⟩, fun x hx => (h3 x hx).2⟩
def tyWorld : Ty := .st [.sl (.int .i64), .sl (.int .i64), .int .i64, .sl tyEndpoint, tyRollout, .int .i64, .int .i64, .sl tyDialed, .sl tyLogged, .int .i64, .int .i64, .int .i64]
def rgWorld (d : World) : Prop := rgInts d.server ∧ rgInts d.tags ∧ rgI d.key ∧ rgS rgEndpoint d.ends ∧ rgRollout d.rollout ∧ rgI d.least ∧ rgI d.percent ∧ rgS rgDialed d.stage ∧ rgS rgLogged d.log ∧ rgI d.now ∧ rgI d.hurt ∧ rgI d.reached
theorem datWorld {cs : List V} (h : Dat tyWorld cs) : ∃ x : World, cs = eWorld x ∧ lnWorld x ∧ rgWorld x := by
  have h0 := dat_st h
  obtain ⟨a0, r0, g0, h1, e0⟩ := datL_cons h0
  obtain ⟨x0, rfl, l0, w0⟩ := datInts g0
  obtain ⟨a1, r1, g1, h2, e1⟩ := datL_cons h1
  obtain ⟨x1, rfl, l1, w1⟩ := datInts g1
  obtain ⟨a2, r2, g2, h3, e2⟩ := datL_cons h2
  obtain ⟨x2, rfl, w2⟩ := datI g2
  obtain ⟨a3, r3, g3, h4, e3⟩ := datL_cons h3
  obtain ⟨x3, rfl, l3, w3⟩ := datEndpointS g3
  obtain ⟨a4, r4, g4, h5, e4⟩ := datL_cons h4
  obtain ⟨x4, rfl, l4, w4⟩ := datRollout g4
  obtain ⟨a5, r5, g5, h6, e5⟩ := datL_cons h5
  obtain ⟨x5, rfl, w5⟩ := datI g5
  obtain ⟨a6, r6, g6, h7, e6⟩ := datL_cons h6
  obtain ⟨x6, rfl, w6⟩ := datI g6
  obtain ⟨a7, r7, g7, h8, e7⟩ := datL_cons h7
  obtain ⟨x7, rfl, l7, w7⟩ := datDialedS g7
  obtain ⟨a8, r8, g8, h9, e8⟩ := datL_cons h8
  obtain ⟨x8, rfl, l8, w8⟩ := datLoggedS g8
  obtain ⟨a9, r9, g9, h10, e9⟩ := datL_cons h9
  obtain ⟨x9, rfl, w9⟩ := datI g9
  obtain ⟨a10, r10, g10, h11, e10⟩ := datL_cons h10
  obtain ⟨x10, rfl, w10⟩ := datI g10
  obtain ⟨a11, r11, g11, h12, e11⟩ := datL_cons h11
  obtain ⟨x11, rfl, w11⟩ := datI g11
  have z := datL_nil h12
  subst z; subst e11; subst e10; subst e9; subst e8; subst e7; subst e6; subst e5; subst e4; subst e3; subst e2; subst e1; subst e0
  exact ⟨⟨x0, x1, x2, x3, x4, x5, x6, x7, x8, x9, x10, x11⟩, rfl, ⟨l0, l1, l3, l4, l7, l8⟩, ⟨w0, w1, w2, w3, w4, w5, w6, w7, w8, w9, w10, w11⟩⟩
def tyEvent : Ty := .st [.int .i64, .int .i64, tyBox]
def rgEvent (d : Event) : Prop := rgI d.kind ∧ rgI d.n ∧ rgBox d.box
theorem datEvent {cs : List V} (h : Dat tyEvent cs) : ∃ x : Event, cs = eEvent x ∧ lnEvent x ∧ rgEvent x := by
  have h0 := dat_st h
  obtain ⟨a0, r0, g0, h1, e0⟩ := datL_cons h0
  obtain ⟨x0, rfl, w0⟩ := datI g0
  obtain ⟨a1, r1, g1, h2, e1⟩ := datL_cons h1
  obtain ⟨x1, rfl, w1⟩ := datI g1
  obtain ⟨a2, r2, g2, h3, e2⟩ := datL_cons h2
  obtain ⟨x2, rfl, l2, w2⟩ := datBox g2
  have z := datL_nil h3
  subst z; subst e2; subst e1; subst e0
  exact ⟨⟨x0, x1, x2⟩, rfl, l2, ⟨w0, w1, w2⟩⟩
theorem datEventS {cs : List V} (h : Dat (.sl tyEvent) cs) : ∃ xs : List Event, cs = [.sl 0 6 xs.length (xs.flatMap eEvent)] ∧ lnS lnEvent xs ∧ rgS rgEvent xs := by
  obtain ⟨ds, h1, h2, h3⟩ := datRow (f := eEvent) (p := fun x => lnEvent x ∧ rgEvent x) (fun cs h => datEvent h) h
  exact ⟨ds, h1, ⟨h2, fun j hj => (h3 _ (List.getElem_mem hj)).1⟩, fun x hx => (h3 x hx).2⟩

theorem argI {v : V} (h : ArgV (.int .i64) v) : ∃ n, v = I n ∧ rgI n := by
  obtain ⟨c, hd, rfl⟩ := h
  obtain ⟨n, e, w⟩ := datI hd
  cases e
  exact ⟨n, rfl, w⟩
theorem argB {v : V} (h : ArgV .bool v) : ∃ b, v = B b := by
  obtain ⟨c, hd, rfl⟩ := h
  obtain ⟨n, e⟩ := datB hd
  cases e
  exact ⟨n, rfl⟩
theorem argS {v : V} (h : ArgV .str v) : ∃ s : ByteArray, v = S s ∧ s.size ≤ maxLen := by
  obtain ⟨c, hd, rfl⟩ := h
  obtain ⟨n, e, w⟩ := datS hd
  cases e
  exact ⟨n, rfl, w⟩
theorem argInts {v : V} (h : ArgV (.sl (.int .i64)) v) : ∃ xs : List Int, v = .sl 1 1 xs.length (ints xs) ∧ lnInts xs ∧ rgInts xs := by
  obtain ⟨c, hd, rfl⟩ := h
  obtain ⟨xs, e, w⟩ := datInts hd
  cases e
  exact ⟨xs, rfl, w⟩
theorem argDeal {v : V} (h : ArgV tyDeal v) : ∃ x : Deal, v = arg (eDeal x) ∧ lnDeal x ∧ rgDeal x := by
  obtain ⟨cs, hd, rfl⟩ := h
  obtain ⟨x, rfl, w⟩ := datDeal hd
  exact ⟨x, rfl, w⟩
theorem argBox {v : V} (h : ArgV tyBox v) : ∃ x : Box, v = arg (eBox x) ∧ lnBox x ∧ rgBox x := by
  obtain ⟨cs, hd, rfl⟩ := h
  obtain ⟨x, rfl, w⟩ := datBox hd
  exact ⟨x, rfl, w⟩
theorem argBoxS {v : V} (h : ArgV (.sl tyBox) v) : ∃ xs : List Box, v = .sl 1 4 xs.length (xs.flatMap eBox) ∧ lnS lnBox xs ∧ rgS rgBox xs := by
  obtain ⟨c, hd, rfl⟩ := h
  obtain ⟨xs, e, w⟩ := datBoxS hd
  cases e
  exact ⟨xs, rfl, w⟩
theorem argDialed {v : V} (h : ArgV tyDialed v) : ∃ x : Dialed, v = arg (eDialed x) ∧ lnDialed x ∧ rgDialed x := by
  obtain ⟨cs, hd, rfl⟩ := h
  obtain ⟨x, rfl, w⟩ := datDialed hd
  exact ⟨x, rfl, w⟩
theorem argDialedS {v : V} (h : ArgV (.sl tyDialed) v) : ∃ xs : List Dialed, v = .sl 1 5 xs.length (xs.flatMap eDialed) ∧ lnS lnDialed xs ∧ rgS rgDialed xs := by
  obtain ⟨c, hd, rfl⟩ := h
  obtain ⟨xs, e, w⟩ := datDialedS hd
  cases e
  exact ⟨xs, rfl, w⟩
theorem argRollout {v : V} (h : ArgV tyRollout v) : ∃ x : Rollout, v = arg (eRollout x) ∧ lnRollout x ∧ rgRollout x := by
  obtain ⟨cs, hd, rfl⟩ := h
  obtain ⟨x, rfl, w⟩ := datRollout hd
  exact ⟨x, rfl, w⟩
theorem argEndpoint {v : V} (h : ArgV tyEndpoint v) : ∃ x : Endpoint, v = arg (eEndpoint x) ∧ lnEndpoint x ∧ rgEndpoint x := by
  obtain ⟨cs, hd, rfl⟩ := h
  obtain ⟨x, rfl, w⟩ := datEndpoint hd
  exact ⟨x, rfl, w⟩
theorem argEndpointS {v : V} (h : ArgV (.sl tyEndpoint) v) : ∃ xs : List Endpoint, v = .sl 1 4 xs.length (xs.flatMap eEndpoint) ∧ lnS lnEndpoint xs ∧ rgS rgEndpoint xs := by
  obtain ⟨c, hd, rfl⟩ := h
  obtain ⟨xs, e, w⟩ := datEndpointS hd
  cases e
  exact ⟨xs, rfl, w⟩
theorem argLogged {v : V} (h : ArgV tyLogged v) : ∃ x : Logged, v = arg (eLogged x) ∧ lnLogged x ∧ rgLogged x := by
  obtain ⟨cs, hd, rfl⟩ := h
  obtain ⟨x, rfl, w⟩ := datLogged hd
  exact ⟨x, rfl, w⟩
theorem argLoggedS {v : V} (h : ArgV (.sl tyLogged) v) : ∃ xs : List Logged, v = .sl 1 8 xs.length (xs.flatMap eLogged) ∧ lnS lnLogged xs ∧ rgS rgLogged xs := by
  obtain ⟨c, hd, rfl⟩ := h
  obtain ⟨xs, e, w⟩ := datLoggedS hd
  cases e
  exact ⟨xs, rfl, w⟩
theorem argWorld {v : V} (h : ArgV tyWorld v) : ∃ x : World, v = arg (eWorld x) ∧ lnWorld x ∧ rgWorld x := by
  obtain ⟨cs, hd, rfl⟩ := h
  obtain ⟨x, rfl, w⟩ := datWorld hd
  exact ⟨x, rfl, w⟩
theorem argEvent {v : V} (h : ArgV tyEvent v) : ∃ x : Event, v = arg (eEvent x) ∧ lnEvent x ∧ rgEvent x := by
  obtain ⟨cs, hd, rfl⟩ := h
  obtain ⟨x, rfl, w⟩ := datEvent hd
  exact ⟨x, rfl, w⟩
theorem argEventS {v : V} (h : ArgV (.sl tyEvent) v) : ∃ xs : List Event, v = .sl 1 6 xs.length (xs.flatMap eEvent) ∧ lnS lnEvent xs ∧ rgS rgEvent xs := by
  obtain ⟨c, hd, rfl⟩ := h
  obtain ⟨xs, e, w⟩ := datEventS hd
  cases e
  exact ⟨xs, rfl, w⟩
end Go.Eng.T

namespace Go.Eng.T
theorem szl_lt {n : Nat} {l : Int} (h : l < n) : szl n l = -1 := by unfold szl; rw [if_pos h]
theorem szl_ge {n : Nat} {l : Int} (h : ¬ l < n) : szl n l = l - n := by unfold szl; rw [if_neg h]
theorem mcL_sz {α : Type} {mc sz : α → Nat} (c : Nat) (h : ∀ x, mc x ≤ c * (1 + sz x)) (xs : List α) : mcL mc xs ≤ c * sumF sz xs := by
  induction xs with
  | nil => simp [mcL]
  | cons x r ih =>
    have := h x
    simp only [mcL, sumF, List.map_cons, List.sum_cons, List.length_cons] at *
    rw [Nat.mul_add] at *
    rw [Nat.mul_add] at *
    rw [Nat.mul_add]
    omega
theorem mc_szBoxS (xs : List Box) : mcL mcBox xs ≤ 2 * sumF szBox xs := mcL_sz 2 (fun x => by unfold mcBox szBox; omega) xs
theorem mc_szEndpoint (x : Endpoint) : mcEndpoint x ≤ 2 * (1 + szEndpoint x) := by have := mc_szBoxS x.path; unfold mcEndpoint szEndpoint; omega
theorem mc_szEndpointS (xs : List Endpoint) : mcL mcEndpoint xs ≤ 2 * sumF szEndpoint xs := mcL_sz 2 mc_szEndpoint xs
theorem mc_szDialedS (xs : List Dialed) : mcL mcDialed xs ≤ 3 * sumF szDialed xs := mcL_sz 3 (fun x => by unfold mcDialed szDialed szDeal; omega) xs
theorem mc_szLoggedS (xs : List Logged) : mcL mcLogged xs ≤ 6 * sumF szLogged xs := mcL_sz 6 (fun x => by unfold mcLogged szLogged szDialed szDeal; omega) xs
theorem mc_szEventS (xs : List Event) : mcL mcEvent xs ≤ 4 * sumF szEvent xs := mcL_sz 4 (fun x => by unfold mcEvent szEvent szBox; omega) xs
theorem mc_szWorld (x : World) : mcWorld x ≤ 6 * szWorld x := by
  have := mc_szEndpointS x.ends
  have := mc_szDialedS x.stage
  have := mc_szLoggedS x.log
  unfold mcWorld szWorld szRollout; omega
theorem mc_szBox (x : Box) : mcTBox x ≤ szBox x := by unfold mcTBox szBox; omega
theorem mc_szDialed (x : Dialed) : mcTDialed x ≤ szDialed x := by unfold mcTDialed szDialed szDeal; omega
theorem mc_szDeal (x : Deal) : mcDeal x ≤ szDeal x := by unfold mcDeal szDeal; omega
theorem mc_szEvent (x : Event) : mcTEvent x ≤ szEvent x := by unfold mcTEvent szEvent szBox; omega
theorem mc_szRollout (x : Rollout) : mcRollout x ≤ szRollout x := by unfold mcRollout szRollout; omega
theorem mc_szEndpoint' (x : Endpoint) : mcTEndpoint x ≤ 2 * szEndpoint x := by have := mc_szBoxS x.path; unfold mcTEndpoint szEndpoint; omega
/-- sizes of a world's parts -/
theorem world_log {w : World} (h : szWorld w ≤ 4194304) : w.log.length ≤ 4194304 := by have := size_len (f := szLogged) (xs := w.log); unfold szWorld at h; omega
theorem world_ends {w : World} (h : szWorld w ≤ 4194304) : w.ends.length ≤ 4194304 := by have := size_len (f := szEndpoint) (xs := w.ends); unfold szWorld at h; omega
theorem world_stage {w : World} (h : szWorld w ≤ 4194304) : w.stage.length ≤ 4194304 := by have := size_len (f := szDialed) (xs := w.stage); unfold szWorld at h; omega
theorem beqI (a b : Int) : (a == b) = decide (a = b) := by by_cases h : a = b <;> simp [h]
end Go.Eng.T

namespace Go.Eng.T
set_option maxRecDepth 20000

abbrev InR (a b c : Int) : Prop := b ≤ a ∧ a ≤ c
def signalOf (g b l p : Int) : Int :=
  if ¬ InR g 0 10000 ∨ ¬ InR b 0 10000 ∨ ¬ InR l 1 10000 ∨ ¬ InR p 0 100 then 0
  else if 100 * b > p * l ∧ 100 * b > p * (g + b) then 2
  else if g + b < l then 0
  else if 100 * b ≤ p * (g + b) then 1
  else 2
abbrev SignalOfS (R : Rel) : Prop := ∀ g b l p : Int, R [I g, I b, I l, I p] [] (I (signalOf g b l p)) []
theorem mul_small {p x : Int} (h1 : 0 ≤ p) (h2 : p ≤ 100) (h3 : 0 ≤ x) (h4 : x ≤ 20000) : IntKind.i64.wrap (p * x) = p * x := by
  have a1 : 0 ≤ p * x := Int.mul_nonneg h1 h3
  have a2 : p * x ≤ 100 * 20000 := Int.mul_le_mul h2 h4 h3 (by omega)
  exact wrap_id (by omega) (by omega)
end Go.Eng.T

namespace Go.Eng.T
set_option maxRecDepth 20000

/-- where p holds first (from i on), or -1 -/
def idxP {α : Type} (p : α → Bool) : List α → Int → Int
  | [], _ => -1
  | x :: r, i => if p x then i else idxP p r (i + 1)
theorem idxP_drop {α : Type} {p : α → Bool} {xs : List α} {j : Nat} (h : j < xs.length) : idxP p (xs.drop j) j = if p xs[j] then (j : Int) else idxP p (xs.drop (j + 1)) ((j : Int) + 1) := by
  rw [List.drop_eq_getElem_cons h]; rfl
theorem idxP_end {α : Type} {p : α → Bool} {xs : List α} {j : Nat} (h : xs.length ≤ j) : idxP p (xs.drop j) j = -1 := by rw [List.drop_eq_nil_of_le h]; rfl
theorem idxP_ge {α : Type} {p : α → Bool} : ∀ {xs : List α} {i : Int}, 0 ≤ i → (0 ≤ idxP p xs i) = (xs.any p = true)
  | [], i, _ => by simp [idxP]
  | x :: r, i, h => by
    by_cases hp : p x = true
    · simp [idxP, hp, h]
    · have := idxP_ge (p := p) (xs := r) (i := i + 1) (by omega)
      simp [idxP, hp] at *
      exact this

/-- what is captured goes over as it is -/
def CapOk (caps : List V) : Prop := (∀ (H : Hp) (n : Nat), ownArgs H n (caps.map fun v => (false, v)) = some []) ∧ (∀ (H Hr : Hp) (n : Nat), callArgs H Hr n (caps.map fun v => (false, v)) = some caps) ∧ ∀ H : Hp, ro2L H caps = some caps
theorem capOk_nil : CapOk [] := ⟨fun _ _ => rfl, fun _ _ _ => rfl, fun _ => rfl⟩
theorem capOk_cons {v : V} {r : List V} (hv : ∀ H, ro H v = some v) (hv2 : ∀ H, ro2 H v = some v) (h : CapOk r) : CapOk (v :: r) :=
  ⟨fun H n => h.1 H n, fun H Hr n => by simp only [List.map_cons, callArgs, hv, h.2.1], fun H => by simp only [ro2L, hv2, h.2.2]⟩
theorem capOk_int {a : Int} {r : List V} (h : CapOk r) : CapOk (.rptr 1 [.sc (.int .i64 a)] 0 :: r) := capOk_cons (fun H => by simp) (fun H => by simp) h

abbrev IndexFuncS (D : Dn) (R : Rel) : Prop := ∀ (xs : List Int) (g : Nat) (caps : List V) (p : Int → Bool), xs.length ≤ maxLen → CapOk caps → (∀ x : Int, D g (I x :: caps) [] (B (p x)) []) →
  R [.sl 1 1 xs.length (ints xs), .fn g caps] [] (I (idxP p xs 0)) []
theorem IndexFunc_b (D : Dn) : IndexFuncS D (Body D sslices_IndexFunc___int_int_) := by
  intro xs g caps p hl hc hp
  unfold maxLen at hl
  simp -implicitDefEqProofs
  refine swp_loop (fun k s => ∃ j, j + k = xs.length ∧ idxP p xs 0 = idxP p (xs.drop j) j ∧ s = ⟨[.sl 1 1 xs.length (ints xs), .fn g caps, .undef, .undef, .sc (.int .i64 xs.length), .sc (.int .i64 j), .undef, .undef], []⟩) ?_ xs.length _ ⟨0, by simp, by simp, by simp⟩
  intro k s ⟨j, hj, hi, hs⟩
  subst hs
  by_cases hjn : j < xs.length
  · have hw : IntKind.i64.wrap ((j : Int) + 1) = (j + 1 : Nat) := by rw [wrap_id (by omega) (by omega)]; simp
    rw [idxP_drop hjn] at hi
    simp -implicitDefEqProofs [hjn, hc.1, hc.2.1]
    refine callQ_of (hp xs[j]) ?_
    by_cases he : p xs[j] = true
    · rw [if_pos he] at hi
      simp -implicitDefEqProofs [he, hi]
    · rw [if_neg he] at hi
      simp -implicitDefEqProofs [he]
      exact ⟨k - 1, by omega, j + 1, by omega, by simpa using hi, by simp [hw]⟩
  · rw [idxP_end (by omega)] at hi
    simp -implicitDefEqProofs [hjn, hi]
abbrev ContainsFuncS (D : Dn) (R : Rel) : Prop := ∀ (xs : List Int) (g : Nat) (caps : List V) (p : Int → Bool), xs.length ≤ maxLen → CapOk caps → (∀ x : Int, D g (I x :: caps) [] (B (p x)) []) →
  R [.sl 1 1 xs.length (ints xs), .fn g caps] [] (B (xs.any p)) []
theorem ContainsFunc_b (D : Dn) (hI : IndexFuncS D (D gslices_IndexFunc___int_int_)) : ContainsFuncS D (Body D sslices_ContainsFunc___int_int_) := by
  intro xs g caps p hl hc hp
  simp -implicitDefEqProofs [hc.2.2]
  refine callQ_of (hI xs g caps p hl hc hp) ?_
  have e : decide (0 ≤ idxP p xs 0) = xs.any p := by rw [Bool.eq_iff_iff]; simp only [decide_eq_true_eq]; rw [idxP_ge (by omega)]
  simp -implicitDefEqProofs [e]

def allIn (xs : List Int) (lo hi : Int) : Bool := xs.all fun x => decide (InR x lo hi)
abbrev areNumbersS (R : Rel) : Prop := ∀ (xs : List Int) (lo hi : Int), xs.length ≤ maxLen → R [.sl 1 1 xs.length (ints xs), I lo, I hi] [] (B (allIn xs lo hi)) []
abbrev areNumbers1S (R : Rel) : Prop := ∀ (x lo hi : Int), R [I x, .rptr 1 [I lo] 0, .rptr 1 [I hi] 0] [] (B (!decide (InR x lo hi))) []
theorem areNumbers1_b (D : Dn) (hI : InS (D gimpl_InRange)) : areNumbers1S (Body D simpl_areNumbers_1) := by
  intro x lo hi
  simp -implicitDefEqProofs
  refine callQ_of (hI _ _ _) ?_
  simp -implicitDefEqProofs
theorem areNumbers_b (D : Dn) (h1 : areNumbers1S (D gimpl_areNumbers_1)) (hC : ContainsFuncS D (D gslices_ContainsFunc___int_int_)) : areNumbersS (Body D simpl_areNumbers) := by
  intro xs lo hi hl
  simp -implicitDefEqProofs
  refine callQ_of (hC xs 266 _ (fun x => !decide (InR x lo hi)) hl (capOk_int (capOk_int capOk_nil)) (fun x => h1 x lo hi)) ?_
  have e : (xs.any fun x => !decide (InR x lo hi)) = !allIn xs lo hi := by unfold allIn; rw [List.all_eq_not_any_not]; simp
  generalize (xs.any fun x => !decide (InR x lo hi)) = b at e ⊢
  subst e
  simp -implicitDefEqProofs
end Go.Eng.T

namespace Go.Eng.T
set_option maxRecDepth 20000

abbrev InQ (a b c : Int) : Prop := b ≤ a ∧ a ≤ c
/-- shares that rise, each from 1 to 100 -/
def risesF (xs : List Int) (j : Nat) : Bool := (List.range j).all fun i => decide (InQ (xs.getD i 0) 1 100) && (decide (i = 0) || decide (xs.getD (i - 1) 0 < xs.getD i 0))
theorem risesF_step (xs : List Int) (j : Nat) : risesF xs (j + 1) = (risesF xs j && (decide (InQ (xs.getD j 0) 1 100) && (decide (j = 0) || decide (xs.getD (j - 1) 0 < xs.getD j 0)))) := by
  unfold risesF
  rw [List.range_succ, List.all_append]
  simp
theorem rises_no {xs : List Int} {j : Nat} (h : j < xs.length) (hn : risesF xs (j + 1) = false) : risesF xs xs.length = false := by
  have : ∀ n, risesF xs (j + 1 + n) = false := by
    intro n
    induction n with
    | zero => exact hn
    | succ n ih => rw [show j + 1 + (n + 1) = (j + 1 + n) + 1 by omega, risesF_step, ih]; rfl
  have := this (xs.length - (j + 1))
  rwa [show j + 1 + (xs.length - (j + 1)) = xs.length by omega] at this
def isRollout (r : Rollout) : Bool :=
  risesF r.stages r.stages.length && (decide (InQ r.version 1 9) && decide (InQ r.stages.length 1 5) && decide (r.stages.getD (r.stages.length - 1) 0 = 100) && decide (InQ r.pos 0 (r.stages.length - 1)))
abbrev IsRolloutS (R : Rel) : Prop := ∀ r : Rollout, r.stages.length ≤ 4194304 → R [arg (eRollout r)] [] (B (isRollout r)) []
theorem getD_at {xs : List Int} {j : Nat} (h : j < xs.length) : xs.getD j 0 = xs[j] := by simp [h]
theorem sIsRollout_b (D : Dn) (hI : InS (D gspec_l1In)) : IsRolloutS (Body D sspec_IsRollout) := by
  intro r hl
  simp -implicitDefEqProofs
  refine swp_loop (fun k s => ∃ j, j + k = r.stages.length ∧ risesF r.stages j = true ∧ s = ⟨[.undef, .ptr 0 0, .undef, .sc (.int .i64 j), .undef, .undef], [.var ((eRollout r).map (roCell 1))]⟩) ?_ r.stages.length _ ⟨0, by simp, by simp [risesF], by simp⟩
  intro k s ⟨j, hj, hr, hs⟩
  subst hs
  by_cases hjn : j < r.stages.length
  · have hw : IntKind.i64.wrap ((j : Int) + 1) = (j + 1 : Nat) := by rw [wrap_id (by omega) (by omega)]; simp
    have hst := risesF_step r.stages j
    rw [hr, Bool.true_and, getD_at hjn] at hst
    simp -implicitDefEqProofs [hjn]
    refine callQ_of (hI _ _ _) ?_
    by_cases h1 : InQ r.stages[j] 1 100
    rotate_left
    · have e : isRollout r = false := by unfold isRollout; rw [rises_no hjn (by rw [hst]; simp [h1])]; rfl
      simp -implicitDefEqProofs [h1, e]
    by_cases h0 : j = 0
    · subst h0
      simp -implicitDefEqProofs [h1]
      exact ⟨k - 1, by omega, 1, by omega, by rw [hst]; simp [h1], by simpa using hw⟩
    · have hp : ((j - 1 : Nat) : Int) = (j : Int) - 1 := by omega
      have hw2 : IntKind.i64.wrap ((j : Int) - 1) = ((j - 1 : Nat) : Int) := by rw [wrap_id (by omega) (by omega)]; omega
      have h2 : (0 : Int) < j := by omega
      have h2' : 0 < j := by omega
      have h3 : j - 1 < r.stages.length := by omega
      rw [getD_at h3] at hst
      by_cases h4 : r.stages[j - 1] < r.stages[j]
      · have h4' : ¬ r.stages[j] ≤ r.stages[j - 1] := by omega
        simp -implicitDefEqProofs [h1, h2, h2', hw2, h3, hjn, h4']
        exact ⟨k - 1, by omega, j + 1, by omega, by rw [hst]; simp [h1, h0, h4], by simp [hw]⟩
      · have e : isRollout r = false := by unfold isRollout; rw [rises_no hjn (by rw [hst]; simp [h1, h0, h4])]; rfl
        have h4' : r.stages[j] ≤ r.stages[j - 1] := by omega
        simp -implicitDefEqProofs [h1, h2, h2', hw2, h3, hjn, h4', e]
  · obtain rfl : j = r.stages.length := by omega
    simp -implicitDefEqProofs
    refine callQ_of (hI _ _ _) ?_
    by_cases h1 : InQ r.version 1 9
    rotate_left
    · simp -implicitDefEqProofs [h1, isRollout]
    simp -implicitDefEqProofs [h1]
    refine callQ_of (hI _ _ _) ?_
    by_cases h2 : InQ r.stages.length 1 5
    rotate_left
    · simp -implicitDefEqProofs [h2, isRollout]
    have hw2 : IntKind.i64.wrap ((r.stages.length : Int) - 1) = ((r.stages.length - 1 : Nat) : Int) := by rw [wrap_id (by omega) (by omega)]; omega
    have h3 : r.stages.length - 1 < r.stages.length := by omega
    have h5 : 0 < r.stages.length := by omega
    by_cases h4 : r.stages[r.stages.length - 1] = 100
    rotate_left
    · simp -implicitDefEqProofs [h2, hw2, h3, h4, h5, isRollout]
    simp -implicitDefEqProofs [h2, hw2, h3, h4, h5]
    refine callQ_of (hI _ _ _) ?_
    have hc : ((r.stages.length - 1 : Nat) : Int) = (r.stages.length : Int) - 1 := by omega
    have e : isRollout r = decide (InQ r.pos 0 ((r.stages.length - 1 : Nat) : Int)) := by unfold isRollout; rw [hr, getD_at h3, h4, hc]; simp [h1, h2]
    simp -implicitDefEqProofs [e]
theorem iIsRollout_b (D : Dn) (hI : InS (D gimpl_InRange)) : IsRolloutS (Body D simpl_IsRollout) := by
  intro r hl
  simp -implicitDefEqProofs
  refine swp_loop (fun k s => ∃ j v3 v4, j + k = r.stages.length ∧ risesF r.stages j = true ∧ s = ⟨[.undef, .ptr 0 0, .undef, v3, v4, .sl 1 1 r.stages.length (ints r.stages), .sc (.int .i64 r.stages.length), .sc (.int .i64 j), .undef, .undef], [.var ((eRollout r).map (roCell 1))]⟩) ?_ r.stages.length _ ⟨0, .undef, .undef, by simp, by simp [risesF], by simp⟩
  intro k s ⟨j, v3, v4, hj, hr, hs⟩
  subst hs
  by_cases hjn : j < r.stages.length
  · have hw : IntKind.i64.wrap ((j : Int) + 1) = (j + 1 : Nat) := by rw [wrap_id (by omega) (by omega)]; simp
    have hst := risesF_step r.stages j
    rw [hr, Bool.true_and, getD_at hjn] at hst
    simp -implicitDefEqProofs [hjn]
    refine callQ_of (hI _ _ _) ?_
    by_cases h1 : InQ r.stages[j] 1 100
    rotate_left
    · have e : isRollout r = false := by unfold isRollout; rw [rises_no hjn (by rw [hst]; simp [h1])]; rfl
      simp -implicitDefEqProofs [h1, e]
    by_cases h0 : j = 0
    · subst h0
      simp -implicitDefEqProofs [h1]
      exact ⟨k - 1, by omega, 1, by omega, by rw [hst]; simp [h1], by simpa using hw⟩
    · have hp : ((j - 1 : Nat) : Int) = (j : Int) - 1 := by omega
      have hw2 : IntKind.i64.wrap ((j : Int) - 1) = ((j - 1 : Nat) : Int) := by rw [wrap_id (by omega) (by omega)]; omega
      have h2 : (0 : Int) < j := by omega
      have h2' : 0 < j := by omega
      have h3 : j - 1 < r.stages.length := by omega
      rw [getD_at h3] at hst
      by_cases h4 : r.stages[j - 1] < r.stages[j]
      · have h4' : ¬ r.stages[j] ≤ r.stages[j - 1] := by omega
        simp -implicitDefEqProofs [h1, h2, h2', hw2, h3, hjn, h4']
        exact ⟨k - 1, by omega, j + 1, by omega, by rw [hst]; simp [h1, h0, h4], by simp [hw]⟩
      · have e : isRollout r = false := by unfold isRollout; rw [rises_no hjn (by rw [hst]; simp [h1, h0, h4])]; rfl
        have h4' : r.stages[j] ≤ r.stages[j - 1] := by omega
        simp -implicitDefEqProofs [h1, h2, h2', hw2, h3, hjn, h4', e]
  · obtain rfl : j = r.stages.length := by omega
    simp -implicitDefEqProofs
    refine callQ_of (hI _ _ _) ?_
    by_cases h1 : InQ r.version 1 9
    rotate_left
    · simp -implicitDefEqProofs [h1, isRollout]
    simp -implicitDefEqProofs [h1]
    refine callQ_of (hI _ _ _) ?_
    by_cases h2 : InQ r.stages.length 1 5
    rotate_left
    · simp -implicitDefEqProofs [h2, isRollout]
    have hw2 : IntKind.i64.wrap ((r.stages.length : Int) - 1) = ((r.stages.length - 1 : Nat) : Int) := by rw [wrap_id (by omega) (by omega)]; omega
    have h3 : r.stages.length - 1 < r.stages.length := by omega
    have h5 : 0 < r.stages.length := by omega
    by_cases h4 : r.stages[r.stages.length - 1] = 100
    rotate_left
    · simp -implicitDefEqProofs [h2, hw2, h3, h4, h5, isRollout]
    simp -implicitDefEqProofs [h2, hw2, h3, h4, h5]
    refine callQ_of (hI _ _ _) ?_
    have hc : ((r.stages.length - 1 : Nat) : Int) = (r.stages.length : Int) - 1 := by omega
    have e : isRollout r = decide (InQ r.pos 0 ((r.stages.length - 1 : Nat) : Int)) := by unfold isRollout; rw [hr, getD_at h3, h4, hc]; simp [h1, h2]
    simp -implicitDefEqProofs [e]

/-- rounded up -/
def ceilDiv (a b : Int) : Int := if InQ a 0 1000000000000 ∧ InQ b 1 1000000000000 then (a + b - 1).tdiv b else 0
abbrev CeilDivS (R : Rel) : Prop := ∀ a b : Int, R [I a, I b] [] (I (ceilDiv a b)) []
theorem tdiv_fit {a b : Int} (h1 : 0 ≤ a) (h2 : a ≤ 4000000000000) (h3 : 1 ≤ b) : IntKind.i64.wrap (a.tdiv b) = a.tdiv b := by
  have a1 : 0 ≤ a.tdiv b := Int.tdiv_nonneg h1 (by omega)
  have a2 : a.tdiv b ≤ a := Int.tdiv_le_self _ h1
  exact wrap_id (by omega) (by omega)
end Go.Eng.T

namespace Go.Eng.T
set_option maxRecDepth 20000

theorem rises_at {xs : List Int} {n : Nat} (h : risesF xs n = true) {i : Nat} (hi : i < n) : InQ (xs.getD i 0) 1 100 := by
  unfold risesF at h
  have := List.all_eq_true.1 h i (List.mem_range.2 hi)
  simp at this
  exact ⟨this.1.1, this.1.2⟩
theorem roll_pos {r : Rollout} (h : isRollout r = true) : 0 ≤ r.pos ∧ r.pos < r.stages.length ∧ r.stages.length ≤ 5 ∧ InQ (r.stages.getD r.pos.toNat 0) 1 100 := by
  unfold isRollout at h
  simp only [Bool.and_eq_true, decide_eq_true_eq] at h
  obtain ⟨h1, ⟨⟨h2, h3⟩, h4⟩, h5⟩ := h
  refine ⟨h5.1, by omega, by omega, rises_at h1 (by omega)⟩
def countIn (r : Rollout) (n : Int) : Int := if isRollout r = true ∧ r.off = false ∧ InQ n 0 10000 then ceilDiv (n * r.stages.getD r.pos.toNat 0) 100 else 0
abbrev CountInS (R : Rel) : Prop := ∀ (r : Rollout) (n : Int), r.stages.length ≤ 4194304 → R [arg (eRollout r), I n] [] (I (countIn r n)) []
theorem mul_fit {n x : Int} (h1 : InQ n 0 10000) (h2 : InQ x 1 100) : IntKind.i64.wrap (n * x) = n * x := by
  have a1 : 0 ≤ n * x := Int.mul_nonneg h1.1 (by omega)
  have a2 : n * x ≤ 10000 * 100 := Int.mul_le_mul h1.2 h2.2 (by omega) (by omega)
  exact wrap_id (by omega) (by omega)
def isIn (r : Rollout) (i n : Int) : Bool := decide (0 ≤ i) && decide (i < n) && decide (i < countIn r n)
abbrev IsInS (R : Rel) : Prop := ∀ (r : Rollout) (i n : Int), r.stages.length ≤ 4194304 → R [arg (eRollout r), I i, I n] [] (B (isIn r i n)) []
abbrev hasEndS (R : Rel) : Prop := ∀ (w : World) (i : Int), w.ends.length ≤ 4194304 → R [arg (eWorld w), I i] [] (B (decide (InQ i 0 ((w.ends.length : Int) - 1)))) []
theorem hasEnd_b (D : Dn) (hI : InS (D gimpl_InRange)) : hasEndS (Body D simpl_hasEnd) := by
  intro w i hl
  have hw : IntKind.i64.wrap ((w.ends.length : Int) - 1) = (w.ends.length : Int) - 1 := wrap_id (by omega) (by omega)
  simp -implicitDefEqProofs [hw]
  refine callQ_of (hI _ _ _) ?_
  simp -implicitDefEqProofs

def isOnNew (w : World) (i : Int) : Bool := decide (InQ i 0 ((w.ends.length : Int) - 1)) && isIn w.rollout i w.ends.length && (match w.ends[i.toNat]? with | some e => decide (w.rollout.version ∈ e.versions) | none => false)
theorem world_vers' {w : World} (h : szWorld w ≤ 4194304) {j : Nat} (hj : j < w.ends.length) : w.ends[j].versions.length ≤ maxLen := by
  have := size_at (f := szEndpoint) hj
  have e : szEndpoint w.ends[j] = w.ends[j].versions.length + w.ends[j].tags.length + sumF szBox w.ends[j].path := rfl
  unfold szWorld at h
  unfold maxLen; omega
theorem world_roll {w : World} (h : szWorld w ≤ 4194304) : w.rollout.stages.length ≤ 4194304 := by unfold szWorld szRollout at h; omega
abbrev IsOnNewS (R : Rel) : Prop := ∀ (w : World) (i : Int), szWorld w ≤ 4194304 → R [arg (eWorld w), I i] [] (B (isOnNew w i)) []
end Go.Eng.T

namespace Go.Eng.T
set_option maxRecDepth 20000

abbrev cpRolloutS (R : Rel) : Prop := ∀ r : Rollout, szRollout r ≤ 4194304 → R [arg (eRollout r)] [] (.agg (eRollout r)) []
theorem l26Copy_b (D : Dn) : cpRolloutS (Body D sspec_l26Copy) := by
  intro r h
  have hb : r.stages.length * 8 ≤ 1099511627776 := by unfold szRollout at h; omega
  simp -implicitDefEqProofs [hb]
theorem copyRollout_b (D : Dn) : cpRolloutS (Body D simpl_copyRollout) := by
  intro r h
  have hb : r.stages.length * 8 ≤ 1099511627776 := by unfold szRollout at h; omega
  simp -implicitDefEqProofs [hb]
abbrev cpDialedS (R : Rel) : Prop := ∀ d : Dialed, szDialed d ≤ 4194304 → R [arg (eDialed d)] [] (.agg (eDialed d)) []
theorem l32Dialed_b (D : Dn) : cpDialedS (Body D sspec_l32Dialed) := by
  intro d h
  unfold szDialed szDeal at h
  have h1 : d.deal.tags.length * 8 ≤ 1099511627776 := by omega
  have h2 : d.up.length * 8 ≤ 1099511627776 := by omega
  simp -implicitDefEqProofs [h1, h2]
theorem copyDialed_b (D : Dn) : cpDialedS (Body D simpl_copyDialed) := by
  intro d h
  unfold szDialed szDeal at h
  have h1 : d.deal.tags.length * 8 ≤ 1099511627776 := by omega
  have h2 : d.up.length * 8 ≤ 1099511627776 := by omega
  simp -implicitDefEqProofs [h1, h2]

theorem take_flat {α : Type} {f : α → List V} {xs : List α} {j : Nat} (h : j < xs.length) : (xs.take j).flatMap f ++ f xs[j] = (xs.take (j + 1)).flatMap f := by
  have e : xs.take (j + 1) = xs.take j ++ [xs[j]] := by simp
  rw [e, List.flatMap_append]; simp
abbrev cpPathS (R : Rel) : Prop := ∀ xs : List Box, sumF szBox xs ≤ 4194304 → R [.sl 1 4 xs.length (xs.flatMap eBox)] [] (.sl 0 4 xs.length (xs.flatMap eBox)) []
theorem copyPath_b (D : Dn) : cpPathS (Body D simpl_copyPath) := by
  intro xs h
  have hlen := size_len (f := szBox) (xs := xs)
  simp -implicitDefEqProofs
  refine swp_loop (fun k s => ∃ j o1 o2 o3 o4 o5 o6 o7, j + k = xs.length ∧ s = ⟨[.undef, .undef, .arr 8, .undef, .sl 1 4 xs.length (xs.flatMap eBox), .sc (.int .i64 xs.length), .sc (.int .i64 j), .undef], [.free, o1, o2, o3, o4, o5, o6, o7, .arr 4 0 j ((xs.take j).flatMap eBox)]⟩) ?_ xs.length _ ⟨0, .free, .free, .free, .free, .free, .free, .free, by simp, by simp⟩
  intro k s ⟨j, o1, o2, o3, o4, o5, o6, o7, hj, hs⟩
  subst hs
  by_cases hjn : j < xs.length
  · have hw : IntKind.i64.wrap ((j : Int) + 1) = (j + 1 : Nat) := by rw [wrap_id (by omega) (by omega)]; simp
    have hsz := size_at (f := szBox) hjn
    have e : szBox xs[j] = xs[j].drops.length + xs[j].strips.length := rfl
    have h1 : xs[j].drops.length * 8 ≤ 1099511627776 := by omega
    have h2 : xs[j].strips.length * 8 ≤ 1099511627776 := by omega
    have h3 : (j + 1) * 64 ≤ 1099511627776 := by omega
    have hst := take_flat (f := eBox) hjn
    simp -implicitDefEqProofs [hjn, h1, h2, h3]
    exact ⟨k - 1, by omega, j + 1, by omega, by simp [hw], rfl, by rw [← hst]; rfl⟩
  · obtain rfl : j = xs.length := by omega
    simp -implicitDefEqProofs
abbrev cpEndpointS (R : Rel) : Prop := ∀ x : Endpoint, szEndpoint x ≤ 4194304 → R [arg (eEndpoint x)] [] (.agg (eEndpoint x)) []
theorem copyEndpoint_b (D : Dn) (hP : cpPathS (D gimpl_copyPath)) : cpEndpointS (Body D simpl_copyEndpoint) := by
  intro x h
  unfold szEndpoint at h
  have h1 : x.versions.length * 8 ≤ 1099511627776 := by omega
  have h2 : x.tags.length * 8 ≤ 1099511627776 := by omega
  simp -implicitDefEqProofs [h1, h2]
  refine callQ_of (hP x.path (by omega)) ?_
  simp -implicitDefEqProofs
theorem l32End_b (D : Dn) : cpEndpointS (Body D sspec_l32End) := by
  intro x h
  unfold szEndpoint at h
  have h1 : x.versions.length * 8 ≤ 1099511627776 := by omega
  have h2 : x.tags.length * 8 ≤ 1099511627776 := by omega
  have hlen := size_len (f := szBox) (xs := x.path)
  simp -implicitDefEqProofs [h1, h2]
  refine swp_loop (fun k s => ∃ j o7 o8 o9 o10 o11 o12 o13, j + k = x.path.length ∧ s = ⟨[.undef, .ptr 0 0, .ptr 1 0, .ptr 6 0, .sc (.int .i64 j), .undef, .undef], [.var ((eEndpoint x).map (roCell 1)), .var [.nil 1, .nil 1, .nil 4, .sc (.int .i64 0)], .dead, .arr 1 0 x.versions.length (ints x.versions), .dead, .arr 1 0 x.tags.length (ints x.tags), .var [.arr 3, .arr 5, .arr 14, .sc (.int .i64 x.cls)], o7, o8, o9, o10, o11, o12, o13, .arr 4 0 j ((x.path.take j).flatMap eBox)]⟩) ?_ x.path.length _ ⟨0, .free, .free, .free, .free, .free, .free, .free, by simp, by simp⟩
  intro k s ⟨j, o7, o8, o9, o10, o11, o12, o13, hj, hs⟩
  subst hs
  by_cases hjn : j < x.path.length
  · have hw : IntKind.i64.wrap ((j : Int) + 1) = (j + 1 : Nat) := by rw [wrap_id (by omega) (by omega)]; simp
    have hsz := size_at (f := szBox) hjn
    have e : szBox x.path[j] = x.path[j].drops.length + x.path[j].strips.length := rfl
    have h1 : x.path[j].drops.length * 8 ≤ 1099511627776 := by omega
    have h2 : x.path[j].strips.length * 8 ≤ 1099511627776 := by omega
    have h3 : (j + 1) * 64 ≤ 1099511627776 := by omega
    have hst := take_flat (f := eBox) hjn
    simp -implicitDefEqProofs [hjn, h1, h2, h3]
    exact ⟨k - 1, by omega, j + 1, by omega, by simp [hw], rfl, by rw [← hst]; rfl⟩
  · obtain rfl : j = x.path.length := by omega
    simp -implicitDefEqProofs
end Go.Eng.T

namespace Go.Eng.T
set_option maxRecDepth 20000
theorem world_roll' {w : World} (h : szWorld w ≤ 4194304) : szRollout w.rollout ≤ 4194304 := by unfold szWorld at h; omega
theorem world_szs {w : World} (h : szWorld w ≤ 4194304) : w.server.length ≤ 4194304 ∧ w.tags.length ≤ 4194304 ∧ sumF szEndpoint w.ends ≤ 4194304 ∧ sumF szDialed w.stage ≤ 4194304 ∧ sumF szLogged w.log ≤ 4194304 := by unfold szWorld at h; omega
abbrev cpWorldS (R : Rel) : Prop := ∀ w : World, szWorld w ≤ 4194304 → R [arg (eWorld w)] [] (.agg (eWorld w)) []
theorem l32Copy_b (D : Dn) (hE : cpEndpointS (D gspec_l32End)) (hR : cpRolloutS (D gspec_l26Copy)) (hD : cpDialedS (D gspec_l32Dialed)) : cpWorldS (Body D sspec_l32Copy) := by
  intro w h
  have hl := world_log h
  have he := world_ends h
  have hs := world_stage h
  have hr := world_roll' h
  have z := world_szs h
  have b1 : w.server.length * 8 ≤ 1099511627776 := by omega
  have b2 : w.tags.length * 8 ≤ 1099511627776 := by omega
  simp -implicitDefEqProofs [b1, b2]
  refine swp_loop (fun k s => ∃ j o8 o9 o10 o11 o12, j + k = w.ends.length ∧ s = ⟨[.undef, .ptr 0 0, .ptr 1 0, .ptr 2 0, .sc (.int .i64 j), .undef, .undef, .undef, .undef, .undef], [.var ((eWorld w).map (roCell 1)), .var [.nil 1, .nil 1, .sc (.int .i64 0), .nil 4, .sc (.int .i64 0), .nil 1, .sc (.int .i64 0), .sc (.bool false), .sc (.int .i64 0), .sc (.int .i64 0), .nil 5, .nil 8, .sc (.int .i64 0), .sc (.int .i64 0), .sc (.int .i64 0)], .var [.arr 4, .arr 6, .sc (.int .i64 w.key), .arr 24, .sc (.int .i64 w.rollout.version), .sl 1 1 w.rollout.stages.length (ints w.rollout.stages), .sc (.int .i64 w.rollout.pos), .sc (.bool w.rollout.off), .sc (.int .i64 w.least), .sc (.int .i64 w.percent), .sl 1 5 w.stage.length (w.stage.flatMap eDialed), .sl 1 8 w.log.length (w.log.flatMap eLogged), .sc (.int .i64 w.now), .sc (.int .i64 w.hurt), .sc (.int .i64 w.reached)], .dead, .arr 1 0 w.server.length (ints w.server), .dead, .arr 1 0 w.tags.length (ints w.tags), .free, o8, o9, o10, o11, o12, .free, .free, .free, .free, .free, .free, .free, .free, .free, .free, .free, .arr 4 0 j ((w.ends.take j).flatMap eEndpoint), .free, .free]⟩) ?_ w.ends.length _ ⟨0, by simp⟩
  intro k s ⟨j, o8, o9, o10, o11, o12, hj, hs'⟩
  subst hs'
  by_cases hjn : j < w.ends.length
  · have hw : IntKind.i64.wrap ((j : Int) + 1) = (j + 1 : Nat) := by rw [wrap_id (by omega) (by omega)]; simp
    have hsz := size_at (f := szEndpoint) hjn
    have h3 : (j + 1) * 80 ≤ 1099511627776 := by omega
    have hst := take_flat (f := eEndpoint) hjn
    simp -implicitDefEqProofs [hjn]
    refine callQ_of (hE w.ends[j] (by first | omega | (simp only [szLogged] at hsz; omega))) ?_
    simp -implicitDefEqProofs [hjn, h3]
    exact ⟨k - 1, by omega, j + 1, by omega, by simp [hw], rfl, by rw [← hst]; rfl⟩
  obtain rfl : j = w.ends.length := by omega
  simp -implicitDefEqProofs
  refine callQ_of (hR w.rollout hr) ?_
  simp -implicitDefEqProofs
  refine swp_loop (fun k s => ∃ j o8 o9 o10 o11 o12 o15 o16 o17 o18, j + k = w.stage.length ∧ s = ⟨[.undef, .ptr 0 0, .ptr 1 0, .ptr 2 0, .undef, .sc (.int .i64 j), .undef, .undef, .undef, .undef], [.var ((eWorld w).map (roCell 1)), .var [.nil 1, .nil 1, .sc (.int .i64 0), .nil 4, .sc (.int .i64 0), .nil 1, .sc (.int .i64 0), .sc (.bool false), .sc (.int .i64 0), .sc (.int .i64 0), .nil 5, .nil 8, .sc (.int .i64 0), .sc (.int .i64 0), .sc (.int .i64 0)], .var [.arr 4, .arr 6, .sc (.int .i64 w.key), .arr 24, .sc (.int .i64 w.rollout.version), .arr 13, .sc (.int .i64 w.rollout.pos), .sc (.bool w.rollout.off), .sc (.int .i64 w.least), .sc (.int .i64 w.percent), .arr 25, .sl 1 8 w.log.length (w.log.flatMap eLogged), .sc (.int .i64 w.now), .sc (.int .i64 w.hurt), .sc (.int .i64 w.reached)], .dead, .arr 1 0 w.server.length (ints w.server), .dead, .arr 1 0 w.tags.length (ints w.tags), .free, o8, o9, o10, o11, o12, .arr 1 0 w.rollout.stages.length (ints w.rollout.stages), .free, o15, o16, o17, o18, .free, .free, .free, .free, .free, .arr 4 0 w.ends.length (w.ends.flatMap eEndpoint), .arr 5 0 j ((w.stage.take j).flatMap eDialed), .free]⟩) ?_ w.stage.length _ ⟨0, by simp⟩
  intro k s ⟨j, o8, o9, o10, o11, o12, o15, o16, o17, o18, hj, hs'⟩
  subst hs'
  by_cases hjn : j < w.stage.length
  · have hw : IntKind.i64.wrap ((j : Int) + 1) = (j + 1 : Nat) := by rw [wrap_id (by omega) (by omega)]; simp
    have hsz := size_at (f := szDialed) hjn
    have h3 : (j + 1) * 72 ≤ 1099511627776 := by omega
    have hst := take_flat (f := eDialed) hjn
    simp -implicitDefEqProofs [hjn]
    refine callQ_of (hD w.stage[j] (by first | omega | (simp only [szLogged] at hsz; omega))) ?_
    simp -implicitDefEqProofs [hjn, h3]
    exact ⟨k - 1, by omega, j + 1, by omega, by simp [hw], rfl, by rw [← hst]; rfl⟩
  obtain rfl : j = w.stage.length := by omega
  simp -implicitDefEqProofs
  refine swp_loop (fun k s => ∃ j o8 o9 o10 o11 o12 o15 o16 o17 o18 o20 o21 o22 o23, j + k = w.log.length ∧ s = ⟨[.undef, .ptr 0 0, .ptr 1 0, .ptr 2 0, .undef, .undef, .sc (.int .i64 j), .undef, .undef, .undef], [.var ((eWorld w).map (roCell 1)), .var [.nil 1, .nil 1, .sc (.int .i64 0), .nil 4, .sc (.int .i64 0), .nil 1, .sc (.int .i64 0), .sc (.bool false), .sc (.int .i64 0), .sc (.int .i64 0), .nil 5, .nil 8, .sc (.int .i64 0), .sc (.int .i64 0), .sc (.int .i64 0)], .var [.arr 4, .arr 6, .sc (.int .i64 w.key), .arr 24, .sc (.int .i64 w.rollout.version), .arr 13, .sc (.int .i64 w.rollout.pos), .sc (.bool w.rollout.off), .sc (.int .i64 w.least), .sc (.int .i64 w.percent), .arr 25, .arr 26, .sc (.int .i64 w.now), .sc (.int .i64 w.hurt), .sc (.int .i64 w.reached)], .dead, .arr 1 0 w.server.length (ints w.server), .dead, .arr 1 0 w.tags.length (ints w.tags), .free, o8, o9, o10, o11, o12, .arr 1 0 w.rollout.stages.length (ints w.rollout.stages), .free, o15, o16, o17, o18, .free, o20, o21, o22, o23, .arr 4 0 w.ends.length (w.ends.flatMap eEndpoint), .arr 5 0 w.stage.length (w.stage.flatMap eDialed), .arr 8 0 j ((w.log.take j).flatMap eLogged)]⟩) ?_ w.log.length _ ⟨0, by simp⟩
  intro k s ⟨j, o8, o9, o10, o11, o12, o15, o16, o17, o18, o20, o21, o22, o23, hj, hs'⟩
  subst hs'
  by_cases hjn : j < w.log.length
  · have hw : IntKind.i64.wrap ((j : Int) + 1) = (j + 1 : Nat) := by rw [wrap_id (by omega) (by omega)]; simp
    have hsz := size_at (f := szLogged) hjn
    have h3 : (j + 1) * 96 ≤ 1099511627776 := by omega
    have hst := take_flat (f := eLogged) hjn
    simp -implicitDefEqProofs [hjn]
    refine callQ_of (hD w.log[j].dialed (by first | omega | (simp only [szLogged] at hsz; omega))) ?_
    simp -implicitDefEqProofs [hjn, h3]
    exact ⟨k - 1, by omega, j + 1, by omega, by simp [hw], rfl, by rw [← hst]; rfl⟩
  obtain rfl : j = w.log.length := by omega
  simp -implicitDefEqProofs
theorem copyWorld_b (D : Dn) (hE : cpEndpointS (D gimpl_copyEndpoint)) (hR : cpRolloutS (D gimpl_copyRollout)) (hD : cpDialedS (D gimpl_copyDialed)) : cpWorldS (Body D simpl_copyWorld) := by
  intro w h
  have hl := world_log h
  have he := world_ends h
  have hs := world_stage h
  have hr := world_roll' h
  have z := world_szs h
  have b1 : w.server.length * 8 ≤ 1099511627776 := by omega
  have b2 : w.tags.length * 8 ≤ 1099511627776 := by omega
  simp -implicitDefEqProofs [b1, b2]
  refine callQ_of (hR w.rollout hr) ?_
  simp -implicitDefEqProofs
  refine swp_loop (fun k s => ∃ j o8 o9 o10 o11 o12 o13, j + k = w.ends.length ∧ s = ⟨[.undef, .ptr 0 0, .ptr 1 0, .ptr 2 0, .undef, .undef, .undef, .sl 1 4 w.ends.length (w.ends.flatMap eEndpoint), .sc (.int .i64 w.ends.length), .sc (.int .i64 j), .undef, .undef, .undef, .undef, .undef, .undef, .undef, .undef, .undef], [.var ((eWorld w).map (roCell 1)), .var [.nil 1, .nil 1, .sc (.int .i64 0), .nil 4, .sc (.int .i64 0), .nil 1, .sc (.int .i64 0), .sc (.bool false), .sc (.int .i64 0), .sc (.int .i64 0), .nil 5, .nil 8, .sc (.int .i64 0), .sc (.int .i64 0), .sc (.int .i64 0)], .var [.arr 4, .arr 6, .sc (.int .i64 w.key), .arr 24, .sc (.int .i64 w.rollout.version), .arr 7, .sc (.int .i64 w.rollout.pos), .sc (.bool w.rollout.off), .sc (.int .i64 w.least), .sc (.int .i64 w.percent), .arr 25, .arr 26, .sc (.int .i64 w.now), .sc (.int .i64 w.hurt), .sc (.int .i64 w.reached)], .dead, .arr 1 0 w.server.length (ints w.server), .dead, .arr 1 0 w.tags.length (ints w.tags), .arr 1 0 w.rollout.stages.length (ints w.rollout.stages), o8, o9, o10, o11, o12, o13, .free, .free, .free, .free, .free, .free, .free, .free, .free, .free, .arr 4 0 j ((w.ends.take j).flatMap eEndpoint), .arr 5 0 0 [], .arr 8 0 0 []]⟩) ?_ w.ends.length _ ⟨0, by simp⟩
  intro k s ⟨j, o8, o9, o10, o11, o12, o13, hj, hs'⟩
  subst hs'
  by_cases hjn : j < w.ends.length
  · have hw : IntKind.i64.wrap ((j : Int) + 1) = (j + 1 : Nat) := by rw [wrap_id (by omega) (by omega)]; simp
    have hsz := size_at (f := szEndpoint) hjn
    have h3 : (j + 1) * 80 ≤ 1099511627776 := by omega
    have hst := take_flat (f := eEndpoint) hjn
    simp -implicitDefEqProofs [hjn]
    refine callQ_of (hE w.ends[j] (by first | omega | (simp only [szLogged] at hsz; omega))) ?_
    simp -implicitDefEqProofs [hjn, h3]
    exact ⟨k - 1, by omega, j + 1, by omega, by simp [hw], rfl, by rw [← hst]; rfl⟩
  obtain rfl : j = w.ends.length := by omega
  simp -implicitDefEqProofs
  refine swp_loop (fun k s => ∃ j o8 o9 o10 o11 o12 o13 o14 o15 o16 o17 o18, j + k = w.stage.length ∧ s = ⟨[.undef, .ptr 0 0, .ptr 1 0, .ptr 2 0, .undef, .undef, .undef, .undef, .undef, .undef, .undef, .sl 1 5 w.stage.length (w.stage.flatMap eDialed), .sc (.int .i64 w.stage.length), .sc (.int .i64 j), .undef, .undef, .undef, .undef, .undef], [.var ((eWorld w).map (roCell 1)), .var [.nil 1, .nil 1, .sc (.int .i64 0), .nil 4, .sc (.int .i64 0), .nil 1, .sc (.int .i64 0), .sc (.bool false), .sc (.int .i64 0), .sc (.int .i64 0), .nil 5, .nil 8, .sc (.int .i64 0), .sc (.int .i64 0), .sc (.int .i64 0)], .var [.arr 4, .arr 6, .sc (.int .i64 w.key), .arr 24, .sc (.int .i64 w.rollout.version), .arr 7, .sc (.int .i64 w.rollout.pos), .sc (.bool w.rollout.off), .sc (.int .i64 w.least), .sc (.int .i64 w.percent), .arr 25, .arr 26, .sc (.int .i64 w.now), .sc (.int .i64 w.hurt), .sc (.int .i64 w.reached)], .dead, .arr 1 0 w.server.length (ints w.server), .dead, .arr 1 0 w.tags.length (ints w.tags), .arr 1 0 w.rollout.stages.length (ints w.rollout.stages), o8, o9, o10, o11, o12, o13, o14, o15, o16, o17, o18, .free, .free, .free, .free, .free, .arr 4 0 w.ends.length (w.ends.flatMap eEndpoint), .arr 5 0 j ((w.stage.take j).flatMap eDialed), .arr 8 0 0 []]⟩) ?_ w.stage.length _ ⟨0, by simp⟩
  intro k s ⟨j, o8, o9, o10, o11, o12, o13, o14, o15, o16, o17, o18, hj, hs'⟩
  subst hs'
  by_cases hjn : j < w.stage.length
  · have hw : IntKind.i64.wrap ((j : Int) + 1) = (j + 1 : Nat) := by rw [wrap_id (by omega) (by omega)]; simp
    have hsz := size_at (f := szDialed) hjn
    have h3 : (j + 1) * 72 ≤ 1099511627776 := by omega
    have hst := take_flat (f := eDialed) hjn
    simp -implicitDefEqProofs [hjn]
    refine callQ_of (hD w.stage[j] (by first | omega | (simp only [szLogged] at hsz; omega))) ?_
    simp -implicitDefEqProofs [hjn, h3]
    exact ⟨k - 1, by omega, j + 1, by omega, by simp [hw], rfl, by rw [← hst]; rfl⟩
  obtain rfl : j = w.stage.length := by omega
  simp -implicitDefEqProofs
  refine swp_loop (fun k s => ∃ j o8 o9 o10 o11 o12 o13 o14 o15 o16 o17 o18 o19 o20 o21 o22 o23, j + k = w.log.length ∧ s = ⟨[.undef, .undef, .ptr 1 0, .ptr 2 0, .undef, .undef, .undef, .undef, .undef, .undef, .undef, .undef, .undef, .undef, .undef, .sl 1 8 w.log.length (w.log.flatMap eLogged), .sc (.int .i64 w.log.length), .sc (.int .i64 j), .undef], [.var ((eWorld w).map (roCell 1)), .var [.nil 1, .nil 1, .sc (.int .i64 0), .nil 4, .sc (.int .i64 0), .nil 1, .sc (.int .i64 0), .sc (.bool false), .sc (.int .i64 0), .sc (.int .i64 0), .nil 5, .nil 8, .sc (.int .i64 0), .sc (.int .i64 0), .sc (.int .i64 0)], .var [.arr 4, .arr 6, .sc (.int .i64 w.key), .arr 24, .sc (.int .i64 w.rollout.version), .arr 7, .sc (.int .i64 w.rollout.pos), .sc (.bool w.rollout.off), .sc (.int .i64 w.least), .sc (.int .i64 w.percent), .arr 25, .arr 26, .sc (.int .i64 w.now), .sc (.int .i64 w.hurt), .sc (.int .i64 w.reached)], .dead, .arr 1 0 w.server.length (ints w.server), .dead, .arr 1 0 w.tags.length (ints w.tags), .arr 1 0 w.rollout.stages.length (ints w.rollout.stages), o8, o9, o10, o11, o12, o13, o14, o15, o16, o17, o18, o19, o20, o21, o22, o23, .arr 4 0 w.ends.length (w.ends.flatMap eEndpoint), .arr 5 0 w.stage.length (w.stage.flatMap eDialed), .arr 8 0 j ((w.log.take j).flatMap eLogged)]⟩) ?_ w.log.length _ ⟨0, by simp⟩
  intro k s ⟨j, o8, o9, o10, o11, o12, o13, o14, o15, o16, o17, o18, o19, o20, o21, o22, o23, hj, hs'⟩
  subst hs'
  by_cases hjn : j < w.log.length
  · have hw : IntKind.i64.wrap ((j : Int) + 1) = (j + 1 : Nat) := by rw [wrap_id (by omega) (by omega)]; simp
    have hsz := size_at (f := szLogged) hjn
    have h3 : (j + 1) * 96 ≤ 1099511627776 := by omega
    have hst := take_flat (f := eLogged) hjn
    simp -implicitDefEqProofs [hjn]
    refine callQ_of (hD w.log[j].dialed (by first | omega | (simp only [szLogged] at hsz; omega))) ?_
    simp -implicitDefEqProofs [hjn, h3]
    exact ⟨k - 1, by omega, j + 1, by omega, by simp [hw], rfl, by rw [← hst]; rfl⟩
  obtain rfl : j = w.log.length := by omega
  simp -implicitDefEqProofs
end Go.Eng.T

namespace Go.Eng.T
set_option maxRecDepth 20000

def stepTick (w : World) (n : Int) : World × Bool := if InQ n 1 100 ∧ InQ w.now 0 (10000 - n) then ({ w with now := w.now + n }, true) else (w, false)
abbrev StepTickS (R : Rel) : Prop := ∀ (w : World) (n : Int), szWorld w ≤ 4194304 → R [arg (eWorld w), I n] [] (.tup [.agg (eWorld (stepTick w n).1), B (stepTick w n).2]) []
theorem stepTick_sz (w : World) (n : Int) : szWorld (stepTick w n).1 = szWorld w := by unfold stepTick; split <;> rfl

/-- the path of the endpoint i put aside -/
def clearEnd (w : World) (i : Nat) : World := match w.ends[i]? with
  | some x => { w with ends := w.ends.set i ⟨x.versions, x.tags, [], x.cls⟩ }
  | none => w
def stepClear (w : World) (i : Int) : World × Bool :=
  if 0 ≤ i then (match w.ends[i.toNat]? with
    | some x => if x.path = [] then (w, false) else (clearEnd w i.toNat, true)
    | none => (w, false)) else (w, false)
abbrev StepClearS (R : Rel) : Prop := ∀ (w : World) (i : Int), szWorld w ≤ 4194304 → R [arg (eWorld w), I i] [] (.tup [.agg (eWorld (stepClear w i).1), B (stepClear w i).2]) []
theorem stepClear_out {w : World} {i : Int} (h : ¬ InQ i 0 ((w.ends.length : Int) - 1)) : stepClear w i = (w, false) := by
  unfold stepClear
  by_cases h0 : 0 ≤ i
  · rw [if_pos h0, List.getElem?_eq_none (by omega)]
  · rw [if_neg h0]
theorem sum_set {α : Type} {f : α → Nat} : ∀ {xs : List α} {j : Nat} (h : j < xs.length) (y : α), ((xs.set j y).map f).sum + f xs[j] = (xs.map f).sum + f y
  | [], j, h, _ => by simp at h
  | x :: r, 0, h, y => by simp; omega
  | x :: r, j + 1, h, y => by
    have := sum_set (f := f) (xs := r) (j := j) (by simpa using h) y
    simp at *
    omega
theorem size_set {α : Type} {f : α → Nat} {xs : List α} {j : Nat} (h : j < xs.length) (y : α) : sumF f (xs.set j y) + f xs[j] = sumF f xs + f y := by
  have := sum_set (f := f) h y
  unfold sumF; simp only [List.length_set]; omega
theorem stepClear_sz (w : World) (i : Int) : szWorld (stepClear w i).1 ≤ szWorld w := by
  unfold stepClear
  split
  · split
    · rename_i x hx
      split
      · exact Nat.le_refl _
      · unfold clearEnd
        rw [hx]
        obtain ⟨hj, rfl⟩ := List.getElem?_eq_some_iff.1 hx
        have := size_set (f := szEndpoint) hj ⟨w.ends[i.toNat].versions, w.ends[i.toNat].tags, [], w.ends[i.toNat].cls⟩
        have e1 : szEndpoint ⟨w.ends[i.toNat].versions, w.ends[i.toNat].tags, [], w.ends[i.toNat].cls⟩ ≤ szEndpoint w.ends[i.toNat] := by unfold szEndpoint sumF; simp
        simp only [szWorld]
        omega
    · exact Nat.le_refl _
  · exact Nat.le_refl _
end Go.Eng.T

namespace Go.Eng.T
set_option maxRecDepth 20000

theorem allIn_step {xs : List Int} {lo hi : Int} {j : Nat} (h : j < xs.length) : allIn (xs.take (j + 1)) lo hi = (allIn (xs.take j) lo hi && decide (InR xs[j] lo hi)) := by
  have e : xs.take (j + 1) = xs.take j ++ [xs[j]] := by simp
  unfold allIn
  rw [e, List.all_append]; simp
theorem allIn_no {xs : List Int} {lo hi : Int} {j : Nat} (h : j < xs.length) (hn : ¬ InR xs[j] lo hi) : allIn xs lo hi = false := by
  unfold allIn
  rw [List.all_eq_false]
  exact ⟨xs[j], List.getElem_mem h, by simp [hn]⟩
theorem allIn_all {xs : List Int} {lo hi : Int} {j : Nat} (h : xs.length ≤ j) (ha : allIn (xs.take j) lo hi = true) : allIn xs lo hi = true := by rwa [List.take_of_length_le h] at ha
abbrev l9ByteS (R : Rel) : Prop := ∀ xs : List Int, xs.length ≤ maxLen → R [.sl 1 1 xs.length (ints xs)] [] (B (allIn xs 0 255)) []
theorem l9Byte_b (D : Dn) (hI : InS (D gspec_l1In)) : l9ByteS (Body D sspec_l9Byte) := by
  intro xs hl
  unfold maxLen at hl
  simp -implicitDefEqProofs
  refine swp_loop (fun k s => ∃ j, j + k = xs.length ∧ allIn (xs.take j) 0 255 = true ∧ s = ⟨[.sl 1 1 xs.length (ints xs), .undef, .sc (.int .i64 j), .undef, .undef], []⟩) ?_ xs.length _ ⟨0, by simp, by simp [allIn], by simp⟩
  intro k s ⟨j, hj, hp, hs⟩
  subst hs
  by_cases hjn : j < xs.length
  · have hw : IntKind.i64.wrap ((j : Int) + 1) = (j + 1 : Nat) := by rw [wrap_id (by omega) (by omega)]; simp
    simp -implicitDefEqProofs [hjn]
    refine callQ_of (hI _ _ _) ?_
    by_cases h1 : InR xs[j] 0 255
    · simp -implicitDefEqProofs [h1]
      exact ⟨k - 1, by omega, j + 1, by omega, by rw [allIn_step hjn, hp]; simp [h1], by simp [hw]⟩
    · simp -implicitDefEqProofs [h1, allIn_no hjn h1]
  · simp -implicitDefEqProofs [hjn, allIn_all (by omega) hp]

def isBox (b : Box) : Bool := decide (InR b.limit 0 9) && decide (b.drops.length ≤ 6) && decide (b.strips.length ≤ 6) && allIn b.drops 0 255 && allIn b.strips 0 255
abbrev IsBoxS (R : Rel) : Prop := ∀ b : Box, lnBox b → R [arg (eBox b)] [] (B (isBox b)) []
theorem sIsBox_b (D : Dn) (hI : InS (D gspec_l1In)) (hB : l9ByteS (D gspec_l9Byte)) : IsBoxS (Body D sspec_IsBox) := by
  intro b hl
  simp -implicitDefEqProofs
  refine callQ_of (hI _ _ _) ?_
  by_cases h1 : InR b.limit 0 9
  rotate_left
  · simp -implicitDefEqProofs [h1, isBox]
  by_cases h2 : b.drops.length ≤ 6
  rotate_left
  · have h2' : ¬ (b.drops.length : Int) ≤ 6 := by omega
    simp -implicitDefEqProofs [h1, h2', h2, isBox]
  have h2' : (b.drops.length : Int) ≤ 6 := by omega
  by_cases h3 : b.strips.length ≤ 6
  rotate_left
  · have h3' : ¬ (b.strips.length : Int) ≤ 6 := by omega
    simp -implicitDefEqProofs [h1, h2', h3', h3, isBox]
  have h3' : (b.strips.length : Int) ≤ 6 := by omega
  simp -implicitDefEqProofs [h1, h2', h3']
  refine callQ_of (hB _ hl.1) ?_
  by_cases h4 : allIn b.drops 0 255 = true
  rotate_left
  · simp -implicitDefEqProofs [h4, isBox]
  simp -implicitDefEqProofs [h4]
  refine callQ_of (hB _ hl.2) ?_
  simp -implicitDefEqProofs [isBox, h1, h2, h3, h4]
theorem iIsBox_b (D : Dn) (hI : InS (D gimpl_InRange)) (hB : areNumbersS (D gimpl_areNumbers)) : IsBoxS (Body D simpl_IsBox) := by
  intro b hl
  simp -implicitDefEqProofs
  refine callQ_of (hI _ _ _) ?_
  by_cases h1 : InR b.limit 0 9
  rotate_left
  · simp -implicitDefEqProofs [h1, isBox]
  by_cases h2 : b.drops.length ≤ 6
  rotate_left
  · have h2' : ¬ (b.drops.length : Int) ≤ 6 := by omega
    simp -implicitDefEqProofs [h1, h2', h2, isBox]
  have h2' : (b.drops.length : Int) ≤ 6 := by omega
  by_cases h3 : b.strips.length ≤ 6
  rotate_left
  · have h3' : ¬ (b.strips.length : Int) ≤ 6 := by omega
    simp -implicitDefEqProofs [h1, h2', h3', h3, isBox]
  have h3' : (b.strips.length : Int) ≤ 6 := by omega
  simp -implicitDefEqProofs [h1, h2', h3']
  refine callQ_of (hB _ _ _ hl.1) ?_
  by_cases h4 : allIn b.drops 0 255 = true
  rotate_left
  · simp -implicitDefEqProofs [h4, isBox]
  simp -implicitDefEqProofs [h4]
  refine callQ_of (hB _ _ _ hl.2) ?_
  simp -implicitDefEqProofs [isBox, h1, h2, h3, h4]

def stepBox (w : World) (i : Int) (b : Box) : World × Bool :=
  if 0 ≤ i then (match w.ends[i.toNat]? with
    | some x => if isBox b = true ∧ x.path.length < 4 then ({ w with ends := w.ends.set i.toNat ⟨x.versions, x.tags, x.path ++ [b], x.cls⟩ }, true) else (w, false)
    | none => (w, false)) else (w, false)
abbrev StepBoxS (R : Rel) : Prop := ∀ (w : World) (i : Int) (b : Box), szWorld w ≤ 4194304 → szBox b ≤ 4194304 → R [arg (eWorld w), I i, arg (eBox b)] [] (.tup [.agg (eWorld (stepBox w i b).1), B (stepBox w i b).2]) []
theorem stepBox_out {w : World} {i : Int} {b : Box} (h : ¬ InQ i 0 ((w.ends.length : Int) - 1)) : stepBox w i b = (w, false) := by
  unfold stepBox
  by_cases h0 : 0 ≤ i
  · rw [if_pos h0, List.getElem?_eq_none (by omega)]
  · rw [if_neg h0]
theorem ln_of_sz {b : Box} (h : szBox b ≤ 4194304) : lnBox b := by unfold szBox at h; unfold lnBox lnInts maxLen; omega
theorem stepBox_sz (w : World) (i : Int) (b : Box) : szWorld (stepBox w i b).1 ≤ szWorld w + 1 + szBox b := by
  unfold stepBox
  split
  · split
    · rename_i x hx
      split
      · obtain ⟨hj, rfl⟩ := List.getElem?_eq_some_iff.1 hx
        have := size_set (f := szEndpoint) hj ⟨w.ends[i.toNat].versions, w.ends[i.toNat].tags, w.ends[i.toNat].path ++ [b], w.ends[i.toNat].cls⟩
        have e1 : szEndpoint ⟨w.ends[i.toNat].versions, w.ends[i.toNat].tags, w.ends[i.toNat].path ++ [b], w.ends[i.toNat].cls⟩ = szEndpoint w.ends[i.toNat] + 1 + szBox b := by unfold szEndpoint sumF; simp; omega
        simp only [szWorld]
        omega
      · show szWorld w ≤ _; omega
    · show szWorld w ≤ _; omega
  · show szWorld w ≤ _; omega
end Go.Eng.T

namespace Go.Eng.T
set_option maxRecDepth 20000
abbrev IndexFuncEndpointS (D : Dn) (R : Rel) : Prop := ∀ (xs : List Endpoint) (g : Nat) (caps : List V) (p : Endpoint → Bool), xs.length ≤ maxLen → CapOk caps → (∀ (j : Nat) (h : j < xs.length), D g (arg (eEndpoint xs[j]) :: caps) [] (B (p xs[j])) []) → R [.sl 1 4 xs.length (xs.flatMap eEndpoint), .fn g caps] [] (I (idxP p xs 0)) []
theorem IndexFuncEndpoint_b (D : Dn) : IndexFuncEndpointS D (Body D sslices_IndexFunc___impl_Endpoint_impl_Endpoint_) := by
  intro xs g caps p hl hc hp
  unfold maxLen at hl
  simp -implicitDefEqProofs
  refine swp_loop (fun k s => ∃ j, j + k = xs.length ∧ idxP p xs 0 = idxP p (xs.drop j) j ∧ s = ⟨[.sl 1 4 xs.length (xs.flatMap eEndpoint), .fn g caps, .undef, .undef, .sc (.int .i64 xs.length), .sc (.int .i64 j), .undef, .undef], []⟩) ?_ xs.length _ ⟨0, by simp, by simp, by simp⟩
  intro k s ⟨j, hj, hi, hs⟩
  subst hs
  by_cases hjn : j < xs.length
  · have hw : IntKind.i64.wrap ((j : Int) + 1) = (j + 1 : Nat) := by rw [wrap_id (by omega) (by omega)]; simp
    rw [idxP_drop hjn] at hi
    simp -implicitDefEqProofs [hjn, hc.1, hc.2.1]
    refine callQ_of (hp j hjn) ?_
    by_cases he : p xs[j] = true
    · rw [if_pos he] at hi
      simp -implicitDefEqProofs [he, hi]
    · rw [if_neg he] at hi
      simp -implicitDefEqProofs [he]
      exact ⟨k - 1, by omega, j + 1, by omega, by simpa using hi, by simp [hw]⟩
  · rw [idxP_end (by omega)] at hi
    simp -implicitDefEqProofs [hjn, hi]
abbrev ContainsFuncEndpointS (D : Dn) (R : Rel) : Prop := ∀ (xs : List Endpoint) (g : Nat) (caps : List V) (p : Endpoint → Bool), xs.length ≤ maxLen → CapOk caps → (∀ (j : Nat) (h : j < xs.length), D g (arg (eEndpoint xs[j]) :: caps) [] (B (p xs[j])) []) → R [.sl 1 4 xs.length (xs.flatMap eEndpoint), .fn g caps] [] (B (xs.any p)) []
theorem ContainsFuncEndpoint_b (D : Dn) (hI : IndexFuncEndpointS D (D gslices_IndexFunc___impl_Endpoint_impl_Endpoint_)) : ContainsFuncEndpointS D (Body D sslices_ContainsFunc___impl_Endpoint_impl_Endpoint_) := by
  intro xs g caps p hl hc hp
  simp -implicitDefEqProofs [hc.2.2]
  refine callQ_of (hI xs g caps p hl hc hp) ?_
  have e : decide (0 ≤ idxP p xs 0) = xs.any p := by rw [Bool.eq_iff_iff]; simp only [decide_eq_true_eq]; rw [idxP_ge (by omega)]
  simp -implicitDefEqProofs [e]
abbrev IndexFuncLoggedS (D : Dn) (R : Rel) : Prop := ∀ (xs : List Logged) (g : Nat) (caps : List V) (p : Logged → Bool), xs.length ≤ maxLen → CapOk caps → (∀ (j : Nat) (h : j < xs.length), D g (arg (eLogged xs[j]) :: caps) [] (B (p xs[j])) []) → R [.sl 1 8 xs.length (xs.flatMap eLogged), .fn g caps] [] (I (idxP p xs 0)) []
abbrev ContainsFuncLoggedS (D : Dn) (R : Rel) : Prop := ∀ (xs : List Logged) (g : Nat) (caps : List V) (p : Logged → Bool), xs.length ≤ maxLen → CapOk caps → (∀ (j : Nat) (h : j < xs.length), D g (arg (eLogged xs[j]) :: caps) [] (B (p xs[j])) []) → R [.sl 1 8 xs.length (xs.flatMap eLogged), .fn g caps] [] (B (xs.any p)) []
abbrev IndexFuncBoxS (D : Dn) (R : Rel) : Prop := ∀ (xs : List Box) (g : Nat) (caps : List V) (p : Box → Bool), xs.length ≤ maxLen → CapOk caps → (∀ (j : Nat) (h : j < xs.length), D g (arg (eBox xs[j]) :: caps) [] (B (p xs[j])) []) → R [.sl 1 4 xs.length (xs.flatMap eBox), .fn g caps] [] (I (idxP p xs 0)) []
theorem IndexFuncBox_b (D : Dn) : IndexFuncBoxS D (Body D sslices_IndexFunc___impl_Box_impl_Box_) := by
  intro xs g caps p hl hc hp
  unfold maxLen at hl
  simp -implicitDefEqProofs
  refine swp_loop (fun k s => ∃ j, j + k = xs.length ∧ idxP p xs 0 = idxP p (xs.drop j) j ∧ s = ⟨[.sl 1 4 xs.length (xs.flatMap eBox), .fn g caps, .undef, .undef, .sc (.int .i64 xs.length), .sc (.int .i64 j), .undef, .undef], []⟩) ?_ xs.length _ ⟨0, by simp, by simp, by simp⟩
  intro k s ⟨j, hj, hi, hs⟩
  subst hs
  by_cases hjn : j < xs.length
  · have hw : IntKind.i64.wrap ((j : Int) + 1) = (j + 1 : Nat) := by rw [wrap_id (by omega) (by omega)]; simp
    rw [idxP_drop hjn] at hi
    simp -implicitDefEqProofs [hjn, hc.1, hc.2.1]
    refine callQ_of (hp j hjn) ?_
    by_cases he : p xs[j] = true
    · rw [if_pos he] at hi
      simp -implicitDefEqProofs [he, hi]
    · rw [if_neg he] at hi
      simp -implicitDefEqProofs [he]
      exact ⟨k - 1, by omega, j + 1, by omega, by simpa using hi, by simp [hw]⟩
  · rw [idxP_end (by omega)] at hi
    simp -implicitDefEqProofs [hjn, hi]
abbrev ContainsFuncBoxS (D : Dn) (R : Rel) : Prop := ∀ (xs : List Box) (g : Nat) (caps : List V) (p : Box → Bool), xs.length ≤ maxLen → CapOk caps → (∀ (j : Nat) (h : j < xs.length), D g (arg (eBox xs[j]) :: caps) [] (B (p xs[j])) []) → R [.sl 1 4 xs.length (xs.flatMap eBox), .fn g caps] [] (B (xs.any p)) []
theorem ContainsFuncBox_b (D : Dn) (hI : IndexFuncBoxS D (D gslices_IndexFunc___impl_Box_impl_Box_)) : ContainsFuncBoxS D (Body D sslices_ContainsFunc___impl_Box_impl_Box_) := by
  intro xs g caps p hl hc hp
  simp -implicitDefEqProofs [hc.2.2]
  refine callQ_of (hI xs g caps p hl hc hp) ?_
  have e : decide (0 ≤ idxP p xs 0) = xs.any p := by rw [Bool.eq_iff_iff]; simp only [decide_eq_true_eq]; rw [idxP_ge (by omega)]
  simp -implicitDefEqProofs [e]
end Go.Eng.T

namespace Go.Eng.T
set_option maxRecDepth 20000

theorem sz_up {xs : List Logged} {j : Nat} (h : j < xs.length) : xs[j].dialed.up.length ≤ sumF szLogged xs := by
  have := size_at (f := szLogged) h
  simp only [szLogged, szDialed] at this ⊢
  omega
theorem world_up {w : World} (h : szWorld w ≤ 4194304) {j : Nat} (hj : j < w.log.length) : w.log[j].dialed.up.length ≤ maxLen := by
  have := sz_up hj
  unfold szWorld at h
  unfold maxLen; omega

def hurtL (w : World) (l : Logged) : Bool := l.on && badD w.rollout.version l.dialed
abbrev HurtS (R : Rel) : Prop := ∀ (w : World) (l : Logged), l.dialed.up.length ≤ maxLen → R [arg (eWorld w), arg (eLogged l)] [] (B (hurtL w l)) []
abbrev IsCountedS (R : Rel) : Prop := ∀ (w : World), szWorld w ≤ 4194304 → R [arg (eWorld w)] [] (B (decide (w.hurt = cntF (hurtL w) w.log))) []
end Go.Eng.T

namespace Go.Eng.T
set_option maxRecDepth 20000

def isReserved (t : Int) : Bool := decide (InR t 0 255) && decide (t.tmod 16 = 10)
abbrev IsReservedS (R : Rel) : Prop := ∀ t : Int, R [I t] [] (B (isReserved t)) []
theorem sIsReserved_b (D : Dn) (hI : InS (D gspec_l1In)) : IsReservedS (Body D sspec_IsReserved) := by
  intro t
  simp -implicitDefEqProofs
  refine callQ_of (hI _ _ _) ?_
  by_cases h : InR t 0 255
  · simp -implicitDefEqProofs [h, isReserved, beqI]
  · simp -implicitDefEqProofs [h, isReserved]
theorem iIsReserved_b (D : Dn) (hI : InS (D gimpl_InRange)) : IsReservedS (Body D simpl_IsReserved) := by
  intro t
  simp -implicitDefEqProofs
  refine callQ_of (hI _ _ _) ?_
  by_cases h : InR t 0 255
  · simp -implicitDefEqProofs [h, isReserved, beqI]
  · simp -implicitDefEqProofs [h, isReserved]

abbrev IsHardenedS (R : Rel) : Prop := ∀ xs : List Int, xs.length ≤ maxLen → R [.sl 1 1 xs.length (ints xs)] [] (B (xs.any isReserved)) []
theorem any_here {α : Type} {p : α → Bool} {xs : List α} {j : Nat} (h : j < xs.length) (hp : p xs[j] = true) : xs.any p = true := List.any_eq_true.2 ⟨_, List.getElem_mem h, hp⟩
theorem any_step {α : Type} {p : α → Bool} {xs : List α} {j : Nat} (h : j < xs.length) : (xs.take (j + 1)).any p = ((xs.take j).any p || p xs[j]) := by
  have e : xs.take (j + 1) = xs.take j ++ [xs[j]] := by simp
  rw [e, List.any_append]; simp
theorem any_none {α : Type} {p : α → Bool} {xs : List α} {j : Nat} (h : xs.length ≤ j) (ha : (xs.take j).any p = false) : xs.any p = false := by rwa [List.take_of_length_le h] at ha
theorem iIsHardened_b (D : Dn) (hR : IsReservedS (D gimpl_IsReserved)) (hC : ContainsFuncS D (D gslices_ContainsFunc___int_int_)) : IsHardenedS (Body D simpl_IsHardened) := by
  intro xs hl
  simp -implicitDefEqProofs
  refine callQ_of (hC xs 279 _ isReserved hl capOk_nil (fun x => hR x)) ?_
  generalize xs.any isReserved = b
  simp -implicitDefEqProofs

def drunkL (l : Logged) : Bool := l.dialed.deal.ok && (l.dialed.deal.tags.any isReserved || !decide (InR l.dialed.deal.version 1 9))
abbrev IsSoberS (R : Rel) : Prop := ∀ w : World, szWorld w ≤ 4194304 → R [arg (eWorld w)] [] (B (!w.log.any drunkL)) []
theorem world_dtags {w : World} (h : szWorld w ≤ 4194304) {j : Nat} (hj : j < w.log.length) : w.log[j].dialed.deal.tags.length ≤ maxLen := by
  have := size_at (f := szLogged) hj
  have e : szLogged w.log[j] = w.log[j].dialed.deal.tags.length + w.log[j].dialed.up.length := rfl
  unfold szWorld at h
  unfold maxLen; omega
abbrev IsSober1S (R : Rel) : Prop := ∀ l : Logged, l.dialed.deal.tags.length ≤ maxLen → R [arg (eLogged l)] [] (B (drunkL l)) []
end Go.Eng.T

namespace Go.Eng.T
set_option maxRecDepth 20000
abbrev InV (a b c : Int) : Prop := b ≤ a ∧ a ≤ c
/-- numbers that rise, each from 1 to 9 -/
def risesV (xs : List Int) (j : Nat) : Bool := (List.range j).all fun i => decide (InV (xs.getD i 0) 1 9) && (decide (i = 0) || decide (xs.getD (i - 1) 0 < xs.getD i 0))
theorem risesV_step (xs : List Int) (j : Nat) : risesV xs (j + 1) = (risesV xs j && (decide (InV (xs.getD j 0) 1 9) && (decide (j = 0) || decide (xs.getD (j - 1) 0 < xs.getD j 0)))) := by
  unfold risesV
  rw [List.range_succ, List.all_append]
  simp
theorem risesV_no {xs : List Int} {j : Nat} (h : j < xs.length) (hn : risesV xs (j + 1) = false) : risesV xs xs.length = false := by
  have : ∀ n, risesV xs (j + 1 + n) = false := by
    intro n
    induction n with
    | zero => exact hn
    | succ n ih => rw [show j + 1 + (n + 1) = (j + 1 + n) + 1 by omega, risesV_step, ih]; rfl
  have := this (xs.length - (j + 1))
  rwa [show j + 1 + (xs.length - (j + 1)) = xs.length by omega] at this
theorem getDV {xs : List Int} {j : Nat} (h : j < xs.length) : xs.getD j 0 = xs[j] := by simp [h]
def areVers (xs : List Int) : Bool := risesV xs xs.length && decide (0 < xs.length)
abbrev AreVersionsS (R : Rel) : Prop := ∀ xs : List Int, xs.length ≤ maxLen → R [.sl 1 1 xs.length (ints xs)] [] (B (areVers xs)) []
theorem sAreVersions_b (D : Dn) (hI : InS (D gspec_l1In)) : AreVersionsS (Body D sspec_AreVersions) := by
  intro xs hl
  unfold maxLen at hl
  simp -implicitDefEqProofs
  refine swp_loop (fun k s => ∃ j, j + k = xs.length ∧ risesV xs j = true ∧ s = ⟨[.sl 1 1 xs.length (ints xs), .undef, .sc (.int .i64 j), .undef, .undef], []⟩) ?_ xs.length _ ⟨0, by simp, by simp [risesV], by simp⟩
  intro k s ⟨j, hj, hr, hs⟩
  subst hs
  by_cases hjn : j < xs.length
  · have hw : IntKind.i64.wrap ((j : Int) + 1) = (j + 1 : Nat) := by rw [wrap_id (by omega) (by omega)]; simp
    have hst := risesV_step xs j
    rw [hr, Bool.true_and, getDV hjn] at hst
    simp -implicitDefEqProofs [hjn]
    refine callQ_of (hI _ _ _) ?_
    by_cases h1 : InV xs[j] 1 9
    rotate_left
    · have e : areVers xs = false := by unfold areVers; rw [risesV_no hjn (by rw [hst]; simp [h1])]; rfl
      simp -implicitDefEqProofs [h1, e]
    by_cases h0 : j = 0
    · subst h0
      simp -implicitDefEqProofs [h1]
      exact ⟨k - 1, by omega, 1, by omega, by rw [hst]; simp [h1], by simpa using hw⟩
    · have hw2 : IntKind.i64.wrap ((j : Int) - 1) = ((j - 1 : Nat) : Int) := by rw [wrap_id (by omega) (by omega)]; omega
      have h2 : (0 : Int) < j := by omega
      have h2' : 0 < j := by omega
      have h3 : j - 1 < xs.length := by omega
      rw [getDV h3] at hst
      by_cases h4 : xs[j - 1] < xs[j]
      · have h4' : ¬ xs[j] ≤ xs[j - 1] := by omega
        simp -implicitDefEqProofs [h1, h2, h2', hw2, h3, hjn, h4']
        exact ⟨k - 1, by omega, j + 1, by omega, by rw [hst]; simp [h1, h0, h4], by simp [hw]⟩
      · have e : areVers xs = false := by unfold areVers; rw [risesV_no hjn (by rw [hst]; simp [h1, h0, h4])]; rfl
        have h4' : xs[j] ≤ xs[j - 1] := by omega
        simp -implicitDefEqProofs [h1, h2, h2', hw2, h3, hjn, h4', e]
  · obtain rfl : j = xs.length := by omega
    have e : areVers xs = decide (0 < xs.length) := by unfold areVers; rw [hr]; rfl
    by_cases h5 : 0 < xs.length
    · have h5' : (0 : Int) < xs.length := by omega
      simp -implicitDefEqProofs [e, h5, h5']
    · have h5' : ¬ (0 : Int) < xs.length := by omega
      simp -implicitDefEqProofs [e, h5, h5']
theorem iAreVersions_b (D : Dn) (hI : InS (D gimpl_InRange)) : AreVersionsS (Body D simpl_AreVersions) := by
  intro xs hl
  unfold maxLen at hl
  simp -implicitDefEqProofs
  refine swp_loop (fun k s => ∃ j v2 v3, j + k = xs.length ∧ risesV xs j = true ∧ s = ⟨[.sl 1 1 xs.length (ints xs), .undef, v2, v3, .sl 1 1 xs.length (ints xs), .sc (.int .i64 xs.length), .sc (.int .i64 j), .undef, .undef], []⟩) ?_ xs.length _ ⟨0, .undef, .undef, by simp, by simp [risesV], by simp⟩
  intro k s ⟨j, v2, v3, hj, hr, hs⟩
  subst hs
  by_cases hjn : j < xs.length
  · have hw : IntKind.i64.wrap ((j : Int) + 1) = (j + 1 : Nat) := by rw [wrap_id (by omega) (by omega)]; simp
    have hst := risesV_step xs j
    rw [hr, Bool.true_and, getDV hjn] at hst
    simp -implicitDefEqProofs [hjn]
    refine callQ_of (hI _ _ _) ?_
    by_cases h1 : InV xs[j] 1 9
    rotate_left
    · have e : areVers xs = false := by unfold areVers; rw [risesV_no hjn (by rw [hst]; simp [h1])]; rfl
      simp -implicitDefEqProofs [h1, e]
    by_cases h0 : j = 0
    · subst h0
      simp -implicitDefEqProofs [h1]
      exact ⟨k - 1, by omega, 1, by omega, by rw [hst]; simp [h1], by simpa using hw⟩
    · have hw2 : IntKind.i64.wrap ((j : Int) - 1) = ((j - 1 : Nat) : Int) := by rw [wrap_id (by omega) (by omega)]; omega
      have h2 : (0 : Int) < j := by omega
      have h2' : 0 < j := by omega
      have h3 : j - 1 < xs.length := by omega
      rw [getDV h3] at hst
      by_cases h4 : xs[j - 1] < xs[j]
      · have h4' : ¬ xs[j] ≤ xs[j - 1] := by omega
        simp -implicitDefEqProofs [h1, h2, h2', hw2, h3, hjn, h4']
        exact ⟨k - 1, by omega, j + 1, by omega, by rw [hst]; simp [h1, h0, h4], by simp [hw]⟩
      · have e : areVers xs = false := by unfold areVers; rw [risesV_no hjn (by rw [hst]; simp [h1, h0, h4])]; rfl
        have h4' : xs[j] ≤ xs[j - 1] := by omega
        simp -implicitDefEqProofs [h1, h2, h2', hw2, h3, hjn, h4', e]
  · obtain rfl : j = xs.length := by omega
    have e : areVers xs = decide (0 < xs.length) := by unfold areVers; rw [hr]; rfl
    by_cases h5 : 0 < xs.length
    · have h5' : (0 : Int) < xs.length := by omega
      simp -implicitDefEqProofs [e, h5, h5']
    · have h5' : ¬ (0 : Int) < xs.length := by omega
      simp -implicitDefEqProofs [e, h5, h5']

theorem filt_step {p : Int → Bool} {xs : List Int} {j : Nat} (h : j < xs.length) : (xs.take (j + 1)).filter p = (xs.take j).filter p ++ (if p xs[j] then [xs[j]] else []) := by
  have e : xs.take (j + 1) = xs.take j ++ [xs[j]] := by simp
  rw [e, List.filter_append]
  by_cases hp : p xs[j] = true <;> simp [hp]
theorem filt_all {p : Int → Bool} {xs : List Int} {j : Nat} (h : xs.length ≤ j) : (xs.take j).filter p = xs.filter p := by rw [List.take_of_length_le h]
theorem filt_len {p : Int → Bool} {xs : List Int} {j : Nat} : ((xs.take j).filter p).length ≤ j := by
  have := List.length_filter_le p (xs.take j)
  have h2 : (xs.take j).length ≤ j := by simp; omega
  omega
def common (a b : List Int) : List Int := a.filter fun v => decide (v ∈ b)
def withoutV (a : List Int) (v : Int) : List Int := a.filter fun x => !decide (x = v)
abbrev CommonOfS (R : Rel) : Prop := ∀ a b : List Int, a.length ≤ 4194304 → b.length ≤ maxLen → R [.sl 1 1 a.length (ints a), .sl 1 1 b.length (ints b)] [] (.sl 0 1 (common a b).length (ints (common a b))) []
abbrev l12WithoutS (R : Rel) : Prop := ∀ (a : List Int) (v : Int), a.length ≤ 4194304 → R [.sl 1 1 a.length (ints a), I v] [] (.sl 0 1 (withoutV a v).length (ints (withoutV a v))) []
abbrev withoutS (R : Rel) : Prop := ∀ (a : List Int) (v : Int), a.length ≤ 4194304 → R [.sl 1 1 a.length (ints a), .sl 1 1 1 (ints [v])] [] (.sl 0 1 (withoutV a v).length (ints (withoutV a v))) []
theorem sCommonOf_b (D : Dn) (hH : HasS (D gspec_l9Has)) : CommonOfS (Body D sspec_CommonOf) := by
  intro a b ha hb'
  have hres : common a b = a.filter (fun v => decide (v ∈ b)) := rfl
  rw [hres]
  simp -implicitDefEqProofs
  refine swp_loop (fun k s => ∃ j o1 o2, j + k = a.length ∧ s = ⟨[.sl 1 1 a.length (ints a), .sl 1 1 b.length (ints b), .undef, .arr 3, .sc (.int .i64 j), .undef, .undef], [.free, o1, o2, .arr 1 0 ((a.take j).filter (fun v => decide (v ∈ b))).length (ints ((a.take j).filter (fun v => decide (v ∈ b))))]⟩) ?_ a.length _ ⟨0, by simp⟩
  intro k s ⟨j, o1, o2, hj, hs⟩
  subst hs
  by_cases hjn : j < a.length
  · have hw : IntKind.i64.wrap ((j : Int) + 1) = (j + 1 : Nat) := by rw [wrap_id (by omega) (by omega)]; simp
    have hst := filt_step (p := fun v => decide (v ∈ b)) hjn
    have hln := filt_len (p := fun v => decide (v ∈ b)) (xs := a) (j := j)
    have hb : (((a.take j).filter (fun v => decide (v ∈ b))).length + 1) * 8 ≤ 1099511627776 := by omega
    simp -implicitDefEqProofs [hjn]
    refine callQ_of (hH b _ hb') ?_
    by_cases h1 : a[j] ∈ b
    · rw [if_pos (by simp [h1])] at hst
      simp -implicitDefEqProofs [h1, hjn, hb]
      exact ⟨k - 1, by omega, j + 1, by omega, by simp [hw], by rw [hst]; simp, by rw [hst]⟩
    · rw [if_neg (by simp [h1]), List.append_nil] at hst
      simp -implicitDefEqProofs [h1, hjn, hb]
      exact ⟨k - 1, by omega, j + 1, by omega, by simp [hw], by rw [hst], by rw [hst]⟩
  · have hx := filt_all (p := fun v => decide (v ∈ b)) (xs := a) (j := j) (by omega)
    simp -implicitDefEqProofs [hjn, hx]
theorem iCommonOf_b (D : Dn) (hH : HasS (D gslices_Contains___int_int_)) : CommonOfS (Body D simpl_CommonOf) := by
  intro a b ha hb'
  have hres : common a b = a.filter (fun v => decide (v ∈ b)) := rfl
  rw [hres]
  simp -implicitDefEqProofs
  refine swp_loop (fun k s => ∃ j v4 o1 o2, j + k = a.length ∧ s = ⟨[.undef, .sl 1 1 b.length (ints b), .undef, .arr 3, v4, .sl 1 1 a.length (ints a), .sc (.int .i64 a.length), .sc (.int .i64 j), .undef, .undef], [.free, o1, o2, .arr 1 0 ((a.take j).filter (fun v => decide (v ∈ b))).length (ints ((a.take j).filter (fun v => decide (v ∈ b))))]⟩) ?_ a.length _ ⟨0, by simp⟩
  intro k s ⟨j, v4, o1, o2, hj, hs⟩
  subst hs
  by_cases hjn : j < a.length
  · have hw : IntKind.i64.wrap ((j : Int) + 1) = (j + 1 : Nat) := by rw [wrap_id (by omega) (by omega)]; simp
    have hst := filt_step (p := fun v => decide (v ∈ b)) hjn
    have hln := filt_len (p := fun v => decide (v ∈ b)) (xs := a) (j := j)
    have hb : (((a.take j).filter (fun v => decide (v ∈ b))).length + 1) * 8 ≤ 1099511627776 := by omega
    simp -implicitDefEqProofs [hjn]
    refine callQ_of (hH b _ hb') ?_
    by_cases h1 : a[j] ∈ b
    · rw [if_pos (by simp [h1])] at hst
      simp -implicitDefEqProofs [h1, hjn, hb]
      exact ⟨k - 1, by omega, j + 1, by omega, by simp [hw], by rw [hst]; simp, by rw [hst]⟩
    · rw [if_neg (by simp [h1]), List.append_nil] at hst
      simp -implicitDefEqProofs [h1, hjn, hb]
      exact ⟨k - 1, by omega, j + 1, by omega, by simp [hw], by rw [hst], by rw [hst]⟩
  · have hx := filt_all (p := fun v => decide (v ∈ b)) (xs := a) (j := j) (by omega)
    simp -implicitDefEqProofs [hjn, hx]
end Go.Eng.T

namespace Go.Eng.T
set_option maxRecDepth 20000
set_option maxHeartbeats 1000000

def maxF (l : List Int) : Int := l.foldl (fun a v => if v > a then v else a) 0
theorem maxF_lt {x : Int} : ∀ (l : List Int) (a : Int), (∀ y, y ∈ l → y < x) → a < x → l.foldl (fun a v => if v > a then v else a) a < x
  | [], a, _, h => h
  | y :: l, a, hl, h => by
    simp only [List.foldl_cons]
    refine maxF_lt l _ (fun z hz => hl z (by simp [hz])) ?_
    split
    · exact hl y (by simp)
    · exact h
theorem rises_lt {xs : List Int} : ∀ (n : Nat), risesV xs n = true → ∀ i j, i < j → j < n → xs.getD i 0 < xs.getD j 0
  | 0, _, i, j, _, h => by omega
  | n + 1, hr, i, j, hij, hj => by
    rw [risesV_step] at hr
    simp only [Bool.and_eq_true, Bool.or_eq_true, decide_eq_true_eq] at hr
    obtain ⟨h1, _, h3⟩ := hr
    by_cases hjn : j < n
    · exact rises_lt n h1 i j hij hjn
    · obtain rfl : j = n := by omega
      have h4 : xs.getD (j - 1) 0 < xs.getD j 0 := by
        rcases h3 with h3 | h3
        · omega
        · exact h3
      by_cases he : i = j - 1
      · rw [he]; exact h4
      · have := rises_lt j h1 i (j - 1) (by omega) (by omega)
        omega
theorem rises_in {xs : List Int} {n i : Nat} (h : risesV xs n = true) (hi : i < n) : InV (xs.getD i 0) 1 9 := by
  unfold risesV at h
  have := List.all_eq_true.1 h i (List.mem_range.2 hi)
  simp at this
  exact ⟨this.1.1, this.1.2⟩
theorem vers_pair {xs : List Int} (h : areVers xs = true) : xs.Pairwise (· < ·) := by
  unfold areVers at h
  simp only [Bool.and_eq_true, decide_eq_true_eq] at h
  rw [List.pairwise_iff_getElem]
  intro i j hi hj hij
  have := rises_lt _ h.1 i j hij hj
  rwa [getDV hi, getDV hj] at this
theorem vers_in {xs : List Int} (h : areVers xs = true) : ∀ x, x ∈ xs → InV x 1 9 := by
  unfold areVers at h
  simp only [Bool.and_eq_true, decide_eq_true_eq] at h
  intro x hx
  obtain ⟨i, hi, rfl⟩ := List.getElem_of_mem hx
  have := rises_in h.1 hi
  rwa [getDV hi] at this
theorem maxF_last {l : List Int} (hp : l.Pairwise (· < ·)) (h0 : ∀ x, x ∈ l → 0 < x) (hn : 0 < l.length) : maxF l = l[l.length - 1] := by
  obtain ⟨l', x, rfl⟩ : ∃ l' x, l = l' ++ [x] := by
    rcases List.eq_nil_or_concat l with h | ⟨l', x, h⟩
    · rw [h] at hn; simp at hn
    · exact ⟨l', x, by simpa using h⟩
  rw [List.pairwise_append] at hp
  have h1 : maxF l' < x := maxF_lt l' 0 (fun y hy => hp.2.2 y hy x (by simp)) (h0 x (by simp))
  have h2 : maxF (l' ++ [x]) = if x > maxF l' then x else maxF l' := by unfold maxF; rw [List.foldl_append]; rfl
  rw [h2, if_pos h1]
  simp
def bestCommon (a b : List Int) : Int := if areVers a = true ∧ areVers b = true then maxF (common a b) else 0
abbrev BestCommonS (R : Rel) : Prop := ∀ a b : List Int, a.length ≤ 4194304 → b.length ≤ 4194304 → R [.sl 1 1 a.length (ints a), .sl 1 1 b.length (ints b)] [] (I (bestCommon a b)) []
theorem ml {n : Nat} (h : n ≤ 4194304) : n ≤ maxLen := by unfold maxLen; omega
theorem sBestCommon_b (D : Dn) (hC : CommonOfS (D gspec_CommonOf)) (hA : AreVersionsS (D gspec_AreVersions)) : BestCommonS (Body D sspec_BestCommon) := by
  intro a b ha hb
  have hcl : (common a b).length ≤ 4194304 := Nat.le_trans (List.length_filter_le _ _) ha
  simp -implicitDefEqProofs
  refine callQ_of (hC a b ha (ml hb)) ?_
  simp -implicitDefEqProofs
  refine callQ_of (hA a (ml ha)) ?_
  by_cases h1 : areVers a = true
  rotate_left
  · simp -implicitDefEqProofs [h1, bestCommon]
  simp -implicitDefEqProofs [h1]
  refine callQ_of (hA b (ml hb)) ?_
  by_cases h2 : areVers b = true
  rotate_left
  · simp -implicitDefEqProofs [h2, bestCommon]
  have e : bestCommon a b = maxF (common a b) := by unfold bestCommon; rw [if_pos ⟨h1, h2⟩]
  rw [e]
  by_cases h3 : common a b = []
  · simp -implicitDefEqProofs [h2, h3, maxF]
  have h4 : 0 < (common a b).length := List.length_pos_iff.2 h3
  have h5 := maxF_last (l := common a b) ((vers_pair h1).filter _) (fun x hx => by have := vers_in h1 x (List.mem_filter.1 hx).1; omega) h4
  rw [h5]
  generalize common a b = l at h3 h4 hcl
  have hw : IntKind.i64.wrap ((l.length : Int) - 1) = ((l.length - 1 : Nat) : Int) := by rw [wrap_id (by omega) (by omega)]; omega
  have h6 : l.length - 1 < l.length := by omega
  simp -implicitDefEqProofs [h2, h3, hw, h6, h4]
theorem iBestCommon_b (D : Dn) (hC : CommonOfS (D gimpl_CommonOf)) (hA : AreVersionsS (D gimpl_AreVersions)) : BestCommonS (Body D simpl_BestCommon) := by
  intro a b ha hb
  have hcl : (common a b).length ≤ 4194304 := Nat.le_trans (List.length_filter_le _ _) ha
  simp -implicitDefEqProofs
  refine callQ_of (hA a (ml ha)) ?_
  by_cases h1 : areVers a = true
  rotate_left
  · simp -implicitDefEqProofs [h1, bestCommon]
  simp -implicitDefEqProofs [h1]
  refine callQ_of (hA b (ml hb)) ?_
  by_cases h2 : areVers b = true
  rotate_left
  · simp -implicitDefEqProofs [h2, bestCommon]
  have e : bestCommon a b = maxF (common a b) := by unfold bestCommon; rw [if_pos ⟨h1, h2⟩]
  rw [e]
  simp -implicitDefEqProofs [h2]
  refine callQ_of (hC a b ha (ml hb)) ?_
  generalize common a b = l at hcl
  simp -implicitDefEqProofs
  refine swp_loop (fun k s => ∃ j, j + k = l.length ∧ s = ⟨[.undef, .undef, .undef, .sc (.int .i64 (maxF (l.take j))), .undef, .undef, .arr 0, .sc (.int .i64 l.length), .sc (.int .i64 j), .undef], [.arr 1 0 l.length (ints l)]⟩) ?_ l.length _ ⟨0, by simp, by simp [maxF]⟩
  intro k s ⟨j, hj, hs⟩
  subst hs
  by_cases hjn : j < l.length
  · have hw : IntKind.i64.wrap ((j : Int) + 1) = (j + 1 : Nat) := by rw [wrap_id (by omega) (by omega)]; simp
    have hst : maxF (l.take (j + 1)) = if l[j] > maxF (l.take j) then l[j] else maxF (l.take j) := by
      have e : l.take (j + 1) = l.take j ++ [l[j]] := by simp
      unfold maxF
      rw [e, List.foldl_append]; rfl
    simp -implicitDefEqProofs [hjn]
    exact ⟨k - 1, by omega, j + 1, by omega, by rw [hst], by simp [hw]⟩
  · have hx : l.take j = l := List.take_of_length_le (by omega)
    simp -implicitDefEqProofs [hjn, hx]
end Go.Eng.T

namespace Go.Eng.T
set_option maxRecDepth 20000

/-- the places, from i on, at which p holds -/
def idxL {α : Type} (p : α → Bool) : List α → Nat → List Int
  | [], _ => []
  | x :: r, i => if p x then (i : Int) :: idxL p r (i + 1) else idxL p r (i + 1)
theorem idxL_append {α : Type} {p : α → Bool} (b : List α) : ∀ (a : List α) (i : Nat), idxL p (a ++ b) i = idxL p a i ++ idxL p b (i + a.length)
  | [], i => by simp [idxL]
  | x :: r, i => by
    have := idxL_append (p := p) b r (i + 1)
    simp only [List.cons_append, idxL, this, List.length_cons]
    rw [show i + 1 + r.length = i + (r.length + 1) by omega]
    by_cases h : p x = true <;> simp [h]
theorem idxL_step {α : Type} {p : α → Bool} {xs : List α} {j : Nat} (h : j < xs.length) : idxL p (xs.take (j + 1)) 0 = idxL p (xs.take j) 0 ++ (if p xs[j] then [(j : Int)] else []) := by
  have e : xs.take (j + 1) = xs.take j ++ [xs[j]] := by simp
  rw [e, idxL_append]
  have hl : (xs.take j).length = j := by simp; omega
  by_cases hp : p xs[j] = true <;> simp [idxL, hp, hl]
theorem idxL_all {α : Type} {p : α → Bool} {xs : List α} {j : Nat} (h : xs.length ≤ j) : idxL p (xs.take j) 0 = idxL p xs 0 := by rw [List.take_of_length_le h]
theorem idxL_len {α : Type} {p : α → Bool} : ∀ (xs : List α) (i : Nat), (idxL p xs i).length ≤ xs.length
  | [], _ => by simp [idxL]
  | x :: r, i => by
    have := idxL_len (p := p) r (i + 1)
    by_cases h : p x = true
    · simp [idxL, h]; omega
    · simp [idxL, h]; omega

def hasE (v : Int) (e : Endpoint) : Bool := decide (v ∈ e.versions)
theorem world_vers {w : World} (h : szWorld w ≤ 4194304) {j : Nat} (hj : j < w.ends.length) : w.ends[j].versions.length ≤ maxLen := by
  have := size_at (f := szEndpoint) hj
  have e : szEndpoint w.ends[j] = w.ends[j].versions.length + w.ends[j].tags.length + sumF szBox w.ends[j].path := rfl
  unfold szWorld at h
  unfold maxLen; omega
abbrev HasVersionS (R : Rel) : Prop := ∀ (w : World) (v : Int), szWorld w ≤ 4194304 → R [arg (eWorld w), I v] [] (.sl 0 1 (idxL (hasE v) w.ends 0).length (ints (idxL (hasE v) w.ends 0))) []
end Go.Eng.T

namespace Go.Eng.T
set_option maxRecDepth 20000
set_option maxHeartbeats 1000000

def rowsV (xs : List (List Int)) : List V := xs.map fun l => .sl 0 1 l.length (ints l)
@[simp high] theorem rowsV_len (xs : List (List Int)) : (rowsV xs).length = xs.length := by simp [rowsV]
@[simp] theorem rowsV_nil : rowsV [] = [] := rfl
@[simp] theorem rowsV_ro (xs : List (List Int)) : (rowsV xs).map (roCell 0) = rowsV xs := by simp [rowsV, Function.comp_def, roCell]
@[simp high] theorem rowsV_at {xs : List (List Int)} {j : Nat} (h : j < xs.length) : (rowsV xs)[j]? = some (V.sl 0 1 xs[j].length (ints xs[j])) := by simp [rowsV, h]
theorem rowsV_push (xs : List (List Int)) (l : List Int) {n : Nat} (h : n = l.length) : rowsV xs ++ [.sl 0 1 n (ints l)] = rowsV (xs ++ [l]) := by subst h; simp [rowsV]
def szRows (xs : List (List Int)) : Nat := sumF List.length xs
theorem rows_at {xs : List (List Int)} {j : Nat} (h : j < xs.length) : xs[j].length ≤ szRows xs := size_at (f := List.length) h
theorem rows_len {xs : List (List Int)} : xs.length ≤ szRows xs := size_len

def listsOf (w : World) : List (List Int) := w.ends.map (·.versions)
abbrev ListsOfS (R : Rel) : Prop := ∀ w : World, szWorld w ≤ 4194304 → R [arg (eWorld w)] [] (.sl 0 1 (listsOf w).length (rowsV (listsOf w))) []
theorem lists_step {xs : List Endpoint} {j : Nat} (h : j < xs.length) : rowsV ((xs.map (·.versions)).take j) ++ [.sl 0 1 xs[j].versions.length (ints xs[j].versions)] = rowsV ((xs.map (·.versions)).take (j + 1)) := by
  have h' : j < (xs.map (·.versions)).length := by simpa using h
  have e : (xs.map (·.versions)).take (j + 1) = (xs.map (·.versions)).take j ++ [xs[j].versions] := by
    have := List.take_append_getElem h'
    rw [← this]; simp
  rw [e, rowsV_push _ _ rfl]
theorem sListsOf_b (D : Dn) : ListsOfS (Body D sspec_ListsOf) := by
  intro w h
  have hl := world_ends h
  have hres : listsOf w = w.ends.map (·.versions) := rfl
  rw [hres]
  simp -implicitDefEqProofs
  refine swp_loop (fun k s => ∃ j o2 o3 o4 o5, j + k = w.ends.length ∧ s = ⟨[.undef, .ptr 0 0, .undef, .arr 6, .sc (.int .i64 j), .undef], [.var ((eWorld w).map (roCell 1)), .free, o2, o3, o4, o5, .arr 1 0 j (rowsV ((w.ends.take j).map (·.versions)))]⟩) ?_ w.ends.length _ ⟨0, .free, .free, .free, .free, by simp, by simp⟩
  intro k s ⟨j, o2, o3, o4, o5, hj, hs⟩
  subst hs
  by_cases hjn : j < w.ends.length
  · have hw : IntKind.i64.wrap ((j : Int) + 1) = (j + 1 : Nat) := by rw [wrap_id (by omega) (by omega)]; simp
    have hst := lists_step hjn
    have hvl := world_vers h hjn
    unfold maxLen at hvl
    have h2 : w.ends[j].versions.length ≤ 4194304 := by
      have := size_at (f := szEndpoint) hjn
      have e : szEndpoint w.ends[j] = w.ends[j].versions.length + w.ends[j].tags.length + sumF szBox w.ends[j].path := rfl
      unfold szWorld at h
      omega
    have hb : w.ends[j].versions.length * 8 ≤ 1099511627776 := by omega
    have hb2 : (j + 1) * 24 ≤ 1099511627776 := by omega
    have hjl : min j w.ends.length = j := by omega
    simp -implicitDefEqProofs [hjn, hb, hb2, hjl]
    exact ⟨k - 1, by omega, j + 1, by omega, by simp [hw], rfl, hst⟩
  · obtain rfl : j = w.ends.length := by omega
    simp -implicitDefEqProofs
theorem iListsOf_b (D : Dn) : ListsOfS (Body D simpl_ListsOf) := by
  intro w h
  have hl := world_ends h
  have hres : listsOf w = w.ends.map (·.versions) := rfl
  rw [hres]
  simp -implicitDefEqProofs
  refine swp_loop (fun k s => ∃ j o2 o3 o4 o5 o6, j + k = w.ends.length ∧ s = ⟨[.undef, .undef, .undef, .arr 7, .undef, .sl 1 4 w.ends.length (w.ends.flatMap eEndpoint), .sc (.int .i64 w.ends.length), .sc (.int .i64 j), .undef], [.var ((eWorld w).map (roCell 1)), .free, o2, o3, o4, o5, o6, .arr 1 0 j (rowsV ((w.ends.take j).map (·.versions)))]⟩) ?_ w.ends.length _ ⟨0, .free, .free, .free, .free, .free, by simp, by simp⟩
  intro k s ⟨j, o2, o3, o4, o5, o6, hj, hs⟩
  subst hs
  by_cases hjn : j < w.ends.length
  · have hw : IntKind.i64.wrap ((j : Int) + 1) = (j + 1 : Nat) := by rw [wrap_id (by omega) (by omega)]; simp
    have hst := lists_step hjn
    have h2 : w.ends[j].versions.length ≤ 4194304 := by
      have := size_at (f := szEndpoint) hjn
      have e : szEndpoint w.ends[j] = w.ends[j].versions.length + w.ends[j].tags.length + sumF szBox w.ends[j].path := rfl
      unfold szWorld at h
      omega
    have hb : w.ends[j].versions.length * 8 ≤ 1099511627776 := by omega
    have hb2 : (j + 1) * 24 ≤ 1099511627776 := by omega
    have hjl : min j w.ends.length = j := by omega
    simp -implicitDefEqProofs [hjn, hb, hb2, hjl]
    exact ⟨k - 1, by omega, j + 1, by omega, by simp [hw], rfl, hst⟩
  · obtain rfl : j = w.ends.length := by omega
    simp -implicitDefEqProofs

abbrev rowsA (ls : List (List Int)) : V := .sl 1 1 ls.length (rowsV ls)
def useB (s : List Int) (v : Int) (l : List Int) : Bool := decide (bestCommon s l = v)
def useOf (s : List Int) (ls : List (List Int)) (v : Int) : Nat := if 1 ≤ v then cntF (useB s v) ls else 0
abbrev UseOfS (R : Rel) : Prop := ∀ (s : List Int) (ls : List (List Int)) (v : Int), s.length ≤ 4194304 → szRows ls ≤ 4194304 → R [.sl 1 1 s.length (ints s), rowsA ls, I v] [] (I (useOf s ls v)) []
def strB (s : List Int) (v : Int) (l : List Int) : Bool := decide (0 < bestCommon s l) && decide (bestCommon (withoutV s v) l = 0)
def stranded (s : List Int) (ls : List (List Int)) (v : Int) : List Int := idxL (strB s v) ls 0
abbrev StrandedS (R : Rel) : Prop := ∀ (s : List Int) (ls : List (List Int)) (v : Int), s.length ≤ 4194304 → szRows ls ≤ 4194304 → R [.sl 1 1 s.length (ints s), rowsA ls, I v] [] (.sl 0 1 (stranded s ls v).length (ints (stranded s ls v))) []
theorem useOf_le (s : List Int) (ls : List (List Int)) (v : Int) : useOf s ls v ≤ ls.length := by
  unfold useOf
  split
  · have := cnt_le (f := useB s v) (xs := ls) (j := ls.length) (by omega)
    rwa [List.take_length] at this
  · omega
def mayRetire (s : List Int) (ls : List (List Int)) (v pm : Int) : Bool := areVers s && (decide (v ∈ s) && (!decide (s.length = 1) && (decide (InV pm 0 1000) && (decide (stranded s ls v = []) && decide (1000 * (useOf s ls v : Int) ≤ pm * (ls.length : Int))))))
abbrev MayRetireS (R : Rel) : Prop := ∀ (s : List Int) (ls : List (List Int)) (v pm : Int), s.length ≤ 4194304 → szRows ls ≤ 4194304 → R [.sl 1 1 s.length (ints s), rowsA ls, I v, I pm] [] (B (mayRetire s ls v pm)) []
def retire (s : List Int) (ls : List (List Int)) (v pm : Int) : List Int × Bool := if mayRetire s ls v pm = true then (withoutV s v, true) else (s, false)
abbrev RetireVersionS (R : Rel) : Prop := ∀ (s : List Int) (ls : List (List Int)) (v pm : Int), s.length ≤ 4194304 → szRows ls ≤ 4194304 → R [.sl 1 1 s.length (ints s), rowsA ls, I v, I pm] [] (.tup [.sl 0 1 (retire s ls v pm).1.length (ints (retire s ls v pm).1), B (retire s ls v pm).2]) []
theorem world_serv' {w : World} (h : szWorld w ≤ 4194304) : w.server.length ≤ 4194304 := by unfold szWorld at h; omega
theorem listsF (xs : List Endpoint) : szRows (xs.map (·.versions)) ≤ sumF szEndpoint xs := by
  induction xs with
  | nil => simp [szRows, sumF]
  | cons x r ih =>
    simp only [szRows, sumF, List.map_cons, List.sum_cons, List.length_cons, szEndpoint, List.length_map] at *
    omega
theorem lists_sz {w : World} (h : szWorld w ≤ 4194304) : szRows (listsOf w) ≤ 4194304 := by
  have := listsF w.ends
  unfold szWorld at h
  unfold listsOf
  omega
def stepRetire (w : World) (v pm : Int) : World × Bool := if (retire w.server (listsOf w) v pm).2 = true ∧ ¬ v = w.rollout.version then ({ w with server := (retire w.server (listsOf w) v pm).1 }, true) else (w, false)
abbrev StepRetireS (R : Rel) : Prop := ∀ (w : World) (v pm : Int), szWorld w ≤ 4194304 → R [arg (eWorld w), I v, I pm] [] (.tup [.agg (eWorld (stepRetire w v pm).1), B (stepRetire w v pm).2]) []
end Go.Eng.T

