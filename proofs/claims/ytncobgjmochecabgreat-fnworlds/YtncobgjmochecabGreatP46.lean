/- Own work: part 46 of the proof of FnWorlds. -/
import Derived.Test.YtncobgjmochecabGreatP45
import Derived.Lib.SlicesCompact
set_option linter.unusedSimpArgs false
set_option linter.unusedVariables false
namespace Go.Eng.T
def sspec_DrawNewWorld_r0 : Reg := { id := 0, ops := [{ op := .mv (.con (.nil 1)) },{ op := .mv (.con (.nil 1)) },{ op := .mv (.con (.nil 4)) },{ op := .alloc 0 [.sc (.int .i64 0), .nil 1, .sc (.int .i64 0), .sc (.bool false)] }], sets := [(4, 3)], clr := [1, 2, 3] }
def sspec_DrawNewWorld_r1 : Reg := { id := 1, ops := [{ op := .mv (.slot 0) },{ op := .call 473 [(false, .loc 0)] [1] },{ op := .mv (.loc 1) }], sets := [(5, 2)], clr := [0] }
def sspec_DrawNewWorld_r2 : Reg := { id := 2, ops := [{ op := .mv (.slot 5) },{ op := .call 490 [(true, .loc 0)] [2] },{ op := .mv (.loc 1) }], sets := [(6, 2)] }
def sspec_DrawNewWorld_r3 : Reg := { id := 3, ops := [{ op := .buildSlice 3 4 0 [] },{ op := .mv (.loc 0) }], sets := [(7, 1)], ghosts := [.ren 3 21] }
def sspec_DrawNewWorld_r4 : Reg := { id := 4, ops := [{ op := .mv (.slot 5) },{ op := .call 478 [(true, .loc 0), (false, .con (.sc (.int .i64 4)))] [] },{ op := .mv (.loc 1) }], sets := [(8, 2)] }
def sspec_DrawNewWorld_r5 : Reg := { id := 5, ops := [{ op := .mv (.slot 8) },{ op := .bin .gtr (.loc 0) (.con (.sc (.int .i64 0))) }], sets := [(11, 1)] }
def sspec_DrawNewWorld_r6 : Reg := { id := 7, fresh := [4, 5, 6, 7], ops := [{ op := .mv (.slot 5) },{ op := .call 488 [(true, .loc 0)] [4, 5, 6] },{ op := .alloc 7 [.nil 1, .nil 1, .nil 4, .sc (.int .i64 0)] },{ op := .store 4 (.loc 2) (.loc 1) }], sets := [(9, 2)], ghosts := [.ren 4 18, .ren 5 19, .ren 6 20] }
def sspec_DrawNewWorld_r7 : Reg := { id := 8, draw := true, fresh := [8], ops := [{ op := .fieldAddr (.slot 9) 0, tau := some [], om := [] },{ op := .load none (.loc 0), tau := some [7], om := [] },{ op := .mv (.slot 6), tau := some [], om := [] },{ op := .indexAddr 1 (.loc 2) (.con (.sc (.int .i64 0))), tau := some [2], om := [] },{ op := .load none (.loc 3), tau := some [2], om := [] },{ op := .call 159 [(false, .loc 1), (false, .loc 4)] [8], tau := some [8, 18], om := [8] },{ op := .fieldAddr (.slot 9) 0, tau := some [], om := [] },{ op := .store 1 (.loc 6) (.loc 5), tau := some [7], om := [7] }], ghosts := [.ren 8 18] }
def sspec_DrawNewWorld_r8 : Reg := { id := 9, ops := [{ op := .mv (.slot 5) },{ op := .call 474 [(true, .loc 0), (false, .con (.sc (.int .i64 12)))] [] }], sets := [(12, 1)] }
def sspec_DrawNewWorld_r9 : Reg := { id := 10, fresh := [9, 10, 11], ops := [{ op := .mv (.slot 5) },{ op := .call 482 [(true, .loc 0)] [9, 10, 11] },{ op := .store 4 (.slot 9) (.loc 1) }], ghosts := [.ren 9 18, .ren 10 19, .ren 11 20] }
def sspec_DrawNewWorld_r10 : Reg := { id := 11, fresh := [12, 13], ops := [{ op := .mv (.slot 7) },{ op := .load (some 4) (.slot 9) },{ op := .buildSlice 12 4 1 [.loc 1] },{ op := .append 13 4 80 true (.loc 0) (.loc 2) },{ op := .mv (.loc 3) }], sets := [(7, 4)], ghosts := [.ren 13 21], clr := [9] }
def sspec_DrawNewWorld_r11 : Reg := { id := 6, ops := [{ op := .mv (.slot 8) },{ op := .bin .sub (.loc 0) (.con (.sc (.int .i64 1))) },{ op := .mv (.loc 1) }], sets := [(8, 2)] }
def sspec_DrawNewWorld_r12 : Reg := { id := 12, ops := [{ op := .mv (.slot 5) },{ op := .call 487 [(true, .loc 0)] [14] },{ op := .alloc 15 [.sc (.int .i64 0), .nil 1, .sc (.int .i64 0), .sc (.bool false)] },{ op := .store 4 (.loc 2) (.loc 1) }], sets := [(10, 2)], ghosts := [.ren 14 22], clr := [8] }
def sspec_DrawNewWorld_r13 : Reg := { id := 13, ops := [{ op := .mv (.slot 6) },{ op := .mv (.slot 6) },{ op := .len false (.loc 1) },{ op := .bin .sub (.loc 2) (.con (.sc (.int .i64 1))) },{ op := .indexAddr 1 (.loc 0) (.loc 3) },{ op := .load none (.loc 4) },{ op := .fieldAddr (.slot 10) 0 },{ op := .store 1 (.loc 6) (.loc 5) }] }
def sspec_DrawNewWorld_r14 : Reg := { id := 14, ops := [{ op := .mv (.slot 5) },{ op := .call 474 [(true, .loc 0), (false, .con (.sc (.int .i64 9)))] [] }], sets := [(13, 1)] }
def sspec_DrawNewWorld_r15 : Reg := { id := 15, ops := [{ op := .mv (.slot 5) },{ op := .call 483 [(true, .loc 0)] [16] },{ op := .store 4 (.slot 10) (.loc 1) }], ghosts := [.ren 16 22] }
def sspec_DrawNewWorld_r16 : Reg := { id := 16, draw := true, ops := [{ op := .mv (.slot 6), tau := some [], om := [] },{ op := .mv (.slot 5), tau := some [], om := [] },{ op := .call 489 [(true, .loc 1)] [17], tau := some [1, 17], om := [1, 17] },{ op := .mv (.slot 7), tau := some [], om := [] },{ op := .load (some 4) (.slot 10), tau := some [15], om := [] },{ op := .mv (.loc 0), tau := some [], om := [] },{ op := .mv (.loc 2), tau := some [], om := [] },{ op := .mv (.loc 3), tau := some [], om := [] },{ op := .store 4 (.slot 4) (.loc 4), tau := some [0], om := [0] }], sets := [(1, 5), (2, 6), (3, 7)], clr := [5, 6, 7, 10] }
def sspec_DrawNewWorld_b : SC := .seq (.reg sspec_DrawNewWorld_r0) (.seq (.reg sspec_DrawNewWorld_r1) (.seq (.reg sspec_DrawNewWorld_r2) (.seq (.reg sspec_DrawNewWorld_r3) (.seq (.seq (.reg sspec_DrawNewWorld_r4) (.block 0 (.loop (.seq (.seq (.reg sspec_DrawNewWorld_r5) (.cond 11 (.skip) (.exit 0))) (.seq (.block 1 (.seq (.reg sspec_DrawNewWorld_r6) (.seq (.reg sspec_DrawNewWorld_r7) (.seq (.seq (.reg sspec_DrawNewWorld_r8) (.cond 12 (.reg sspec_DrawNewWorld_r9) (.skip))) (.reg sspec_DrawNewWorld_r10))))) (.reg sspec_DrawNewWorld_r11)))))) (.seq (.reg sspec_DrawNewWorld_r12) (.seq (.reg sspec_DrawNewWorld_r13) (.seq (.seq (.reg sspec_DrawNewWorld_r14) (.cond 13 (.reg sspec_DrawNewWorld_r15) (.skip))) (.seq (.reg sspec_DrawNewWorld_r16) (.ret)))))))))
def sspec_DrawNewWorld : SFn := { nslots := 14, nobjs := 23, params := [0], ngiven := 0, bor := false, takes := [], body := sspec_DrawNewWorld_b, results := [.slot 1, .slot 2, .slot 3, .cell 4 (some 4)] }
def sspec_DrawNewWorld_t : List Tmp := [0, 2, 3, 4, 5, 6, 7, 8, 9, 10, 11, 20, 33, 50]
attribute [simp] sspec_DrawNewWorld_r0 sspec_DrawNewWorld_r1 sspec_DrawNewWorld_r2 sspec_DrawNewWorld_r3 sspec_DrawNewWorld_r4 sspec_DrawNewWorld_r5 sspec_DrawNewWorld_r6 sspec_DrawNewWorld_r7 sspec_DrawNewWorld_r8 sspec_DrawNewWorld_r9 sspec_DrawNewWorld_r10 sspec_DrawNewWorld_r11 sspec_DrawNewWorld_r12 sspec_DrawNewWorld_r13 sspec_DrawNewWorld_r14 sspec_DrawNewWorld_r15 sspec_DrawNewWorld_r16 sspec_DrawNewWorld_b sspec_DrawNewWorld
def sspec_DrawEndVersions_r0 : Reg := { id := 0, ops := [{ op := .alloc 0 [.nil 1, .nil 1, .sc (.int .i64 0), .nil 4, .sc (.int .i64 0), .nil 1, .sc (.int .i64 0), .sc (.bool false), .sc (.int .i64 0), .sc (.int .i64 0), .nil 5, .nil 8, .sc (.int .i64 0), .sc (.int .i64 0), .sc (.int .i64 0)] },{ op := .mv (.con (.sc (.int .i64 0))) }], sets := [(1, 0)], clr := [2] }
def sspec_DrawEndVersions_r1 : Reg := { id := 1, ops := [{ op := .mv (.slot 0) },{ op := .call 473 [(false, .loc 0)] [1] },{ op := .mv (.loc 1) }], sets := [(3, 2)], clr := [0] }
def sspec_DrawEndVersions_r2 : Reg := { id := 2, ops := [{ op := .mv (.slot 3) },{ op := .call 475 [(true, .loc 0)] [2, 3, 4, 5, 6, 7] },{ op := .alloc 8 [.nil 1, .nil 1, .sc (.int .i64 0), .nil 4, .sc (.int .i64 0), .nil 1, .sc (.int .i64 0), .sc (.bool false), .sc (.int .i64 0), .sc (.int .i64 0), .nil 5, .nil 8, .sc (.int .i64 0), .sc (.int .i64 0), .sc (.int .i64 0)] },{ op := .store 15 (.loc 2) (.loc 1) }], sets := [(4, 2)] }
def sspec_DrawEndVersions_r3 : Reg := { id := 3, draw := true, ops := [{ op := .load (some 15) (.slot 4), tau := some [8], om := [] },{ op := .mv (.slot 3), tau := some [], om := [] },{ op := .call 478 [(true, .loc 1), (false, .con (.sc (.int .i64 8)))] [], tau := some [1], om := [1] },{ op := .bin .sub (.loc 2) (.con (.sc (.int .i64 1))), tau := some [], om := [] },{ op := .store 15 (.slot 1) (.loc 0), tau := some [0], om := [0] },{ op := .mv (.loc 3), tau := some [], om := [] }], sets := [(2, 5)], clr := [3, 4] }
def sspec_DrawEndVersions_b : SC := .seq (.reg sspec_DrawEndVersions_r0) (.seq (.reg sspec_DrawEndVersions_r1) (.seq (.reg sspec_DrawEndVersions_r2) (.seq (.reg sspec_DrawEndVersions_r3) (.ret))))
def sspec_DrawEndVersions : SFn := { nslots := 5, nobjs := 9, params := [0], ngiven := 0, bor := false, takes := [], body := sspec_DrawEndVersions_b, results := [.cell 1 (some 15), .slot 2] }
def sspec_DrawEndVersions_t : List Tmp := [0, 2, 3, 4, 5]
attribute [simp] sspec_DrawEndVersions_r0 sspec_DrawEndVersions_r1 sspec_DrawEndVersions_r2 sspec_DrawEndVersions_r3 sspec_DrawEndVersions_b sspec_DrawEndVersions
def sspec_DrawEqualWorlds_r0 : Reg := { id := 0, ops := [{ op := .alloc 0 [.nil 1, .nil 1, .sc (.int .i64 0), .nil 4, .sc (.int .i64 0), .nil 1, .sc (.int .i64 0), .sc (.bool false), .sc (.int .i64 0), .sc (.int .i64 0), .nil 5, .nil 8, .sc (.int .i64 0), .sc (.int .i64 0), .sc (.int .i64 0)] },{ op := .alloc 1 [.nil 1, .nil 1, .sc (.int .i64 0), .nil 4, .sc (.int .i64 0), .nil 1, .sc (.int .i64 0), .sc (.bool false), .sc (.int .i64 0), .sc (.int .i64 0), .nil 5, .nil 8, .sc (.int .i64 0), .sc (.int .i64 0), .sc (.int .i64 0)] }], sets := [(1, 0), (2, 1)] }
def sspec_DrawEqualWorlds_r1 : Reg := { id := 1, ops := [{ op := .mv (.slot 0) },{ op := .call 473 [(false, .loc 0)] [2] },{ op := .mv (.loc 1) }], sets := [(3, 2)], clr := [0] }
def sspec_DrawEqualWorlds_r2 : Reg := { id := 2, ops := [{ op := .mv (.slot 3) },{ op := .call 475 [(true, .loc 0)] [3, 4, 5, 6, 7, 8] },{ op := .alloc 9 [.nil 1, .nil 1, .sc (.int .i64 0), .nil 4, .sc (.int .i64 0), .nil 1, .sc (.int .i64 0), .sc (.bool false), .sc (.int .i64 0), .sc (.int .i64 0), .nil 5, .nil 8, .sc (.int .i64 0), .sc (.int .i64 0), .sc (.int .i64 0)] },{ op := .store 15 (.loc 2) (.loc 1) }], sets := [(4, 2)] }
def sspec_DrawEqualWorlds_r3 : Reg := { id := 3, ops := [{ op := .load (some 15) (.slot 4) },{ op := .call 22 [(false, .loc 0)] [10, 11, 12, 13, 14, 15] },{ op := .alloc 16 [.nil 1, .nil 1, .sc (.int .i64 0), .nil 4, .sc (.int .i64 0), .nil 1, .sc (.int .i64 0), .sc (.bool false), .sc (.int .i64 0), .sc (.int .i64 0), .nil 5, .nil 8, .sc (.int .i64 0), .sc (.int .i64 0), .sc (.int .i64 0)] },{ op := .store 15 (.loc 2) (.loc 1) }], sets := [(5, 2)], ghosts := [.ren 10 26, .ren 11 27, .ren 14 25, .ren 15 30, .ren 12 28, .ren 13 29] }
def sspec_DrawEqualWorlds_r4 : Reg := { id := 4, ops := [{ op := .mv (.slot 3) },{ op := .call 478 [(true, .loc 0), (false, .con (.sc (.int .i64 6)))] [] }], sets := [(6, 1)] }
def sspec_DrawEqualWorlds_r5 : Reg := { id := 5, ops := [{ op := .bin .eql (.slot 6) (.con (.sc (.int .i64 0))) },{ op := .mv (.loc 0) }], sets := [(7, 1)] }
def sspec_DrawEqualWorlds_r6 : Reg := { id := 6, ops := [{ op := .mv (.slot 3) },{ op := .call 475 [(true, .loc 0)] [17, 18, 19, 20, 21, 22] },{ op := .store 15 (.slot 5) (.loc 1) }], ghosts := [.ren 17 26, .ren 18 27, .ren 21 25, .ren 22 30, .ren 19 28, .ren 20 29], clr := [3, 6] }
def sspec_DrawEqualWorlds_r7 : Reg := { id := 7, ops := [{ op := .bin .eql (.slot 6) (.con (.sc (.int .i64 1))) },{ op := .mv (.loc 0) }], sets := [(8, 1)], clr := [3] }
def sspec_DrawEqualWorlds_r8 : Reg := { id := 8, ops := [{ op := .fieldAddr (.slot 5) 12 },{ op := .load none (.loc 0) },{ op := .bin .add (.loc 1) (.con (.sc (.int .i64 1))) },{ op := .fieldAddr (.slot 5) 12 },{ op := .store 1 (.loc 3) (.loc 2) }], clr := [6] }
def sspec_DrawEqualWorlds_r9 : Reg := { id := 9, ops := [{ op := .bin .eql (.slot 6) (.con (.sc (.int .i64 2))) },{ op := .mv (.loc 0) }], sets := [(9, 1)] }
def sspec_DrawEqualWorlds_r10 : Reg := { id := 10, ops := [{ op := .fieldAddr (.slot 5) 4 },{ op := .fieldAddr (.loc 0) 3 },{ op := .load none (.loc 1) },{ op := .un .not (.loc 2) },{ op := .fieldAddr (.slot 5) 4 },{ op := .fieldAddr (.loc 4) 3 },{ op := .store 1 (.loc 5) (.loc 3) }], clr := [6] }
def sspec_DrawEqualWorlds_r11 : Reg := { id := 11, ops := [{ op := .bin .eql (.slot 6) (.con (.sc (.int .i64 3))) },{ op := .mv (.loc 0) }], sets := [(10, 1)], clr := [6] }
def sspec_DrawEqualWorlds_r12 : Reg := { id := 12, ops := [{ op := .fieldAddr (.slot 5) 10 },{ op := .load none (.loc 0) },{ op := .build [.sc (.bool false), .sc (.int .i64 0), .nil 1, .sc (.int .i64 0), .nil 1] [(3, 1, .con (.sc (.int .i64 1)))] },{ op := .buildSlice 23 5 1 [.loc 2] },{ op := .append 24 5 72 true (.loc 1) (.loc 3) },{ op := .fieldAddr (.slot 5) 10 },{ op := .store 1 (.loc 5) (.loc 4) }], ghosts := [.ren 24 25] }
def sspec_DrawEqualWorlds_r13 : Reg := { id := 13, draw := true, ops := [{ op := .load (some 15) (.slot 4), tau := some [9], om := [] },{ op := .load (some 15) (.slot 5), tau := some [16], om := [] },{ op := .store 15 (.slot 1) (.loc 0), tau := some [0], om := [0] },{ op := .store 15 (.slot 2) (.loc 1), tau := some [1], om := [1] }], clr := [4, 5] }
def sspec_DrawEqualWorlds_b : SC := .seq (.reg sspec_DrawEqualWorlds_r0) (.seq (.reg sspec_DrawEqualWorlds_r1) (.seq (.reg sspec_DrawEqualWorlds_r2) (.seq (.reg sspec_DrawEqualWorlds_r3) (.seq (.seq (.reg sspec_DrawEqualWorlds_r4) (.block 0 (.seq (.reg sspec_DrawEqualWorlds_r5) (.cond 7 (.reg sspec_DrawEqualWorlds_r6) (.seq (.reg sspec_DrawEqualWorlds_r7) (.cond 8 (.reg sspec_DrawEqualWorlds_r8) (.seq (.reg sspec_DrawEqualWorlds_r9) (.cond 9 (.reg sspec_DrawEqualWorlds_r10) (.seq (.reg sspec_DrawEqualWorlds_r11) (.cond 10 (.reg sspec_DrawEqualWorlds_r12) (.skip))))))))))) (.seq (.reg sspec_DrawEqualWorlds_r13) (.ret))))))
def sspec_DrawEqualWorlds : SFn := { nslots := 11, nobjs := 31, params := [0], ngiven := 0, bor := false, takes := [], body := sspec_DrawEqualWorlds_b, results := [.cell 1 (some 15), .cell 2 (some 15)] }
def sspec_DrawEqualWorlds_t : List Tmp := [0, 2, 3, 4, 5, 6, 14, 15, 19, 25, 33]
attribute [simp] sspec_DrawEqualWorlds_r0 sspec_DrawEqualWorlds_r1 sspec_DrawEqualWorlds_r2 sspec_DrawEqualWorlds_r3 sspec_DrawEqualWorlds_r4 sspec_DrawEqualWorlds_r5 sspec_DrawEqualWorlds_r6 sspec_DrawEqualWorlds_r7 sspec_DrawEqualWorlds_r8 sspec_DrawEqualWorlds_r9 sspec_DrawEqualWorlds_r10 sspec_DrawEqualWorlds_r11 sspec_DrawEqualWorlds_r12 sspec_DrawEqualWorlds_r13 sspec_DrawEqualWorlds_b sspec_DrawEqualWorlds
def sspec_l1New_r0 : Reg := { id := 0, ops := [{ op := .mv (.con .undef) }], clr := [1] }
def sspec_l1New_r1 : Reg := { id := 1, ops := [{ op := .mv (.slot 0) },{ op := .len false (.loc 0) },{ op := .bin .add (.con (.sc (.int .i64 193017))) (.loc 1) },{ op := .mv (.loc 2) }], sets := [(2, 3)] }
def sspec_l1New_r2 : Reg := { id := 2, ops := [{ op := .mv (.con (.sc (.int .i64 0))) }], sets := [(3, 0)] }
def sspec_l1New_r3 : Reg := { id := 3, ops := [{ op := .mv (.slot 3) },{ op := .mv (.slot 0) },{ op := .len false (.loc 1) },{ op := .bin .lss (.loc 0) (.loc 2) },{ op := .mv (.loc 3) },{ op := .mv (.slot 3), guard := some (4, true) },{ op := .bin .lss (.loc 5) (.con (.sc (.int .i64 4000))), guard := some (4, true) },{ op := .pick (.loc 4) (.loc 6) (.con (.sc (.bool false))) }], sets := [(4, 7)] }
def sspec_l1New_r4 : Reg := { id := 5, ops := [{ op := .mv (.slot 2) },{ op := .bin .mul (.loc 0) (.con (.sc (.int .i64 137))) },{ op := .mv (.slot 0) },{ op := .mv (.slot 3) },{ op := .indexAddr 1 (.loc 2) (.loc 3) },{ op := .load none (.loc 4) },{ op := .conv .i64 (.loc 5) },{ op := .bin .add (.loc 1) (.loc 6) },{ op := .bin .add (.loc 7) (.con (.sc (.int .i64 11))) },{ op := .bin .and (.loc 8) (.con (.sc (.int .i64 1073741823))) },{ op := .mv (.loc 9) }], sets := [(2, 10)] }
def sspec_l1New_r5 : Reg := { id := 4, ops := [{ op := .mv (.slot 3) },{ op := .bin .add (.loc 0) (.con (.sc (.int .i64 1))) },{ op := .mv (.loc 1) }], sets := [(3, 2)] }
def sspec_l1New_r6 : Reg := { id := 6, ops := [{ op := .mv (.slot 0) },{ op := .mv (.slot 2) },{ op := .build [.nil 1, .sc (.int .i64 0), .sc (.int .i64 0)] [(0, 1, .loc 0), (2, 1, .loc 1)] },{ op := .box 0 (.loc 2) },{ op := .mv (.loc 3) }], sets := [(1, 4)], clr := [0, 2, 3] }
def sspec_l1New_b : SC := .seq (.reg sspec_l1New_r0) (.seq (.reg sspec_l1New_r1) (.seq (.seq (.reg sspec_l1New_r2) (.block 0 (.loop (.seq (.seq (.reg sspec_l1New_r3) (.cond 4 (.skip) (.exit 0))) (.seq (.block 1 (.reg sspec_l1New_r4)) (.reg sspec_l1New_r5)))))) (.seq (.reg sspec_l1New_r6) (.ret))))
def sspec_l1New : SFn := { nslots := 5, nobjs := 1, params := [0], ngiven := 0, bor := false, takes := [], body := sspec_l1New_b, results := [.slot 1] }
def sspec_l1New_t : List Tmp := [0, 2, 3, 4, 15]
attribute [simp] sspec_l1New_r0 sspec_l1New_r1 sspec_l1New_r2 sspec_l1New_r3 sspec_l1New_r4 sspec_l1New_r5 sspec_l1New_r6 sspec_l1New_b sspec_l1New
def sspec_l12Draw_r0 : Reg := { id := 0, ops := [{ op := .mv (.con (.nil 1)) }], clr := [1] }
def sspec_l12Draw_r1 : Reg := { id := 1, ops := [{ op := .mv (.slot 0) },{ op := .call 478 [(true, .loc 0), (false, .con (.sc (.int .i64 4)))] [] },{ op := .bin .add (.con (.sc (.int .i64 1))) (.loc 1) },{ op := .buildSlice 1 1 1 [.loc 2] },{ op := .mv (.loc 3) }], sets := [(2, 4)], ghosts := [.ren 1 3] }
def sspec_l12Draw_r2 : Reg := { id := 2, ops := [{ op := .mv (.slot 0) },{ op := .call 478 [(true, .loc 0), (false, .con (.sc (.int .i64 4)))] [] },{ op := .mv (.loc 1) }], sets := [(3, 2)] }
def sspec_l12Draw_r3 : Reg := { id := 3, ops := [{ op := .mv (.slot 3) },{ op := .bin .gtr (.loc 0) (.con (.sc (.int .i64 0))) }], sets := [(4, 1)] }
def sspec_l12Draw_r4 : Reg := { id := 5, fresh := [2], ops := [{ op := .mv (.slot 2) },{ op := .mv (.slot 0) },{ op := .call 478 [(true, .loc 1), (false, .con (.sc (.int .i64 6)))] [] },{ op := .bin .add (.con (.sc (.int .i64 1))) (.loc 2) },{ op := .call 159 [(false, .loc 0), (false, .loc 3)] [2] },{ op := .mv (.loc 4) }], sets := [(2, 5)], ghosts := [.ren 2 3] }
def sspec_l12Draw_r5 : Reg := { id := 4, ops := [{ op := .mv (.slot 3) },{ op := .bin .sub (.loc 0) (.con (.sc (.int .i64 1))) },{ op := .mv (.loc 1) }], sets := [(3, 2)] }
def sspec_l12Draw_r6 : Reg := { id := 6, ops := [{ op := .mv (.slot 2) },{ op := .mv (.loc 0) }], sets := [(1, 1)], clr := [0, 2, 3] }
def sspec_l12Draw_b : SC := .seq (.reg sspec_l12Draw_r0) (.seq (.reg sspec_l12Draw_r1) (.seq (.seq (.reg sspec_l12Draw_r2) (.block 0 (.loop (.seq (.seq (.reg sspec_l12Draw_r3) (.cond 4 (.skip) (.exit 0))) (.seq (.block 1 (.reg sspec_l12Draw_r4)) (.reg sspec_l12Draw_r5)))))) (.seq (.reg sspec_l12Draw_r6) (.ret))))
def sspec_l12Draw : SFn := { nslots := 5, nobjs := 4, params := [0], ngiven := 1, bor := false, takes := [], body := sspec_l12Draw_b, results := [.slot 1] }
def sspec_l12Draw_t : List Tmp := [0, 2, 3, 4, 12]
attribute [simp] sspec_l12Draw_r0 sspec_l12Draw_r1 sspec_l12Draw_r2 sspec_l12Draw_r3 sspec_l12Draw_r4 sspec_l12Draw_r5 sspec_l12Draw_r6 sspec_l12Draw_b sspec_l12Draw
def sspec_l1Below_r0 : Reg := { id := 0, ops := [{ op := .mv (.con (.sc (.int .i64 0))) }], clr := [2] }
def sspec_l1Below_r1 : Reg := { id := 1, ops := [{ op := .mv (.slot 1) },{ op := .bin .leq (.loc 0) (.con (.sc (.int .i64 0))) }], sets := [(6, 1)] }
def sspec_l1Below_r2 : Reg := { id := 2, ops := [{ op := .mv (.con (.sc (.int .i64 0))) }], sets := [(2, 0)], clr := [0, 1] }
def sspec_l1Below_r3 : Reg := { id := 3, ops := [{ op := .mv (.slot 1) },{ op := .bin .leq (.loc 0) (.con (.sc (.int .i64 256))) }], sets := [(7, 1)] }
def sspec_l1Below_r4 : Reg := { id := 4, ops := [{ op := .mv (.slot 0) },{ op := .call 486 [(true, .loc 0)] [] },{ op := .mv (.slot 1) },{ op := .bin .rem (.loc 1) (.loc 2) },{ op := .mv (.loc 3) }], sets := [(2, 4)], clr := [0, 1] }
def sspec_l1Below_r5 : Reg := { id := 5, ops := [{ op := .mv (.slot 0) },{ op := .call 486 [(true, .loc 0)] [] },{ op := .mv (.loc 1) }], sets := [(3, 2)] }
def sspec_l1Below_r6 : Reg := { id := 6, ops := [{ op := .mv (.slot 0) },{ op := .call 486 [(true, .loc 0)] [] },{ op := .mv (.loc 1) }], sets := [(4, 2)] }
def sspec_l1Below_r7 : Reg := { id := 7, ops := [{ op := .mv (.slot 0) },{ op := .call 486 [(true, .loc 0)] [] },{ op := .mv (.loc 1) }], sets := [(5, 2)], clr := [0] }
def sspec_l1Below_r8 : Reg := { id := 8, ops := [{ op := .mv (.slot 3) },{ op := .bin .mul (.loc 0) (.con (.sc (.int .i64 65536))) },{ op := .mv (.slot 4) },{ op := .bin .mul (.loc 2) (.con (.sc (.int .i64 256))) },{ op := .bin .add (.loc 1) (.loc 3) },{ op := .mv (.slot 5) },{ op := .bin .add (.loc 4) (.loc 5) },{ op := .mv (.slot 1) },{ op := .bin .rem (.loc 6) (.loc 7) },{ op := .mv (.loc 8) }], sets := [(2, 9)], clr := [1, 3, 4, 5] }
def sspec_l1Below_b : SC := .seq (.reg sspec_l1Below_r0) (.seq (.seq (.reg sspec_l1Below_r1) (.cond 6 (.seq (.reg sspec_l1Below_r2) (.ret)) (.skip))) (.seq (.seq (.reg sspec_l1Below_r3) (.cond 7 (.seq (.reg sspec_l1Below_r4) (.ret)) (.skip))) (.seq (.reg sspec_l1Below_r5) (.seq (.reg sspec_l1Below_r6) (.seq (.reg sspec_l1Below_r7) (.seq (.reg sspec_l1Below_r8) (.ret)))))))
def sspec_l1Below : SFn := { nslots := 8, nobjs := 1, params := [0, 1], ngiven := 1, bor := false, takes := [], body := sspec_l1Below_b, results := [.slot 2] }
def sspec_l1Below_t : List Tmp := [0, 1, 4, 5, 6, 7, 9, 11]
attribute [simp] sspec_l1Below_r0 sspec_l1Below_r1 sspec_l1Below_r2 sspec_l1Below_r3 sspec_l1Below_r4 sspec_l1Below_r5 sspec_l1Below_r6 sspec_l1Below_r7 sspec_l1Below_r8 sspec_l1Below_b sspec_l1Below
def sspec_l31Draw_r0 : Reg := { id := 0, ops := [{ op := .alloc 1 [.nil 1, .nil 1, .nil 4, .sc (.int .i64 0)] }], sets := [(1, 0)] }
def sspec_l31Draw_r1 : Reg := { id := 1, ops := [{ op := .mv (.slot 0) },{ op := .call 490 [(true, .loc 0)] [2] },{ op := .mv (.slot 0) },{ op := .call 493 [(true, .loc 2)] [3] },{ op := .mv (.slot 0) },{ op := .call 478 [(true, .loc 4), (false, .con (.sc (.int .i64 6)))] [] },{ op := .build [.nil 1, .nil 1, .nil 4, .sc (.int .i64 0)] [(0, 1, .loc 1), (2, 1, .loc 3), (3, 1, .loc 5)] },{ op := .alloc 4 [.nil 1, .nil 1, .nil 4, .sc (.int .i64 0)] },{ op := .store 4 (.loc 7) (.loc 6) }], sets := [(2, 7)], ghosts := [.ownc 4 1 7] }
def sspec_l31Draw_r2 : Reg := { id := 2, ops := [{ op := .mv (.slot 0) },{ op := .call 478 [(true, .loc 0), (false, .con (.sc (.int .i64 4)))] [] },{ op := .mv (.loc 1) }], sets := [(3, 2)] }
def sspec_l31Draw_r3 : Reg := { id := 3, ops := [{ op := .mv (.slot 3) },{ op := .bin .gtr (.loc 0) (.con (.sc (.int .i64 0))) }], sets := [(4, 1)] }
def sspec_l31Draw_r4 : Reg := { id := 5, draw := true, fresh := [5, 6], ops := [{ op := .fieldAddr (.slot 2) 1, tau := some [], om := [] },{ op := .load none (.loc 0), tau := some [4], om := [] },{ op := .mv (.slot 0), tau := some [], om := [] },{ op := .buildSlice 5 1 5 [.con (.sc (.int .i64 1)), .con (.sc (.int .i64 2)), .con (.sc (.int .i64 3)), .con (.sc (.int .i64 40)), .con (.sc (.int .i64 200))], tau := some [5], om := [5] },{ op := .call 481 [(true, .loc 2), (false, .loc 3)] [], tau := some [0, 5], om := [0] },{ op := .call 159 [(false, .loc 1), (false, .loc 4)] [6], tau := some [6, 7], om := [6] },{ op := .fieldAddr (.slot 2) 1, tau := some [], om := [] },{ op := .store 1 (.loc 6) (.loc 5), tau := some [4], om := [4] }], ghosts := [.ren 6 7] }
def sspec_l31Draw_r5 : Reg := { id := 4, ops := [{ op := .mv (.slot 3) },{ op := .bin .sub (.loc 0) (.con (.sc (.int .i64 1))) },{ op := .mv (.loc 1) }], sets := [(3, 2)] }
def sspec_l31Draw_r6 : Reg := { id := 6, ops := [{ op := .load (some 4) (.slot 2) },{ op := .store 4 (.slot 1) (.loc 0) }], clr := [0, 2, 3] }
def sspec_l31Draw_b : SC := .seq (.reg sspec_l31Draw_r0) (.seq (.reg sspec_l31Draw_r1) (.seq (.seq (.reg sspec_l31Draw_r2) (.block 0 (.loop (.seq (.seq (.reg sspec_l31Draw_r3) (.cond 4 (.skip) (.exit 0))) (.seq (.block 1 (.reg sspec_l31Draw_r4)) (.reg sspec_l31Draw_r5)))))) (.seq (.reg sspec_l31Draw_r6) (.ret))))
def sspec_l31Draw : SFn := { nslots := 5, nobjs := 8, params := [0], ngiven := 1, bor := false, takes := [], body := sspec_l31Draw_b, results := [.cell 1 (some 4)] }
def sspec_l31Draw_t : List Tmp := [0, 2, 3, 4, 15]
attribute [simp] sspec_l31Draw_r0 sspec_l31Draw_r1 sspec_l31Draw_r2 sspec_l31Draw_r3 sspec_l31Draw_r4 sspec_l31Draw_r5 sspec_l31Draw_r6 sspec_l31Draw_b sspec_l31Draw
def sspec_l1Once_r0 : Reg := { id := 0, ops := [{ op := .mv (.con (.sc (.bool false))) }], clr := [2] }
def sspec_l1Once_r1 : Reg := { id := 1, ops := [{ op := .mv (.slot 0) },{ op := .mv (.slot 1) },{ op := .call 478 [(true, .loc 0), (false, .loc 1)] [] },{ op := .bin .eql (.loc 2) (.con (.sc (.int .i64 0))) },{ op := .mv (.loc 3) }], sets := [(2, 4)], clr := [0, 1] }
def sspec_l1Once_b : SC := .seq (.reg sspec_l1Once_r0) (.seq (.reg sspec_l1Once_r1) (.ret))
def sspec_l1Once : SFn := { nslots := 3, nobjs := 1, params := [0, 1], ngiven := 1, bor := false, takes := [], body := sspec_l1Once_b, results := [.slot 2] }
def sspec_l1Once_t : List Tmp := [0, 1, 4]
attribute [simp] sspec_l1Once_r0 sspec_l1Once_r1 sspec_l1Once_b sspec_l1Once
def sspec_l31Any_r0 : Reg := { id := 0, ops := [{ op := .alloc 1 [.nil 1, .nil 1, .nil 4, .sc (.int .i64 0)] }], sets := [(1, 0)] }
def sspec_l31Any_r1 : Reg := { id := 1, ops := [{ op := .mv (.slot 0) },{ op := .call 488 [(true, .loc 0)] [2, 3, 4] },{ op := .alloc 5 [.nil 1, .nil 1, .nil 4, .sc (.int .i64 0)] },{ op := .store 4 (.loc 2) (.loc 1) }], sets := [(2, 2)], ghosts := [.ren 2 17, .ren 3 16, .ren 4 15] }
def sspec_l31Any_r2 : Reg := { id := 2, ops := [{ op := .mv (.slot 0) },{ op := .call 478 [(true, .loc 0), (false, .con (.sc (.int .i64 10)))] [] }], sets := [(3, 1)] }
def sspec_l31Any_r3 : Reg := { id := 3, ops := [{ op := .bin .eql (.slot 3) (.con (.sc (.int .i64 0))) },{ op := .mv (.loc 0) }], sets := [(4, 1)] }
def sspec_l31Any_r4 : Reg := { id := 4, ops := [{ op := .mv (.slot 0) },{ op := .call 480 [(true, .loc 0)] [6] },{ op := .fieldAddr (.slot 2) 0 },{ op := .store 1 (.loc 2) (.loc 1) }], ghosts := [.ren 6 17], clr := [0, 3] }
def sspec_l31Any_r5 : Reg := { id := 5, ops := [{ op := .bin .eql (.slot 3) (.con (.sc (.int .i64 1))) },{ op := .mv (.loc 0) }], sets := [(5, 1)] }
def sspec_l31Any_r6 : Reg := { id := 6, ops := [{ op := .mv (.slot 0) },{ op := .buildSlice 7 1 4 [.con (.sc (.int .i64 (-1))), .con (.sc (.int .i64 10)), .con (.sc (.int .i64 255)), .con (.sc (.int .i64 256))] },{ op := .call 481 [(true, .loc 0), (false, .loc 1)] [] },{ op := .buildSlice 8 1 1 [.loc 2] },{ op := .fieldAddr (.slot 2) 1 },{ op := .store 1 (.loc 4) (.loc 3) }], ghosts := [.ren 8 16], clr := [0, 3] }
def sspec_l31Any_r7 : Reg := { id := 7, ops := [{ op := .bin .eql (.slot 3) (.con (.sc (.int .i64 2))) },{ op := .mv (.loc 0) }], sets := [(6, 1)] }
def sspec_l31Any_r8 : Reg := { id := 8, ops := [{ op := .buildSlice 9 1 6 [.con (.sc (.int .i64 1)), .con (.sc (.int .i64 2)), .con (.sc (.int .i64 3)), .con (.sc (.int .i64 4)), .con (.sc (.int .i64 5)), .con (.sc (.int .i64 6))] },{ op := .fieldAddr (.slot 2) 1 },{ op := .store 1 (.loc 1) (.loc 0) }], ghosts := [.ren 9 16], clr := [0, 3] }
def sspec_l31Any_r9 : Reg := { id := 9, ops := [{ op := .bin .eql (.slot 3) (.con (.sc (.int .i64 3))) },{ op := .mv (.loc 0) }], sets := [(7, 1)] }
def sspec_l31Any_r10 : Reg := { id := 10, ops := [{ op := .mv (.slot 0) },{ op := .buildSlice 10 1 3 [.con (.sc (.int .i64 (-1))), .con (.sc (.int .i64 5)), .con (.sc (.int .i64 6))] },{ op := .call 481 [(true, .loc 0), (false, .loc 1)] [] },{ op := .fieldAddr (.slot 2) 3 },{ op := .store 1 (.loc 3) (.loc 2) }], clr := [0, 3] }
def sspec_l31Any_r11 : Reg := { id := 11, ops := [{ op := .bin .eql (.slot 3) (.con (.sc (.int .i64 4))) },{ op := .mv (.loc 0) }], sets := [(8, 1)], clr := [3] }
def sspec_l31Any_r12 : Reg := { id := 12, draw := true, ops := [{ op := .fieldAddr (.slot 2) 2, tau := some [], om := [] },{ op := .load none (.loc 0), tau := some [5], om := [] },{ op := .mv (.slot 0), tau := some [], om := [] },{ op := .call 491 [(true, .loc 2)] [11, 12], tau := some [0, 11, 12], om := [0, 11, 12] },{ op := .build [.sc (.int .i64 0), .nil 1, .nil 1, .sc (.bool false)] [], tau := some [], om := [] },{ op := .buildSlice 13 4 2 [.loc 3, .loc 4], tau := some [11, 12, 13], om := [11, 12, 13] },{ op := .append 14 4 64 true (.loc 1) (.loc 5), tau := some [13, 14, 15], om := [13, 14, 15] },{ op := .fieldAddr (.slot 2) 2, tau := some [], om := [] },{ op := .store 1 (.loc 7) (.loc 6), tau := some [5], om := [5] }], ghosts := [.ren 14 15], clr := [0] }
def sspec_l31Any_r13 : Reg := { id := 13, ops := [{ op := .load (some 4) (.slot 2) },{ op := .store 4 (.slot 1) (.loc 0) }], clr := [2] }
def sspec_l31Any_b : SC := .seq (.reg sspec_l31Any_r0) (.seq (.reg sspec_l31Any_r1) (.seq (.seq (.reg sspec_l31Any_r2) (.block 0 (.seq (.reg sspec_l31Any_r3) (.cond 4 (.reg sspec_l31Any_r4) (.seq (.reg sspec_l31Any_r5) (.cond 5 (.reg sspec_l31Any_r6) (.seq (.reg sspec_l31Any_r7) (.cond 6 (.reg sspec_l31Any_r8) (.seq (.reg sspec_l31Any_r9) (.cond 7 (.reg sspec_l31Any_r10) (.seq (.reg sspec_l31Any_r11) (.cond 8 (.reg sspec_l31Any_r12) (.skip))))))))))))) (.seq (.reg sspec_l31Any_r13) (.ret))))
def sspec_l31Any : SFn := { nslots := 9, nobjs := 18, params := [0], ngiven := 1, bor := false, takes := [], body := sspec_l31Any_b, results := [.cell 1 (some 4)] }
def sspec_l31Any_t : List Tmp := [0, 2, 3, 7, 8, 13, 20, 24, 30]
attribute [simp] sspec_l31Any_r0 sspec_l31Any_r1 sspec_l31Any_r2 sspec_l31Any_r3 sspec_l31Any_r4 sspec_l31Any_r5 sspec_l31Any_r6 sspec_l31Any_r7 sspec_l31Any_r8 sspec_l31Any_r9 sspec_l31Any_r10 sspec_l31Any_r11 sspec_l31Any_r12 sspec_l31Any_r13 sspec_l31Any_b sspec_l31Any
def sspec_l26Draw_r0 : Reg := { id := 0, ops := [{ op := .alloc 1 [.sc (.int .i64 0), .nil 1, .sc (.int .i64 0), .sc (.bool false)] }], sets := [(1, 0)] }
def sspec_l26Draw_r1 : Reg := { id := 1, ops := [{ op := .mv (.slot 0) },{ op := .call 478 [(true, .loc 0), (false, .con (.sc (.int .i64 6)))] [] },{ op := .bin .add (.con (.sc (.int .i64 1))) (.loc 1) },{ op := .build [.sc (.int .i64 0), .nil 1, .sc (.int .i64 0), .sc (.bool false)] [(0, 1, .loc 2)] },{ op := .alloc 2 [.sc (.int .i64 0), .nil 1, .sc (.int .i64 0), .sc (.bool false)] },{ op := .store 4 (.loc 4) (.loc 3) }], sets := [(2, 4)], ghosts := [.ownc 2 1 6] }
def sspec_l26Draw_r2 : Reg := { id := 2, ops := [{ op := .mv (.slot 0) },{ op := .call 478 [(true, .loc 0), (false, .con (.sc (.int .i64 3)))] [] },{ op := .mv (.loc 1) }], sets := [(3, 2)] }
def sspec_l26Draw_r3 : Reg := { id := 3, ops := [{ op := .mv (.slot 3) },{ op := .bin .gtr (.loc 0) (.con (.sc (.int .i64 0))) }], sets := [(4, 1)] }
def sspec_l26Draw_r4 : Reg := { id := 5, draw := true, fresh := [3], ops := [{ op := .fieldAddr (.slot 2) 1, tau := some [], om := [] },{ op := .load none (.loc 0), tau := some [2], om := [] },{ op := .mv (.slot 0), tau := some [], om := [] },{ op := .call 478 [(true, .loc 2), (false, .con (.sc (.int .i64 90)))] [], tau := some [0], om := [0] },{ op := .bin .add (.con (.sc (.int .i64 1))) (.loc 3), tau := some [], om := [] },{ op := .call 159 [(false, .loc 1), (false, .loc 4)] [3], tau := some [3, 6], om := [3] },{ op := .fieldAddr (.slot 2) 1, tau := some [], om := [] },{ op := .store 1 (.loc 6) (.loc 5), tau := some [2], om := [2] }], ghosts := [.ren 3 6] }
def sspec_l26Draw_r5 : Reg := { id := 4, ops := [{ op := .mv (.slot 3) },{ op := .bin .sub (.loc 0) (.con (.sc (.int .i64 1))) },{ op := .mv (.loc 1) }], sets := [(3, 2)] }
def sspec_l26Draw_r6 : Reg := { id := 6, ops := [{ op := .fieldAddr (.slot 2) 1 },{ op := .load none (.loc 0) },{ op := .buildSlice 4 1 1 [.con (.sc (.int .i64 100))] },{ op := .append 5 1 8 false (.loc 1) (.loc 2) },{ op := .fieldAddr (.slot 2) 1 },{ op := .store 1 (.loc 4) (.loc 3) }], ghosts := [.ren 5 6], clr := [3] }
def sspec_l26Draw_r7 : Reg := { id := 7, ops := [{ op := .mv (.slot 0) },{ op := .fieldAddr (.slot 2) 1 },{ op := .load none (.loc 1) },{ op := .len false (.loc 2) },{ op := .call 478 [(true, .loc 0), (false, .loc 3)] [] },{ op := .fieldAddr (.slot 2) 2 },{ op := .store 1 (.loc 5) (.loc 4) }], clr := [0] }
def sspec_l26Draw_r8 : Reg := { id := 8, ops := [{ op := .load (some 4) (.slot 2) },{ op := .store 4 (.slot 1) (.loc 0) }], clr := [2] }
def sspec_l26Draw_b : SC := .seq (.reg sspec_l26Draw_r0) (.seq (.reg sspec_l26Draw_r1) (.seq (.seq (.reg sspec_l26Draw_r2) (.block 0 (.loop (.seq (.seq (.reg sspec_l26Draw_r3) (.cond 4 (.skip) (.exit 0))) (.seq (.block 1 (.reg sspec_l26Draw_r4)) (.reg sspec_l26Draw_r5)))))) (.seq (.reg sspec_l26Draw_r6) (.seq (.reg sspec_l26Draw_r7) (.seq (.reg sspec_l26Draw_r8) (.ret))))))
def sspec_l26Draw : SFn := { nslots := 5, nobjs := 7, params := [0], ngiven := 1, bor := false, takes := [], body := sspec_l26Draw_b, results := [.cell 1 (some 4)] }
def sspec_l26Draw_t : List Tmp := [0, 2, 3, 4, 12]
attribute [simp] sspec_l26Draw_r0 sspec_l26Draw_r1 sspec_l26Draw_r2 sspec_l26Draw_r3 sspec_l26Draw_r4 sspec_l26Draw_r5 sspec_l26Draw_r6 sspec_l26Draw_r7 sspec_l26Draw_r8 sspec_l26Draw_b sspec_l26Draw
def sspec_l26Any_r0 : Reg := { id := 0, ops := [{ op := .alloc 1 [.sc (.int .i64 0), .nil 1, .sc (.int .i64 0), .sc (.bool false)] }], sets := [(1, 0)] }
def sspec_l26Any_r1 : Reg := { id := 1, ops := [{ op := .mv (.slot 0) },{ op := .call 487 [(true, .loc 0)] [2] },{ op := .alloc 3 [.sc (.int .i64 0), .nil 1, .sc (.int .i64 0), .sc (.bool false)] },{ op := .store 4 (.loc 2) (.loc 1) }], sets := [(2, 2)], ghosts := [.ren 2 7] }
def sspec_l26Any_r2 : Reg := { id := 2, ops := [{ op := .mv (.slot 0) },{ op := .call 478 [(true, .loc 0), (false, .con (.sc (.int .i64 10)))] [] }], sets := [(3, 1)] }
def sspec_l26Any_r3 : Reg := { id := 3, ops := [{ op := .bin .eql (.slot 3) (.con (.sc (.int .i64 0))) },{ op := .mv (.loc 0) }], sets := [(4, 1)] }
def sspec_l26Any_r4 : Reg := { id := 4, ops := [{ op := .mv (.slot 0) },{ op := .buildSlice 4 1 3 [.con (.sc (.int .i64 0)), .con (.sc (.int .i64 9)), .con (.sc (.int .i64 10))] },{ op := .call 481 [(true, .loc 0), (false, .loc 1)] [] },{ op := .fieldAddr (.slot 2) 0 },{ op := .store 1 (.loc 3) (.loc 2) }], clr := [0, 3] }
def sspec_l26Any_r5 : Reg := { id := 5, ops := [{ op := .bin .eql (.slot 3) (.con (.sc (.int .i64 1))) },{ op := .mv (.loc 0) }], sets := [(5, 1)] }
def sspec_l26Any_r6 : Reg := { id := 6, draw := true, ops := [{ op := .fieldAddr (.slot 2) 1, tau := some [], om := [] },{ op := .load none (.loc 0), tau := some [3], om := [] },{ op := .mv (.slot 0), tau := some [], om := [] },{ op := .buildSlice 5 1 3 [.con (.sc (.int .i64 0)), .con (.sc (.int .i64 101)), .con (.sc (.int .i64 100))], tau := some [5], om := [5] },{ op := .call 481 [(true, .loc 2), (false, .loc 3)] [], tau := some [0, 5], om := [0] },{ op := .indexAddr 1 (.loc 1) (.con (.sc (.int .i64 0))), tau := some [7], om := [] },{ op := .store 1 (.loc 5) (.loc 4), tau := some [7], om := [7] }], clr := [0, 3] }
def sspec_l26Any_r7 : Reg := { id := 7, ops := [{ op := .bin .eql (.slot 3) (.con (.sc (.int .i64 2))) },{ op := .mv (.loc 0) }], sets := [(6, 1)] }
def sspec_l26Any_r8 : Reg := { id := 8, ops := [{ op := .mv (.slot 0) },{ op := .fieldAddr (.slot 2) 1 },{ op := .load none (.loc 1) },{ op := .len false (.loc 2) },{ op := .buildSlice 6 1 3 [.con (.sc (.int .i64 (-1))), .loc 3, .con (.sc (.int .i64 9223372036854775807))] },{ op := .call 481 [(true, .loc 0), (false, .loc 4)] [] },{ op := .fieldAddr (.slot 2) 2 },{ op := .store 1 (.loc 6) (.loc 5) }], clr := [0, 3] }
def sspec_l26Any_r9 : Reg := { id := 9, ops := [{ op := .bin .eql (.slot 3) (.con (.sc (.int .i64 3))) },{ op := .mv (.loc 0) }], sets := [(7, 1)], clr := [0] }
def sspec_l26Any_r10 : Reg := { id := 10, ops := [{ op := .fieldAddr (.slot 2) 3 },{ op := .store 1 (.loc 0) (.con (.sc (.bool true))) }], clr := [3] }
def sspec_l26Any_r11 : Reg := { id := 11, ops := [{ op := .bin .eql (.slot 3) (.con (.sc (.int .i64 4))) },{ op := .mv (.loc 0) }], sets := [(8, 1)], clr := [3] }
def sspec_l26Any_r12 : Reg := { id := 12, fresh := [7], ops := [{ op := .fieldAddr (.slot 2) 1 },{ op := .store 1 (.loc 0) (.con (.nil 1)) }], ghosts := [.ownc 3 1 7] }
def sspec_l26Any_r13 : Reg := { id := 13, ops := [{ op := .load (some 4) (.slot 2) },{ op := .store 4 (.slot 1) (.loc 0) }], clr := [2] }
def sspec_l26Any_b : SC := .seq (.reg sspec_l26Any_r0) (.seq (.reg sspec_l26Any_r1) (.seq (.seq (.reg sspec_l26Any_r2) (.block 0 (.seq (.reg sspec_l26Any_r3) (.cond 4 (.reg sspec_l26Any_r4) (.seq (.reg sspec_l26Any_r5) (.cond 5 (.reg sspec_l26Any_r6) (.seq (.reg sspec_l26Any_r7) (.cond 6 (.reg sspec_l26Any_r8) (.seq (.reg sspec_l26Any_r9) (.cond 7 (.reg sspec_l26Any_r10) (.seq (.reg sspec_l26Any_r11) (.cond 8 (.reg sspec_l26Any_r12) (.skip))))))))))))) (.seq (.reg sspec_l26Any_r13) (.ret))))
def sspec_l26Any : SFn := { nslots := 9, nobjs := 8, params := [0], ngiven := 1, bor := false, takes := [], body := sspec_l26Any_b, results := [.cell 1 (some 4)] }
def sspec_l26Any_t : List Tmp := [0, 2, 3, 7, 8, 14, 22, 31, 34]
attribute [simp] sspec_l26Any_r0 sspec_l26Any_r1 sspec_l26Any_r2 sspec_l26Any_r3 sspec_l26Any_r4 sspec_l26Any_r5 sspec_l26Any_r6 sspec_l26Any_r7 sspec_l26Any_r8 sspec_l26Any_r9 sspec_l26Any_r10 sspec_l26Any_r11 sspec_l26Any_r12 sspec_l26Any_r13 sspec_l26Any_b sspec_l26Any
def sspec_l17Tags_r0 : Reg := { id := 0, ops := [{ op := .mv (.con (.nil 1)) }], clr := [1] }
def sspec_l17Tags_r1 : Reg := { id := 1, ops := [{ op := .buildSlice 1 1 0 [] },{ op := .mv (.loc 0) }], sets := [(2, 1)], ghosts := [.ren 1 4] }
def sspec_l17Tags_r2 : Reg := { id := 2, ops := [{ op := .mv (.slot 0) },{ op := .call 478 [(true, .loc 0), (false, .con (.sc (.int .i64 5)))] [] },{ op := .mv (.loc 1) }], sets := [(3, 2)] }
def sspec_l17Tags_r3 : Reg := { id := 3, ops := [{ op := .mv (.slot 3) },{ op := .bin .gtr (.loc 0) (.con (.sc (.int .i64 0))) }], sets := [(4, 1)] }
def sspec_l17Tags_r4 : Reg := { id := 5, fresh := [2, 3], ops := [{ op := .mv (.slot 2) },{ op := .mv (.slot 0) },{ op := .buildSlice 2 1 6 [.con (.sc (.int .i64 1)), .con (.sc (.int .i64 2)), .con (.sc (.int .i64 3)), .con (.sc (.int .i64 10)), .con (.sc (.int .i64 40)), .con (.sc (.int .i64 200))] },{ op := .call 481 [(true, .loc 1), (false, .loc 2)] [] },{ op := .call 159 [(false, .loc 0), (false, .loc 3)] [3] },{ op := .mv (.loc 4) }], sets := [(2, 5)], ghosts := [.ren 3 4] }
def sspec_l17Tags_r5 : Reg := { id := 4, ops := [{ op := .mv (.slot 3) },{ op := .bin .sub (.loc 0) (.con (.sc (.int .i64 1))) },{ op := .mv (.loc 1) }], sets := [(3, 2)] }
def sspec_l17Tags_r6 : Reg := { id := 6, ops := [{ op := .mv (.slot 2) },{ op := .mv (.loc 0) }], sets := [(1, 1)], clr := [0, 2, 3] }
def sspec_l17Tags_b : SC := .seq (.reg sspec_l17Tags_r0) (.seq (.reg sspec_l17Tags_r1) (.seq (.seq (.reg sspec_l17Tags_r2) (.block 0 (.loop (.seq (.seq (.reg sspec_l17Tags_r3) (.cond 4 (.skip) (.exit 0))) (.seq (.block 1 (.reg sspec_l17Tags_r4)) (.reg sspec_l17Tags_r5)))))) (.seq (.reg sspec_l17Tags_r6) (.ret))))
def sspec_l17Tags : SFn := { nslots := 5, nobjs := 5, params := [0], ngiven := 1, bor := false, takes := [], body := sspec_l17Tags_b, results := [.slot 1] }
def sspec_l17Tags_t : List Tmp := [0, 2, 3, 4, 9]
attribute [simp] sspec_l17Tags_r0 sspec_l17Tags_r1 sspec_l17Tags_r2 sspec_l17Tags_r3 sspec_l17Tags_r4 sspec_l17Tags_r5 sspec_l17Tags_r6 sspec_l17Tags_b sspec_l17Tags
def sspec_l32Any_r0 : Reg := { id := 0, ops := [{ op := .alloc 1 [.nil 1, .nil 1, .sc (.int .i64 0), .nil 4, .sc (.int .i64 0), .nil 1, .sc (.int .i64 0), .sc (.bool false), .sc (.int .i64 0), .sc (.int .i64 0), .nil 5, .nil 8, .sc (.int .i64 0), .sc (.int .i64 0), .sc (.int .i64 0)] }], sets := [(1, 0)] }
def sspec_l32Any_r1 : Reg := { id := 1, ops := [{ op := .mv (.slot 0) },{ op := .call 479 [(true, .loc 0)] [2, 3, 4, 5, 6, 7] },{ op := .alloc 8 [.nil 1, .nil 1, .sc (.int .i64 0), .nil 4, .sc (.int .i64 0), .nil 1, .sc (.int .i64 0), .sc (.bool false), .sc (.int .i64 0), .sc (.int .i64 0), .nil 5, .nil 8, .sc (.int .i64 0), .sc (.int .i64 0), .sc (.int .i64 0)] },{ op := .store 15 (.loc 2) (.loc 1) }], sets := [(2, 2)], ghosts := [.ren 2 27, .ren 3 26, .ren 7 24, .ren 5 25] }
def sspec_l32Any_r2 : Reg := { id := 2, ops := [{ op := .mv (.slot 0) },{ op := .call 478 [(true, .loc 0), (false, .con (.sc (.int .i64 14)))] [] }], sets := [(3, 1)] }
def sspec_l32Any_r3 : Reg := { id := 3, ops := [{ op := .bin .eql (.slot 3) (.con (.sc (.int .i64 0))) },{ op := .mv (.loc 0) }], sets := [(4, 1)] }
def sspec_l32Any_r4 : Reg := { id := 4, ops := [{ op := .mv (.slot 0) },{ op := .call 480 [(true, .loc 0)] [9] },{ op := .fieldAddr (.slot 2) 0 },{ op := .store 1 (.loc 2) (.loc 1) }], ghosts := [.ren 9 27], clr := [0, 3] }
def sspec_l32Any_r5 : Reg := { id := 5, ops := [{ op := .bin .eql (.slot 3) (.con (.sc (.int .i64 1))) },{ op := .mv (.loc 0) }], sets := [(5, 1)] }
def sspec_l32Any_r6 : Reg := { id := 6, ops := [{ op := .mv (.slot 0) },{ op := .buildSlice 10 1 3 [.con (.sc (.int .i64 (-1))), .con (.sc (.int .i64 255)), .con (.sc (.int .i64 256))] },{ op := .call 481 [(true, .loc 0), (false, .loc 1)] [] },{ op := .buildSlice 11 1 1 [.loc 2] },{ op := .fieldAddr (.slot 2) 1 },{ op := .store 1 (.loc 4) (.loc 3) }], ghosts := [.ren 11 26], clr := [0, 3] }
def sspec_l32Any_r7 : Reg := { id := 7, ops := [{ op := .bin .eql (.slot 3) (.con (.sc (.int .i64 2))) },{ op := .mv (.loc 0) }], sets := [(6, 1)] }
def sspec_l32Any_r8 : Reg := { id := 8, ops := [{ op := .mv (.slot 0) },{ op := .buildSlice 12 1 2 [.con (.sc (.int .i64 0)), .con (.sc (.int .i64 5))] },{ op := .call 481 [(true, .loc 0), (false, .loc 1)] [] },{ op := .fieldAddr (.slot 2) 2 },{ op := .store 1 (.loc 3) (.loc 2) }], clr := [0, 3] }
def sspec_l32Any_r9 : Reg := { id := 9, ops := [{ op := .bin .eql (.slot 3) (.con (.sc (.int .i64 3))) },{ op := .mv (.loc 0) }], sets := [(7, 1)] }
def sspec_l32Any_r10 : Reg := { id := 10, draw := true, ops := [{ op := .fieldAddr (.slot 2) 3, tau := some [], om := [] },{ op := .load none (.loc 0), tau := some [8], om := [] },{ op := .mv (.slot 0), tau := some [], om := [] },{ op := .call 482 [(true, .loc 2)] [13, 14, 15], tau := some [0, 13, 14, 15], om := [0, 13, 14, 15] },{ op := .indexAddr 4 (.loc 1) (.con (.sc (.int .i64 0))), tau := some [4], om := [] },{ op := .store 4 (.loc 4) (.loc 3), tau := some [4, 13, 14, 15], om := [4, 13, 14, 15] }], clr := [0, 3] }
def sspec_l32Any_r11 : Reg := { id := 11, ops := [{ op := .bin .eql (.slot 3) (.con (.sc (.int .i64 4))) },{ op := .mv (.loc 0) }], sets := [(8, 1)] }
def sspec_l32Any_r12 : Reg := { id := 12, ops := [{ op := .mv (.slot 0) },{ op := .call 483 [(true, .loc 0)] [16] },{ op := .fieldAddr (.slot 2) 4 },{ op := .store 4 (.loc 2) (.loc 1) }], ghosts := [.ren 16 25], clr := [0, 3] }
def sspec_l32Any_r13 : Reg := { id := 13, ops := [{ op := .bin .eql (.slot 3) (.con (.sc (.int .i64 5))) },{ op := .mv (.loc 0) }], sets := [(9, 1)] }
def sspec_l32Any_r14 : Reg := { id := 14, ops := [{ op := .mv (.slot 0) },{ op := .buildSlice 17 1 3 [.con (.sc (.int .i64 0)), .con (.sc (.int .i64 100)), .con (.sc (.int .i64 101))] },{ op := .call 481 [(true, .loc 0), (false, .loc 1)] [] },{ op := .fieldAddr (.slot 2) 8 },{ op := .store 1 (.loc 3) (.loc 2) }], clr := [0, 3] }
def sspec_l32Any_r15 : Reg := { id := 15, ops := [{ op := .bin .eql (.slot 3) (.con (.sc (.int .i64 6))) },{ op := .mv (.loc 0) }], sets := [(10, 1)] }
def sspec_l32Any_r16 : Reg := { id := 16, ops := [{ op := .mv (.slot 0) },{ op := .buildSlice 18 1 3 [.con (.sc (.int .i64 (-1))), .con (.sc (.int .i64 100)), .con (.sc (.int .i64 101))] },{ op := .call 481 [(true, .loc 0), (false, .loc 1)] [] },{ op := .fieldAddr (.slot 2) 9 },{ op := .store 1 (.loc 3) (.loc 2) }], clr := [0, 3] }
def sspec_l32Any_r17 : Reg := { id := 17, ops := [{ op := .bin .eql (.slot 3) (.con (.sc (.int .i64 7))) },{ op := .mv (.loc 0) }], sets := [(11, 1)] }
def sspec_l32Any_r18 : Reg := { id := 18, ops := [{ op := .mv (.slot 0) },{ op := .buildSlice 19 1 3 [.con (.sc (.int .i64 (-1))), .con (.sc (.int .i64 10000)), .con (.sc (.int .i64 10001))] },{ op := .call 481 [(true, .loc 0), (false, .loc 1)] [] },{ op := .fieldAddr (.slot 2) 12 },{ op := .store 1 (.loc 3) (.loc 2) }], clr := [0, 3] }
def sspec_l32Any_r19 : Reg := { id := 19, ops := [{ op := .bin .eql (.slot 3) (.con (.sc (.int .i64 8))) },{ op := .mv (.loc 0) }], sets := [(12, 1)] }
def sspec_l32Any_r20 : Reg := { id := 20, ops := [{ op := .mv (.slot 0) },{ op := .buildSlice 20 1 3 [.con (.sc (.int .i64 (-1))), .con (.sc (.int .i64 0)), .con (.sc (.int .i64 1))] },{ op := .call 481 [(true, .loc 0), (false, .loc 1)] [] },{ op := .fieldAddr (.slot 2) 13 },{ op := .store 1 (.loc 3) (.loc 2) }], clr := [0, 3] }
def sspec_l32Any_r21 : Reg := { id := 21, ops := [{ op := .bin .eql (.slot 3) (.con (.sc (.int .i64 9))) },{ op := .mv (.loc 0) }], sets := [(13, 1)], clr := [0, 3] }
def sspec_l32Any_r22 : Reg := { id := 22, draw := true, ops := [{ op := .fieldAddr (.slot 2) 3, tau := some [], om := [] },{ op := .load none (.loc 0), tau := some [8], om := [] },{ op := .indexAddr 4 (.loc 1) (.con (.sc (.int .i64 0))), tau := some [4], om := [] },{ op := .load (some 4) (.loc 2), tau := some [4], om := [] },{ op := .fieldAddr (.slot 2) 0, tau := some [], om := [] },{ op := .load none (.loc 4), tau := some [8], om := [] },{ op := .fieldAddr (.slot 2) 1, tau := some [], om := [] },{ op := .load none (.loc 6), tau := some [8], om := [] },{ op := .call 213 [(false, .loc 3), (false, .loc 5), (false, .loc 7), (false, .con (.sc (.int .i64 77))), (false, .con (.sc (.int .i64 1)))] [21, 22], tau := some [21, 22, 26, 27], om := [21, 22] },{ op := .build [.sc (.int .i64 0), .sc (.int .i64 0), .sc (.bool false), .sc (.bool false), .sc (.int .i64 0), .nil 1, .sc (.int .i64 0), .nil 1] [(0, 1, .con (.sc (.int .i64 0))), (1, 1, .con (.sc (.int .i64 1))), (3, 5, .loc 8)], tau := some [], om := [] },{ op := .buildSlice 23 8 1 [.loc 9], tau := some [21, 22, 23], om := [21, 22, 23] },{ op := .fieldAddr (.slot 2) 11, tau := some [], om := [] },{ op := .store 1 (.loc 11) (.loc 10), tau := some [8], om := [8] }], ghosts := [.ren 23 24] }
def sspec_l32Any_r23 : Reg := { id := 23, ops := [{ op := .load (some 15) (.slot 2) },{ op := .store 15 (.slot 1) (.loc 0) }], clr := [2] }
def sspec_l32Any_b : SC := .seq (.reg sspec_l32Any_r0) (.seq (.reg sspec_l32Any_r1) (.seq (.seq (.reg sspec_l32Any_r2) (.block 0 (.seq (.reg sspec_l32Any_r3) (.cond 4 (.reg sspec_l32Any_r4) (.seq (.reg sspec_l32Any_r5) (.cond 5 (.reg sspec_l32Any_r6) (.seq (.reg sspec_l32Any_r7) (.cond 6 (.reg sspec_l32Any_r8) (.seq (.reg sspec_l32Any_r9) (.cond 7 (.reg sspec_l32Any_r10) (.seq (.reg sspec_l32Any_r11) (.cond 8 (.reg sspec_l32Any_r12) (.seq (.reg sspec_l32Any_r13) (.cond 9 (.reg sspec_l32Any_r14) (.seq (.reg sspec_l32Any_r15) (.cond 10 (.reg sspec_l32Any_r16) (.seq (.reg sspec_l32Any_r17) (.cond 11 (.reg sspec_l32Any_r18) (.seq (.reg sspec_l32Any_r19) (.cond 12 (.reg sspec_l32Any_r20) (.seq (.reg sspec_l32Any_r21) (.cond 13 (.reg sspec_l32Any_r22) (.skip))))))))))))))))))))))) (.seq (.reg sspec_l32Any_r23) (.ret))))
def sspec_l32Any : SFn := { nslots := 14, nobjs := 28, params := [0], ngiven := 1, bor := true, takes := [], body := sspec_l32Any_b, results := [.cell 1 (some 15)] }
def sspec_l32Any_t : List Tmp := [0, 2, 3, 7, 8, 13, 20, 26, 33, 38, 44, 50, 56, 62]
attribute [simp] sspec_l32Any_r0 sspec_l32Any_r1 sspec_l32Any_r2 sspec_l32Any_r3 sspec_l32Any_r4 sspec_l32Any_r5 sspec_l32Any_r6 sspec_l32Any_r7 sspec_l32Any_r8 sspec_l32Any_r9 sspec_l32Any_r10 sspec_l32Any_r11 sspec_l32Any_r12 sspec_l32Any_r13 sspec_l32Any_r14 sspec_l32Any_r15 sspec_l32Any_r16 sspec_l32Any_r17 sspec_l32Any_r18 sspec_l32Any_r19 sspec_l32Any_r20 sspec_l32Any_r21 sspec_l32Any_r22 sspec_l32Any_r23 sspec_l32Any_b sspec_l32Any
def sspec_l1Byte_r0 : Reg := { id := 0, ops := [{ op := .mv (.con (.sc (.int .i64 0))) }], clr := [1] }
def sspec_l1Byte_r1 : Reg := { id := 1, ops := [{ op := .mv (.slot 0) },{ op := .mv (.slot 0) },{ op := .fieldAddr (.loc 1) 0 },{ op := .fieldAddr (.loc 2) 2 },{ op := .load none (.loc 3) },{ op := .bin .mul (.loc 4) (.con (.sc (.int .i64 6364136223846793005))) },{ op := .bin .add (.loc 5) (.con (.sc (.int .i64 1442695040888963407))) },{ op := .fieldAddr (.loc 0) 0 },{ op := .fieldAddr (.loc 7) 2 },{ op := .store 1 (.loc 8) (.loc 6) }] }
def sspec_l1Byte_r2 : Reg := { id := 2, draw := true, ops := [{ op := .mv (.slot 0), tau := some [], om := [] },{ op := .fieldAddr (.loc 0) 0, tau := some [], om := [] },{ op := .fieldAddr (.loc 1) 2, tau := some [], om := [] },{ op := .load none (.loc 2), tau := some [0], om := [] },{ op := .bin .shr (.loc 3) (.con (.sc (.int .u64 33))), tau := some [], om := [] },{ op := .mv (.slot 0), tau := some [], om := [] },{ op := .fieldAddr (.loc 5) 0, tau := some [], om := [] },{ op := .fieldAddr (.loc 6) 2, tau := some [], om := [] },{ op := .load none (.loc 7), tau := some [0], om := [] },{ op := .bin .shr (.loc 8) (.con (.sc (.int .u64 47))), tau := some [], om := [] },{ op := .bin .xor (.loc 4) (.loc 9), tau := some [], om := [] },{ op := .bin .and (.loc 10) (.con (.sc (.int .i64 255))), tau := some [], om := [] },{ op := .mv (.loc 11), tau := some [], om := [] }], sets := [(2, 12)] }
def sspec_l1Byte_r3 : Reg := { id := 3, draw := true, ops := [{ op := .mv (.slot 0), tau := some [], om := [] },{ op := .fieldAddr (.loc 0) 0, tau := some [], om := [] },{ op := .fieldAddr (.loc 1) 1, tau := some [], om := [] },{ op := .load none (.loc 2), tau := some [0], om := [] },{ op := .mv (.slot 0), tau := some [], om := [] },{ op := .fieldAddr (.loc 4) 0, tau := some [], om := [] },{ op := .fieldAddr (.loc 5) 0, tau := some [], om := [] },{ op := .load none (.loc 6), tau := some [0], om := [] },{ op := .len false (.loc 7), tau := some [], om := [] },{ op := .bin .lss (.loc 3) (.loc 8), tau := some [], om := [] }], sets := [(3, 9)] }
def sspec_l1Byte_r4 : Reg := { id := 4, draw := true, ops := [{ op := .mv (.slot 2), tau := some [], om := [] },{ op := .mv (.slot 0), tau := some [], om := [] },{ op := .fieldAddr (.loc 1) 0, tau := some [], om := [] },{ op := .fieldAddr (.loc 2) 0, tau := some [], om := [] },{ op := .load none (.loc 3), tau := some [0], om := [] },{ op := .mv (.slot 0), tau := some [], om := [] },{ op := .fieldAddr (.loc 5) 0, tau := some [], om := [] },{ op := .fieldAddr (.loc 6) 1, tau := some [], om := [] },{ op := .load none (.loc 7), tau := some [0], om := [] },{ op := .indexAddr 1 (.loc 4) (.loc 8), tau := some [], om := [] },{ op := .load none (.loc 9), tau := some [], om := [] },{ op := .conv .i64 (.loc 10), tau := some [], om := [] },{ op := .bin .add (.loc 0) (.loc 11), tau := some [], om := [] },{ op := .bin .and (.loc 12) (.con (.sc (.int .i64 255))), tau := some [], om := [] },{ op := .mv (.loc 13), tau := some [], om := [] }], sets := [(2, 14)] }
def sspec_l1Byte_r5 : Reg := { id := 5, ops := [{ op := .mv (.slot 0) },{ op := .mv (.slot 0) },{ op := .fieldAddr (.loc 1) 0 },{ op := .fieldAddr (.loc 2) 1 },{ op := .load none (.loc 3) },{ op := .bin .add (.loc 4) (.con (.sc (.int .i64 1))) },{ op := .fieldAddr (.loc 0) 0 },{ op := .fieldAddr (.loc 6) 1 },{ op := .store 1 (.loc 7) (.loc 5) }], clr := [0] }
def sspec_l1Byte_r6 : Reg := { id := 6, ops := [{ op := .mv (.slot 2) },{ op := .mv (.loc 0) }], sets := [(1, 1)], clr := [2] }
def sspec_l1Byte_b : SC := .seq (.reg sspec_l1Byte_r0) (.seq (.reg sspec_l1Byte_r1) (.seq (.reg sspec_l1Byte_r2) (.seq (.seq (.reg sspec_l1Byte_r3) (.cond 3 (.seq (.reg sspec_l1Byte_r4) (.reg sspec_l1Byte_r5)) (.skip))) (.seq (.reg sspec_l1Byte_r6) (.ret)))))
def sspec_l1Byte : SFn := { nslots := 4, nobjs := 1, params := [0], ngiven := 1, bor := false, takes := [], body := sspec_l1Byte_b, results := [.slot 1] }
def sspec_l1Byte_t : List Tmp := [0, 2, 3, 34]
attribute [simp] sspec_l1Byte_r0 sspec_l1Byte_r1 sspec_l1Byte_r2 sspec_l1Byte_r3 sspec_l1Byte_r4 sspec_l1Byte_r5 sspec_l1Byte_r6 sspec_l1Byte_b sspec_l1Byte
def sspec_l19Path_r0 : Reg := { id := 0, ops := [{ op := .mv (.con (.nil 4)) }], clr := [1] }
def sspec_l19Path_r1 : Reg := { id := 1, ops := [{ op := .buildSlice 1 4 0 [] },{ op := .mv (.loc 0) }], sets := [(2, 1)], ghosts := [.ren 1 6] }
def sspec_l19Path_r2 : Reg := { id := 2, ops := [{ op := .mv (.slot 0) },{ op := .call 478 [(true, .loc 0), (false, .con (.sc (.int .i64 4)))] [] },{ op := .mv (.loc 1) }], sets := [(3, 2)] }
def sspec_l19Path_r3 : Reg := { id := 3, ops := [{ op := .mv (.slot 3) },{ op := .bin .gtr (.loc 0) (.con (.sc (.int .i64 0))) }], sets := [(4, 1)] }
def sspec_l19Path_r4 : Reg := { id := 5, fresh := [2, 3, 4, 5], ops := [{ op := .mv (.slot 2) },{ op := .mv (.slot 0) },{ op := .call 494 [(true, .loc 1)] [2, 3] },{ op := .buildSlice 4 4 1 [.loc 2] },{ op := .append 5 4 64 true (.loc 0) (.loc 3) },{ op := .mv (.loc 4) }], sets := [(2, 5)], ghosts := [.ren 5 6] }
def sspec_l19Path_r5 : Reg := { id := 4, ops := [{ op := .mv (.slot 3) },{ op := .bin .sub (.loc 0) (.con (.sc (.int .i64 1))) },{ op := .mv (.loc 1) }], sets := [(3, 2)] }
def sspec_l19Path_r6 : Reg := { id := 6, ops := [{ op := .mv (.slot 2) },{ op := .mv (.loc 0) }], sets := [(1, 1)], clr := [0, 2, 3] }
def sspec_l19Path_b : SC := .seq (.reg sspec_l19Path_r0) (.seq (.reg sspec_l19Path_r1) (.seq (.seq (.reg sspec_l19Path_r2) (.block 0 (.loop (.seq (.seq (.reg sspec_l19Path_r3) (.cond 4 (.skip) (.exit 0))) (.seq (.block 1 (.reg sspec_l19Path_r4)) (.reg sspec_l19Path_r5)))))) (.seq (.reg sspec_l19Path_r6) (.ret))))
def sspec_l19Path : SFn := { nslots := 5, nobjs := 7, params := [0], ngiven := 1, bor := false, takes := [], body := sspec_l19Path_b, results := [.slot 1] }
def sspec_l19Path_t : List Tmp := [0, 2, 3, 4, 9]
attribute [simp] sspec_l19Path_r0 sspec_l19Path_r1 sspec_l19Path_r2 sspec_l19Path_r3 sspec_l19Path_r4 sspec_l19Path_r5 sspec_l19Path_r6 sspec_l19Path_b sspec_l19Path
def sspec_l1Int_r0 : Reg := { id := 0, ops := [{ op := .mv (.con (.sc (.int .i64 0))) }], clr := [2] }
def sspec_l1Int_r1 : Reg := { id := 1, ops := [{ op := .mv (.slot 1) },{ op := .mv (.slot 0) },{ op := .mv (.slot 1) },{ op := .len false (.loc 2) },{ op := .call 478 [(true, .loc 1), (false, .loc 3)] [] },{ op := .indexAddr 1 (.loc 0) (.loc 4) },{ op := .load none (.loc 5) },{ op := .mv (.loc 6) }], sets := [(2, 7)], clr := [0, 1] }
def sspec_l1Int_b : SC := .seq (.reg sspec_l1Int_r0) (.seq (.reg sspec_l1Int_r1) (.ret))
def sspec_l1Int : SFn := { nslots := 3, nobjs := 1, params := [0, 1], ngiven := 1, bor := false, takes := [], body := sspec_l1Int_b, results := [.slot 2] }
def sspec_l1Int_t : List Tmp := [0, 1, 4]
attribute [simp] sspec_l1Int_r0 sspec_l1Int_r1 sspec_l1Int_b sspec_l1Int
def sspec_l12Any_r0 : Reg := { id := 0, ops := [{ op := .mv (.con (.nil 1)) }], clr := [1] }
def sspec_l12Any_r1 : Reg := { id := 1, ops := [{ op := .mv (.slot 0) },{ op := .call 490 [(true, .loc 0)] [1] },{ op := .mv (.loc 1) }], sets := [(2, 2)], ghosts := [.ren 1 6] }
def sspec_l12Any_r2 : Reg := { id := 2, ops := [{ op := .mv (.slot 0) },{ op := .call 478 [(true, .loc 0), (false, .con (.sc (.int .i64 9)))] [] }], sets := [(3, 1)] }
def sspec_l12Any_r3 : Reg := { id := 3, ops := [{ op := .bin .eql (.slot 3) (.con (.sc (.int .i64 0))) },{ op := .mv (.loc 0) }], sets := [(4, 1)] }
def sspec_l12Any_r4 : Reg := { id := 4, ops := [{ op := .mv (.slot 2) },{ op := .mv (.slot 0) },{ op := .buildSlice 2 1 4 [.con (.sc (.int .i64 0)), .con (.sc (.int .i64 (-1))), .con (.sc (.int .i64 9)), .con (.sc (.int .i64 10))] },{ op := .call 481 [(true, .loc 1), (false, .loc 2)] [] },{ op := .indexAddr 1 (.loc 0) (.con (.sc (.int .i64 0))) },{ op := .store 1 (.loc 4) (.loc 3) }], clr := [0, 3] }
def sspec_l12Any_r5 : Reg := { id := 5, ops := [{ op := .bin .eql (.slot 3) (.con (.sc (.int .i64 1))) },{ op := .mv (.loc 0) }], sets := [(5, 1)], clr := [0] }
def sspec_l12Any_r6 : Reg := { id := 6, ops := [{ op := .mv (.slot 2) },{ op := .mv (.slot 2) },{ op := .indexAddr 1 (.loc 1) (.con (.sc (.int .i64 0))) },{ op := .load none (.loc 2) },{ op := .buildSlice 3 1 1 [.loc 3] },{ op := .append 4 1 8 false (.loc 0) (.loc 4) },{ op := .mv (.loc 5) }], sets := [(2, 6)], ghosts := [.ren 4 6], clr := [3] }
def sspec_l12Any_r7 : Reg := { id := 7, ops := [{ op := .bin .eql (.slot 3) (.con (.sc (.int .i64 2))) },{ op := .mv (.loc 0) }], sets := [(6, 1)], clr := [3] }
def sspec_l12Any_r8 : Reg := { id := 8, ops := [{ op := .buildSlice 5 1 0 [] },{ op := .mv (.loc 0) }], sets := [(2, 1)], ghosts := [.ren 5 6] }
def sspec_l12Any_r9 : Reg := { id := 9, ops := [{ op := .mv (.slot 2) },{ op := .mv (.loc 0) }], sets := [(1, 1)], clr := [2] }
def sspec_l12Any_b : SC := .seq (.reg sspec_l12Any_r0) (.seq (.reg sspec_l12Any_r1) (.seq (.seq (.reg sspec_l12Any_r2) (.block 0 (.seq (.reg sspec_l12Any_r3) (.cond 4 (.reg sspec_l12Any_r4) (.seq (.reg sspec_l12Any_r5) (.cond 5 (.reg sspec_l12Any_r6) (.seq (.reg sspec_l12Any_r7) (.cond 6 (.reg sspec_l12Any_r8) (.skip))))))))) (.seq (.reg sspec_l12Any_r9) (.ret))))
def sspec_l12Any : SFn := { nslots := 7, nobjs := 7, params := [0], ngiven := 1, bor := false, takes := [], body := sspec_l12Any_b, results := [.slot 1] }
def sspec_l12Any_t : List Tmp := [0, 2, 3, 7, 8, 15, 23]
attribute [simp] sspec_l12Any_r0 sspec_l12Any_r1 sspec_l12Any_r2 sspec_l12Any_r3 sspec_l12Any_r4 sspec_l12Any_r5 sspec_l12Any_r6 sspec_l12Any_r7 sspec_l12Any_r8 sspec_l12Any_r9 sspec_l12Any_b sspec_l12Any
def sspec_l19Any_r0 : Reg := { id := 0, ops := [{ op := .alloc 1 [.sc (.int .i64 0), .nil 1, .nil 1, .sc (.bool false)] }], sets := [(1, 0)] }
def sspec_l19Any_r1 : Reg := { id := 1, ops := [{ op := .mv (.slot 0) },{ op := .call 494 [(true, .loc 0)] [2, 3] },{ op := .alloc 4 [.sc (.int .i64 0), .nil 1, .nil 1, .sc (.bool false)] },{ op := .store 4 (.loc 2) (.loc 1) }], sets := [(2, 2)], ghosts := [.ren 2 10, .ren 3 9] }
def sspec_l19Any_r2 : Reg := { id := 2, ops := [{ op := .mv (.slot 0) },{ op := .call 478 [(true, .loc 0), (false, .con (.sc (.int .i64 12)))] [] }], sets := [(3, 1)] }
def sspec_l19Any_r3 : Reg := { id := 3, ops := [{ op := .bin .eql (.slot 3) (.con (.sc (.int .i64 0))) },{ op := .mv (.loc 0) }], sets := [(4, 1)] }
def sspec_l19Any_r4 : Reg := { id := 4, ops := [{ op := .mv (.slot 0) },{ op := .buildSlice 5 1 3 [.con (.sc (.int .i64 (-1))), .con (.sc (.int .i64 9)), .con (.sc (.int .i64 10))] },{ op := .call 481 [(true, .loc 0), (false, .loc 1)] [] },{ op := .fieldAddr (.slot 2) 0 },{ op := .store 1 (.loc 3) (.loc 2) }], clr := [0, 3] }
def sspec_l19Any_r5 : Reg := { id := 5, ops := [{ op := .bin .eql (.slot 3) (.con (.sc (.int .i64 1))) },{ op := .mv (.loc 0) }], sets := [(5, 1)] }
def sspec_l19Any_r6 : Reg := { id := 6, ops := [{ op := .mv (.slot 0) },{ op := .buildSlice 6 1 3 [.con (.sc (.int .i64 (-1))), .con (.sc (.int .i64 255)), .con (.sc (.int .i64 256))] },{ op := .call 481 [(true, .loc 0), (false, .loc 1)] [] },{ op := .buildSlice 7 1 1 [.loc 2] },{ op := .fieldAddr (.slot 2) 1 },{ op := .store 1 (.loc 4) (.loc 3) }], ghosts := [.ren 7 10], clr := [0, 3] }
def sspec_l19Any_r7 : Reg := { id := 7, ops := [{ op := .bin .eql (.slot 3) (.con (.sc (.int .i64 2))) },{ op := .mv (.loc 0) }], sets := [(6, 1)], clr := [0, 3] }
def sspec_l19Any_r8 : Reg := { id := 8, ops := [{ op := .buildSlice 8 1 7 [.con (.sc (.int .i64 1)), .con (.sc (.int .i64 2)), .con (.sc (.int .i64 3)), .con (.sc (.int .i64 4)), .con (.sc (.int .i64 5)), .con (.sc (.int .i64 6)), .con (.sc (.int .i64 7))] },{ op := .fieldAddr (.slot 2) 2 },{ op := .store 1 (.loc 1) (.loc 0) }], ghosts := [.ren 8 9] }
def sspec_l19Any_r9 : Reg := { id := 9, ops := [{ op := .load (some 4) (.slot 2) },{ op := .store 4 (.slot 1) (.loc 0) }], clr := [2] }
def sspec_l19Any_b : SC := .seq (.reg sspec_l19Any_r0) (.seq (.reg sspec_l19Any_r1) (.seq (.seq (.reg sspec_l19Any_r2) (.block 0 (.seq (.reg sspec_l19Any_r3) (.cond 4 (.reg sspec_l19Any_r4) (.seq (.reg sspec_l19Any_r5) (.cond 5 (.reg sspec_l19Any_r6) (.seq (.reg sspec_l19Any_r7) (.cond 6 (.reg sspec_l19Any_r8) (.skip))))))))) (.seq (.reg sspec_l19Any_r9) (.ret))))
def sspec_l19Any : SFn := { nslots := 7, nobjs := 11, params := [0], ngiven := 1, bor := false, takes := [], body := sspec_l19Any_b, results := [.cell 1 (some 4)] }
def sspec_l19Any_t : List Tmp := [0, 2, 3, 7, 8, 14, 21]
attribute [simp] sspec_l19Any_r0 sspec_l19Any_r1 sspec_l19Any_r2 sspec_l19Any_r3 sspec_l19Any_r4 sspec_l19Any_r5 sspec_l19Any_r6 sspec_l19Any_r7 sspec_l19Any_r8 sspec_l19Any_r9 sspec_l19Any_b sspec_l19Any
def sspec_l32World_r0 : Reg := { id := 0, ops := [{ op := .alloc 1 [.nil 1, .nil 1, .sc (.int .i64 0), .nil 4, .sc (.int .i64 0), .nil 1, .sc (.int .i64 0), .sc (.bool false), .sc (.int .i64 0), .sc (.int .i64 0), .nil 5, .nil 8, .sc (.int .i64 0), .sc (.int .i64 0), .sc (.int .i64 0)] }], sets := [(1, 0)] }
def sspec_l32World_r1 : Reg := { id := 1, ops := [{ op := .buildSlice 2 1 1 [.con (.sc (.int .i64 1))] },{ op := .mv (.slot 0) },{ op := .call 478 [(true, .loc 1), (false, .con (.sc (.int .i64 2)))] [] },{ op := .bin .add (.con (.sc (.int .i64 2))) (.loc 2) },{ op := .call 159 [(false, .loc 0), (false, .loc 3)] [3] },{ op := .mv (.slot 0) },{ op := .call 478 [(true, .loc 5), (false, .con (.sc (.int .i64 2)))] [] },{ op := .bin .add (.con (.sc (.int .i64 4))) (.loc 6) },{ op := .call 159 [(false, .loc 4), (false, .loc 7)] [4] },{ op := .mv (.loc 8) }], sets := [(2, 9)] }
def sspec_l32World_r2 : Reg := { id := 2, ops := [{ op := .mv (.slot 0) },{ op := .call 487 [(true, .loc 0)] [5] },{ op := .alloc 6 [.sc (.int .i64 0), .nil 1, .sc (.int .i64 0), .sc (.bool false)] },{ op := .store 4 (.loc 2) (.loc 1) }], sets := [(3, 2)] }
def sspec_l32World_r3 : Reg := { id := 3, ops := [{ op := .mv (.slot 2) },{ op := .mv (.slot 2) },{ op := .len false (.loc 1) },{ op := .bin .sub (.loc 2) (.con (.sc (.int .i64 1))) },{ op := .indexAddr 1 (.loc 0) (.loc 3) },{ op := .load none (.loc 4) },{ op := .fieldAddr (.slot 3) 0 },{ op := .store 1 (.loc 6) (.loc 5) }] }
def sspec_l32World_r4 : Reg := { id := 4, ops := [{ op := .fieldAddr (.slot 3) 2 },{ op := .store 1 (.loc 0) (.con (.sc (.int .i64 0))) }] }
def sspec_l32World_r5 : Reg := { id := 5, ops := [{ op := .buildSlice 7 4 0 [] },{ op := .mv (.loc 0) }], sets := [(4, 1)], ghosts := [.ren 7 24] }
def sspec_l32World_r6 : Reg := { id := 6, ops := [{ op := .mv (.slot 0) },{ op := .call 478 [(true, .loc 0), (false, .con (.sc (.int .i64 4)))] [] },{ op := .bin .add (.con (.sc (.int .i64 2))) (.loc 1) },{ op := .mv (.loc 2) }], sets := [(5, 3)] }
def sspec_l32World_r7 : Reg := { id := 7, ops := [{ op := .mv (.slot 5) },{ op := .bin .gtr (.loc 0) (.con (.sc (.int .i64 0))) }], sets := [(8, 1)] }
def sspec_l32World_r8 : Reg := { id := 9, fresh := [8, 9, 10, 11], ops := [{ op := .mv (.slot 0) },{ op := .call 488 [(true, .loc 0)] [8, 9, 10] },{ op := .alloc 11 [.nil 1, .nil 1, .nil 4, .sc (.int .i64 0)] },{ op := .store 4 (.loc 2) (.loc 1) }], sets := [(6, 2)] }
def sspec_l32World_r9 : Reg := { id := 10, fresh := [12, 13], ops := [{ op := .buildSlice 12 1 1 [.con (.sc (.int .i64 1))] },{ op := .mv (.slot 0) },{ op := .call 478 [(true, .loc 1), (false, .con (.sc (.int .i64 2)))] [] },{ op := .bin .add (.con (.sc (.int .i64 2))) (.loc 2) },{ op := .call 159 [(false, .loc 0), (false, .loc 3)] [13] },{ op := .fieldAddr (.slot 6) 0 },{ op := .store 1 (.loc 5) (.loc 4) }] }
def sspec_l32World_r10 : Reg := { id := 11, fresh := [14, 15], ops := [{ op := .mv (.slot 4) },{ op := .load (some 4) (.slot 6) },{ op := .buildSlice 14 4 1 [.loc 1] },{ op := .append 15 4 80 true (.loc 0) (.loc 2) },{ op := .mv (.loc 3) }], sets := [(4, 4)], ghosts := [.ren 15 24], clr := [6] }
def sspec_l32World_r11 : Reg := { id := 8, ops := [{ op := .mv (.slot 5) },{ op := .bin .sub (.loc 0) (.con (.sc (.int .i64 1))) },{ op := .mv (.loc 1) }], sets := [(5, 2)] }
def sspec_l32World_r12 : Reg := { id := 12, draw := true, ops := [{ op := .mv (.slot 2), tau := some [], om := [] },{ op := .mv (.slot 0), tau := some [], om := [] },{ op := .call 489 [(true, .loc 1)] [16], tau := some [0, 16], om := [0, 16] },{ op := .mv (.slot 4), tau := some [], om := [] },{ op := .load (some 4) (.slot 3), tau := some [6], om := [] },{ op := .call 70 [(false, .loc 0), (false, .loc 2), (false, .loc 3), (false, .loc 4)] [17, 18, 19, 20, 21, 22], tau := some [4, 5, 16, 17, 18, 19, 20, 21, 22, 24], om := [17, 18, 19, 20, 21, 22] },{ op := .mv (.loc 5), tau := some [], om := [] },{ op := .extract (.loc 6) 0, tau := some [], om := [] },{ op := .extract (.loc 6) 1, tau := some [], om := [] },{ op := .alloc 23 [.nil 1, .nil 1, .sc (.int .i64 0), .nil 4, .sc (.int .i64 0), .nil 1, .sc (.int .i64 0), .sc (.bool false), .sc (.int .i64 0), .sc (.int .i64 0), .nil 5, .nil 8, .sc (.int .i64 0), .sc (.int .i64 0), .sc (.int .i64 0)], tau := some [23], om := [23] },{ op := .store 15 (.loc 9) (.loc 7), tau := some [23], om := [23] },{ op := .mv (.loc 8), tau := some [], om := [] }], sets := [(7, 9)], clr := [0, 2, 3, 4, 5] }
def sspec_l32World_r13 : Reg := { id := 13, ops := [{ op := .load (some 15) (.slot 7) },{ op := .store 15 (.slot 1) (.loc 0) }], clr := [7] }
def sspec_l32World_b : SC := .seq (.reg sspec_l32World_r0) (.seq (.reg sspec_l32World_r1) (.seq (.reg sspec_l32World_r2) (.seq (.reg sspec_l32World_r3) (.seq (.reg sspec_l32World_r4) (.seq (.reg sspec_l32World_r5) (.seq (.seq (.reg sspec_l32World_r6) (.block 0 (.loop (.seq (.seq (.reg sspec_l32World_r7) (.cond 8 (.skip) (.exit 0))) (.seq (.block 1 (.seq (.reg sspec_l32World_r8) (.seq (.reg sspec_l32World_r9) (.reg sspec_l32World_r10)))) (.reg sspec_l32World_r11)))))) (.seq (.reg sspec_l32World_r12) (.seq (.reg sspec_l32World_r13) (.ret)))))))))
def sspec_l32World : SFn := { nslots := 9, nobjs := 25, params := [0], ngiven := 1, bor := false, takes := [], body := sspec_l32World_b, results := [.cell 1 (some 15)] }
def sspec_l32World_t : List Tmp := [0, 2, 3, 4, 5, 6, 7, 8, 34]
attribute [simp] sspec_l32World_r0 sspec_l32World_r1 sspec_l32World_r2 sspec_l32World_r3 sspec_l32World_r4 sspec_l32World_r5 sspec_l32World_r6 sspec_l32World_r7 sspec_l32World_r8 sspec_l32World_r9 sspec_l32World_r10 sspec_l32World_r11 sspec_l32World_r12 sspec_l32World_r13 sspec_l32World_b sspec_l32World
def sspec_l19Draw_r0 : Reg := { id := 0, ops := [{ op := .alloc 1 [.sc (.int .i64 0), .nil 1, .nil 1, .sc (.bool false)] }], sets := [(1, 0)] }
def sspec_l19Draw_r1 : Reg := { id := 1, ops := [{ op := .build [.sc (.int .i64 0), .nil 1, .nil 1, .sc (.bool false)] [] },{ op := .alloc 2 [.sc (.int .i64 0), .nil 1, .nil 1, .sc (.bool false)] },{ op := .store 4 (.loc 1) (.loc 0) }], sets := [(2, 1)], ghosts := [.ownc 2 1 6, .ownc 2 2 5] }
def sspec_l19Draw_r2 : Reg := { id := 2, ops := [{ op := .mv (.slot 0) },{ op := .call 478 [(true, .loc 0), (false, .con (.sc (.int .i64 7)))] [] }], sets := [(3, 1)] }
def sspec_l19Draw_r3 : Reg := { id := 3, ops := [{ op := .bin .eql (.slot 3) (.con (.sc (.int .i64 0))) },{ op := .mv (.loc 0) }], sets := [(4, 1)] }
def sspec_l19Draw_r4 : Reg := { id := 4, ops := [{ op := .mv (.slot 0) },{ op := .call 478 [(true, .loc 0), (false, .con (.sc (.int .i64 6)))] [] },{ op := .bin .add (.con (.sc (.int .i64 1))) (.loc 1) },{ op := .fieldAddr (.slot 2) 0 },{ op := .store 1 (.loc 3) (.loc 2) }], clr := [0, 3] }
def sspec_l19Draw_r5 : Reg := { id := 5, ops := [{ op := .bin .eql (.slot 3) (.con (.sc (.int .i64 1))) },{ op := .mv (.loc 0) }], sets := [(5, 1)] }
def sspec_l19Draw_r6 : Reg := { id := 6, ops := [{ op := .mv (.slot 0) },{ op := .call 489 [(true, .loc 0)] [3] },{ op := .fieldAddr (.slot 2) 1 },{ op := .store 1 (.loc 2) (.loc 1) }], ghosts := [.ren 3 6], clr := [0, 3] }
def sspec_l19Draw_r7 : Reg := { id := 7, ops := [{ op := .bin .eql (.slot 3) (.con (.sc (.int .i64 2))) },{ op := .mv (.loc 0) }], sets := [(6, 1)] }
def sspec_l19Draw_r8 : Reg := { id := 8, ops := [{ op := .mv (.slot 0) },{ op := .call 489 [(true, .loc 0)] [4] },{ op := .fieldAddr (.slot 2) 2 },{ op := .store 1 (.loc 2) (.loc 1) }], ghosts := [.ren 4 5], clr := [0, 3] }
def sspec_l19Draw_r9 : Reg := { id := 9, ops := [{ op := .bin .eql (.slot 3) (.con (.sc (.int .i64 3))) },{ op := .mv (.loc 0) }], sets := [(7, 1)], clr := [0, 3] }
def sspec_l19Draw_r10 : Reg := { id := 10, ops := [{ op := .fieldAddr (.slot 2) 3 },{ op := .store 1 (.loc 0) (.con (.sc (.bool true))) }] }
def sspec_l19Draw_r11 : Reg := { id := 11, ops := [{ op := .load (some 4) (.slot 2) },{ op := .store 4 (.slot 1) (.loc 0) }], clr := [2] }
def sspec_l19Draw_b : SC := .seq (.reg sspec_l19Draw_r0) (.seq (.reg sspec_l19Draw_r1) (.seq (.seq (.reg sspec_l19Draw_r2) (.block 0 (.seq (.reg sspec_l19Draw_r3) (.cond 4 (.reg sspec_l19Draw_r4) (.seq (.reg sspec_l19Draw_r5) (.cond 5 (.reg sspec_l19Draw_r6) (.seq (.reg sspec_l19Draw_r7) (.cond 6 (.reg sspec_l19Draw_r8) (.seq (.reg sspec_l19Draw_r9) (.cond 7 (.reg sspec_l19Draw_r10) (.skip))))))))))) (.seq (.reg sspec_l19Draw_r11) (.ret))))
def sspec_l19Draw : SFn := { nslots := 8, nobjs := 7, params := [0], ngiven := 1, bor := false, takes := [], body := sspec_l19Draw_b, results := [.cell 1 (some 4)] }
def sspec_l19Draw_t : List Tmp := [0, 2, 3, 6, 7, 13, 18, 23]
attribute [simp] sspec_l19Draw_r0 sspec_l19Draw_r1 sspec_l19Draw_r2 sspec_l19Draw_r3 sspec_l19Draw_r4 sspec_l19Draw_r5 sspec_l19Draw_r6 sspec_l19Draw_r7 sspec_l19Draw_r8 sspec_l19Draw_r9 sspec_l19Draw_r10 sspec_l19Draw_r11 sspec_l19Draw_b sspec_l19Draw
def simplV_EqualWorlds_r0 : Reg := { id := 0, ops := [{ op := .box 0 (.slot 0) },{ op := .box 1 (.slot 1) },{ op := .mv (.con (.sc (.bool false))) }], sets := [(2, 0), (3, 1)], clr := [0, 1, 4] }
def simplV_EqualWorlds_r1 : Reg := { id := 1, ops := [{ op := .fieldAddr (.slot 2) 0 },{ op := .load none (.loc 0) },{ op := .fieldAddr (.slot 3) 0 },{ op := .load none (.loc 2) },{ op := .call 357 [(false, .loc 1), (false, .loc 3)] [] },{ op := .mv (.loc 4) },{ op := .fieldAddr (.slot 2) 1, guard := some (5, true) },{ op := .load none (.loc 6), guard := some (5, true) },{ op := .fieldAddr (.slot 3) 1, guard := some (5, true) },{ op := .load none (.loc 8), guard := some (5, true) },{ op := .call 357 [(false, .loc 7), (false, .loc 9)] [], guard := some (5, true) },{ op := .pick (.loc 5) (.loc 10) (.con (.sc (.bool false))) },{ op := .mv (.loc 11) },{ op := .fieldAddr (.slot 2) 2, guard := some (12, true) },{ op := .load none (.loc 13), guard := some (12, true) },{ op := .fieldAddr (.slot 3) 2, guard := some (12, true) },{ op := .load none (.loc 15), guard := some (12, true) },{ op := .bin .eql (.loc 14) (.loc 16), guard := some (12, true) },{ op := .pick (.loc 12) (.loc 17) (.con (.sc (.bool false))) },{ op := .mv (.loc 18) },{ op := .fieldAddr (.slot 2) 3, guard := some (19, true) },{ op := .load none (.loc 20), guard := some (19, true) },{ op := .fieldAddr (.slot 3) 3, guard := some (19, true) },{ op := .load none (.loc 22), guard := some (19, true) },{ op := .call 501 [(false, .loc 21), (false, .loc 23), (false, .con (.fn 502 []))] [], guard := some (19, true) },{ op := .pick (.loc 19) (.loc 24) (.con (.sc (.bool false))) },{ op := .mv (.loc 25) },{ op := .fieldAddr (.slot 2) 4, guard := some (26, true) },{ op := .load (some 4) (.loc 27), guard := some (26, true) },{ op := .fieldAddr (.slot 3) 4, guard := some (26, true) },{ op := .load (some 4) (.loc 29), guard := some (26, true) },{ op := .call 505 [(false, .loc 28), (false, .loc 30)] [], guard := some (26, true) },{ op := .pick (.loc 26) (.loc 31) (.con (.sc (.bool false))) },{ op := .mv (.loc 32) },{ op := .fieldAddr (.slot 2) 8, guard := some (33, true) },{ op := .load none (.loc 34), guard := some (33, true) },{ op := .fieldAddr (.slot 3) 8, guard := some (33, true) },{ op := .load none (.loc 36), guard := some (33, true) },{ op := .bin .eql (.loc 35) (.loc 37), guard := some (33, true) },{ op := .pick (.loc 33) (.loc 38) (.con (.sc (.bool false))) },{ op := .mv (.loc 39) },{ op := .fieldAddr (.slot 2) 9, guard := some (40, true) },{ op := .load none (.loc 41), guard := some (40, true) },{ op := .fieldAddr (.slot 3) 9, guard := some (40, true) },{ op := .load none (.loc 43), guard := some (40, true) },{ op := .bin .eql (.loc 42) (.loc 44), guard := some (40, true) },{ op := .pick (.loc 40) (.loc 45) (.con (.sc (.bool false))) },{ op := .mv (.loc 46) },{ op := .fieldAddr (.slot 2) 10, guard := some (47, true) },{ op := .load none (.loc 48), guard := some (47, true) },{ op := .fieldAddr (.slot 3) 10, guard := some (47, true) },{ op := .load none (.loc 50), guard := some (47, true) },{ op := .call 506 [(false, .loc 49), (false, .loc 51), (false, .con (.fn 507 []))] [], guard := some (47, true) },{ op := .pick (.loc 47) (.loc 52) (.con (.sc (.bool false))) },{ op := .mv (.loc 53) },{ op := .fieldAddr (.slot 2) 11, guard := some (54, true) },{ op := .load none (.loc 55), guard := some (54, true) },{ op := .fieldAddr (.slot 3) 11, guard := some (54, true) },{ op := .load none (.loc 57), guard := some (54, true) },{ op := .call 509 [(false, .loc 56), (false, .loc 58), (false, .con (.fn 510 []))] [], guard := some (54, true) },{ op := .pick (.loc 54) (.loc 59) (.con (.sc (.bool false))) },{ op := .mv (.loc 60) },{ op := .fieldAddr (.slot 2) 12, guard := some (61, true) },{ op := .load none (.loc 62), guard := some (61, true) },{ op := .fieldAddr (.slot 3) 12, guard := some (61, true) },{ op := .load none (.loc 64), guard := some (61, true) },{ op := .bin .eql (.loc 63) (.loc 65), guard := some (61, true) },{ op := .pick (.loc 61) (.loc 66) (.con (.sc (.bool false))) },{ op := .mv (.loc 67) },{ op := .fieldAddr (.slot 2) 13, guard := some (68, true) },{ op := .load none (.loc 69), guard := some (68, true) },{ op := .fieldAddr (.slot 3) 13, guard := some (68, true) },{ op := .load none (.loc 71), guard := some (68, true) },{ op := .bin .eql (.loc 70) (.loc 72), guard := some (68, true) },{ op := .pick (.loc 68) (.loc 73) (.con (.sc (.bool false))) },{ op := .mv (.loc 74) },{ op := .fieldAddr (.slot 2) 14, guard := some (75, true) },{ op := .load none (.loc 76), guard := some (75, true) },{ op := .fieldAddr (.slot 3) 14, guard := some (75, true) },{ op := .load none (.loc 78), guard := some (75, true) },{ op := .bin .eql (.loc 77) (.loc 79), guard := some (75, true) },{ op := .pick (.loc 75) (.loc 80) (.con (.sc (.bool false))) },{ op := .mv (.loc 81) }], sets := [(4, 82)], clr := [2, 3] }
def simplV_EqualWorlds_b : SC := .seq (.reg simplV_EqualWorlds_r0) (.seq (.reg simplV_EqualWorlds_r1) (.ret))
def simplV_EqualWorlds : SFn := { nslots := 5, nobjs := 2, params := [0, 1], ngiven := 0, bor := false, takes := [], body := simplV_EqualWorlds_b, results := [.slot 4] }
def simplV_EqualWorlds_t : List Tmp := [0, 1, 2, 3, 4]
attribute [simp] simplV_EqualWorlds_r0 simplV_EqualWorlds_r1 simplV_EqualWorlds_b simplV_EqualWorlds
def sspec_AddGrease_r0 : Reg := { id := 0, ops := [{ op := .mv (.con (.nil 2)) }], clr := [2] }
def sspec_AddGrease_r1 : Reg := { id := 1, ops := [{ op := .mv (.slot 1) },{ op := .call 310 [(false, .loc 0)] [] },{ op := .mv (.loc 1) }], sets := [(3, 2)] }
def sspec_AddGrease_r2 : Reg := { id := 2, ops := [{ op := .mv (.slot 0) },{ op := .call 311 [(false, .loc 0)] [0] },{ op := .mv (.loc 1) }], sets := [(4, 2)] }
def sspec_AddGrease_r3 : Reg := { id := 3, ops := [{ op := .mv (.slot 0) },{ op := .call 312 [(false, .loc 0)] [] },{ op := .un .not (.loc 1) },{ op := .mv (.loc 2) },{ op := .mv (.slot 0), guard := some (3, false) },{ op := .len false (.loc 4), guard := some (3, false) },{ op := .bin .geq (.loc 5) (.con (.sc (.int .i64 6))), guard := some (3, false) },{ op := .pick (.loc 3) (.con (.sc (.bool true))) (.loc 6) },{ op := .mv (.loc 7) },{ op := .mv (.slot 0), guard := some (8, false) },{ op := .mv (.slot 3), guard := some (8, false) },{ op := .call 309 [(false, .loc 9), (false, .loc 10)] [], guard := some (8, false) },{ op := .bin .geq (.loc 11) (.con (.sc (.int .i64 0))), guard := some (8, false) },{ op := .pick (.loc 8) (.con (.sc (.bool true))) (.loc 12) }], sets := [(8, 13)] }
def sspec_AddGrease_r4 : Reg := { id := 4, ops := [{ op := .mv (.slot 4) },{ op := .mv (.loc 0) }], sets := [(2, 1)], clr := [0, 1, 3, 4] }
def sspec_AddGrease_r5 : Reg := { id := 5, ops := [{ op := .mv (.slot 3) },{ op := .build [.sc (.int .i64 0), .nil 1] [(0, 1, .loc 0)] },{ op := .alloc 1 [.sc (.int .i64 0), .nil 1] },{ op := .store 2 (.loc 2) (.loc 1) }], sets := [(5, 2)], ghosts := [.ownc 1 1 9], clr := [3] }
def sspec_AddGrease_r6 : Reg := { id := 6, ops := [{ op := .mv (.slot 1) },{ op := .call 313 [(false, .loc 0), (false, .con (.sc (.int .i64 2))), (false, .con (.sc (.int .i64 3)))] [] },{ op := .mv (.loc 1) }], sets := [(6, 2)] }
def sspec_AddGrease_r7 : Reg := { id := 7, ops := [{ op := .mv (.slot 6) },{ op := .bin .gtr (.loc 0) (.con (.sc (.int .i64 0))) }], sets := [(9, 1)] }
def sspec_AddGrease_r8 : Reg := { id := 9, draw := true, fresh := [2, 3], ops := [{ op := .fieldAddr (.slot 5) 1, tau := some [], om := [] },{ op := .load none (.loc 0), tau := some [1], om := [] },{ op := .mv (.slot 1), tau := some [], om := [] },{ op := .call 313 [(false, .loc 2), (false, .con (.sc (.int .i64 3))), (false, .con (.sc (.int .i64 256)))] [], tau := some [], om := [] },{ op := .buildSlice 2 1 1 [.loc 3], tau := some [2], om := [2] },{ op := .append 3 1 8 false (.loc 1) (.loc 4), tau := some [2, 3, 9], om := [3, 9] },{ op := .fieldAddr (.slot 5) 1, tau := some [], om := [] },{ op := .store 1 (.loc 6) (.loc 5), tau := some [1], om := [1] }], ghosts := [.ren 3 9] }
def sspec_AddGrease_r9 : Reg := { id := 8, ops := [{ op := .mv (.slot 6) },{ op := .bin .sub (.loc 0) (.con (.sc (.int .i64 1))) },{ op := .mv (.loc 1) }], sets := [(6, 2)] }
def sspec_AddGrease_r10 : Reg := { id := 10, ops := [{ op := .mv (.slot 1) },{ op := .mv (.slot 0) },{ op := .len false (.loc 1) },{ op := .bin .add (.loc 2) (.con (.sc (.int .i64 1))) },{ op := .call 313 [(false, .loc 0), (false, .con (.sc (.int .i64 1))), (false, .loc 3)] [] },{ op := .mv (.loc 4) }], sets := [(7, 5)], clr := [0, 1, 6] }
def sspec_AddGrease_r11 : Reg := { id := 11, draw := true, ops := [{ op := .buildSlice 4 2 0 [], tau := some [4], om := [4] },{ op := .mv (.slot 4), tau := some [], om := [] },{ op := .mv (.slot 7), tau := some [], om := [] },{ op := .slice 2 (.loc 1) none (some (.loc 2)), tau := some [0], om := [] },{ op := .append 5 2 32 true (.loc 0) (.loc 3), tau := some [0, 4, 5, 100000], om := [0, 4, 5, 100000] },{ op := .load (some 2) (.slot 5), tau := some [1], om := [] },{ op := .buildSlice 6 2 1 [.loc 5], tau := some [6, 9], om := [6, 9] },{ op := .append 7 2 32 true (.loc 4) (.loc 6), tau := some [5, 6, 7], om := [5, 6, 7] },{ op := .mv (.slot 4), tau := some [], om := [] },{ op := .mv (.slot 7), tau := some [], om := [] },{ op := .slice 2 (.loc 8) (some (.loc 9)) none, tau := some [0], om := [] },{ op := .append 8 2 32 true (.loc 7) (.loc 10), tau := some [0, 7, 8, 100000], om := [0, 7, 8, 100000] },{ op := .mv (.loc 11), tau := some [], om := [] }], sets := [(2, 12)], clr := [4, 5, 7] }
def sspec_AddGrease_b : SC := .seq (.reg sspec_AddGrease_r0) (.seq (.reg sspec_AddGrease_r1) (.seq (.reg sspec_AddGrease_r2) (.seq (.seq (.reg sspec_AddGrease_r3) (.cond 8 (.seq (.reg sspec_AddGrease_r4) (.ret)) (.skip))) (.seq (.reg sspec_AddGrease_r5) (.seq (.seq (.reg sspec_AddGrease_r6) (.block 0 (.loop (.seq (.seq (.reg sspec_AddGrease_r7) (.cond 9 (.skip) (.exit 0))) (.seq (.block 1 (.reg sspec_AddGrease_r8)) (.reg sspec_AddGrease_r9)))))) (.seq (.reg sspec_AddGrease_r10) (.seq (.reg sspec_AddGrease_r11) (.ret))))))))
def sspec_AddGrease : SFn := { nslots := 10, nobjs := 10, params := [0, 1], ngiven := 0, bor := false, takes := [], body := sspec_AddGrease_b, results := [.slot 2] }
def sspec_AddGrease_t : List Tmp := [0, 1, 4, 5, 6, 7, 8, 9, 27, 34]
attribute [simp] sspec_AddGrease_r0 sspec_AddGrease_r1 sspec_AddGrease_r2 sspec_AddGrease_r3 sspec_AddGrease_r4 sspec_AddGrease_r5 sspec_AddGrease_r6 sspec_AddGrease_r7 sspec_AddGrease_r8 sspec_AddGrease_r9 sspec_AddGrease_r10 sspec_AddGrease_r11 sspec_AddGrease_b sspec_AddGrease
end Go.Eng.T

namespace Go.Eng.T
set_option maxRecDepth 20000
set_option maxHeartbeats 1000000
theorem sEqualInts_b (D : Dn) : eqIntSS (Body D sspec_EqualInts) := by
  intro xs ys h1 h2
  unfold maxLen at h1 h2
  by_cases hl : xs.length = ys.length
  rotate_left
  · have hl' : ¬ (xs.length : Int) = ys.length := by omega
    have : xs ≠ ys := fun h => hl (by rw [h])
    simp -implicitDefEqProofs [hl', this]
  have hl' : (xs.length : Int) = ys.length := by omega
  simp -implicitDefEqProofs [hl']
  refine swp_loop (fun k s => ∃ j, j + k = xs.length ∧ xs.take j = ys.take j ∧ s = ⟨[.sl 1 1 xs.length (ints xs), .sl 1 1 ys.length (ints ys), .undef, I j, .undef, .undef, .undef], []⟩) ?_ (xs.length) _ ⟨0, by simp, by simp, by simp⟩
  intro k s ⟨j, hj, hp, hs⟩
  subst hs
  by_cases hjn : j < xs.length
  · have hw : IntKind.i64.wrap ((j : Int) + 1) = (j + 1 : Nat) := by rw [wrap_id (by omega) (by omega)]; simp
    have hy : j < ys.length := by omega
    by_cases he : xs[j] = ys[j]
    · simp -implicitDefEqProofs [hjn, hy, he]
      exact ⟨k - 1, by omega, j + 1, by omega, take_step hjn hy hp he, by simp [hw]⟩
    · have hne : xs ≠ ys := fun h => he (by simp [h])
      simp -implicitDefEqProofs [hjn, hy, he, hne]
  · obtain rfl : xs = ys := take_all (by omega) hl hp
    simp -implicitDefEqProofs [hjn]
theorem iEqual_b (D : Dn) : eqIntSS (Body D sslices_Equal___int_int_) := by
  intro xs ys h1 h2
  unfold maxLen at h1 h2
  by_cases hl : xs.length = ys.length
  rotate_left
  · have hl' : ¬ (xs.length : Int) = ys.length := by omega
    have : xs ≠ ys := fun h => hl (by rw [h])
    simp -implicitDefEqProofs [hl', this]
  have hl' : (xs.length : Int) = ys.length := by omega
  simp -implicitDefEqProofs [hl']
  refine swp_loop (fun k s => ∃ j, j + k = xs.length ∧ xs.take j = ys.take j ∧ s = ⟨[.sl 1 1 xs.length (ints xs), .sl 1 1 ys.length (ints ys), .undef, .undef, .undef, I ys.length, I j, .undef, .undef], []⟩) ?_ (xs.length) _ ⟨0, by simp, by simp, by simp⟩
  intro k s ⟨j, hj, hp, hs⟩
  subst hs
  by_cases hjn : j < xs.length
  · have hw : IntKind.i64.wrap ((j : Int) + 1) = (j + 1 : Nat) := by rw [wrap_id (by omega) (by omega)]; simp
    have hy : j < ys.length := by omega
    by_cases he : xs[j] = ys[j]
    · simp -implicitDefEqProofs [hjn, hy, he]
      exact ⟨k - 1, by omega, j + 1, by omega, take_step hjn hy hp he, by simp [hw]⟩
    · have hne : xs ≠ ys := fun h => he (by simp [h])
      simp -implicitDefEqProofs [hjn, hy, he, hne]
  · obtain rfl : xs = ys := take_all (by omega) hl hp
    simp -implicitDefEqProofs [hjn]
abbrev EqExtsS (R : Rel) : Prop := ∀ a b : List Ext, exB a → exB b → R [.sl 1 2 a.length (a.flatMap eExt), .sl 1 2 b.length (b.flatMap eExt)] [] (B (decide (a = b))) []
abbrev equalExtS (R : Rel) : Prop := ∀ a b : Ext, a.body.length ≤ 4194304 → b.body.length ≤ 4194304 → R [arg (eExt a), arg (eExt b)] [] (B (decide (a = b))) []
theorem ext_eq {a b : Ext} (h1 : a.tag = b.tag) (h2 : a.body = b.body) : a = b := by cases a; cases b; simp_all
theorem sEqualExts_b (D : Dn) (hE : eqIntSS (D gspec_EqualInts)) : EqExtsS (Body D sspec_EqualExts) := by
  intro a b ha hb
  have h1 := ha.1
  have h2 := hb.1
  by_cases hl : a.length = b.length
  rotate_left
  · have hl' : ¬ (a.length : Int) = b.length := by omega
    have : a ≠ b := fun h => hl (by rw [h])
    simp -implicitDefEqProofs [hl', this]
  have hl' : (a.length : Int) = b.length := by omega
  simp -implicitDefEqProofs [hl']
  refine swp_loop (fun k s => ∃ j, j + k = a.length ∧ a.take j = b.take j ∧ s = ⟨[.sl 1 2 a.length (a.flatMap eExt), .sl 1 2 b.length (b.flatMap eExt), .undef, I j, .undef, .undef, .undef], []⟩) ?_ (a.length) _ ⟨0, by simp, by simp, by simp⟩
  intro k s ⟨j, hj, hp, hs⟩
  subst hs
  by_cases hjn : j < a.length
  · have hw : IntKind.i64.wrap ((j : Int) + 1) = (j + 1 : Nat) := by rw [wrap_id (by omega) (by omega)]; simp
    have hy : j < b.length := by omega
    by_cases g1 : a[j].tag = b[j].tag
    rotate_left
    · have hne : a ≠ b := fun h => g1 (by simp [h])
      simp -implicitDefEqProofs [hjn, hy, g1, hne]
    simp -implicitDefEqProofs [hjn, hy, g1]
    refine callQ_of (hE a[j].body b[j].body (by have := exB_at ha hjn; unfold maxLen; omega) (by have := exB_at hb hy; unfold maxLen; omega)) ?_
    by_cases g2 : a[j].body = b[j].body
    · simp -implicitDefEqProofs [g2]
      exact ⟨k - 1, by omega, j + 1, by omega, take_step hjn hy hp (ext_eq g1 g2), by simp [hw]⟩
    · have hne : a ≠ b := fun h => g2 (by simp [h])
      simp -implicitDefEqProofs [g2, hne]
  · obtain rfl : a = b := take_all (by omega) hl hp
    simp -implicitDefEqProofs [hjn]
abbrev EqFuncExtS (D : Dn) (R : Rel) : Prop := ∀ (a b : List Ext) (g : Nat), exB a → exB b → equalExtS (D g) → R [.sl 1 2 a.length (a.flatMap eExt), .sl 1 2 b.length (b.flatMap eExt), .fn g []] [] (B (decide (a = b))) []
abbrev EqHellosS (R : Rel) : Prop := ∀ a b : Hello, hB a → hB b → R [arg (eHello a), arg (eHello b)] [] (B (decide (a = b))) []
theorem hello_eq {a b : Hello} (h1 : a.versions = b.versions) (h2 : a.exts = b.exts) : a = b := by cases a; cases b; simp_all
theorem sEqualHellos_b (D : Dn) (hE : eqIntSS (D gspec_EqualInts)) (hX : EqExtsS (D gspec_EqualExts)) : EqHellosS (Body D sspec_EqualHellos) := by
  intro a b ha hb
  simp -implicitDefEqProofs
  refine callQ_of (hE a.versions b.versions (by have := ha.1; unfold maxLen; omega) (by have := hb.1; unfold maxLen; omega)) ?_
  by_cases g1 : a.versions = b.versions
  rotate_left
  · have hne : a ≠ b := fun h => g1 (by simp [h])
    simp -implicitDefEqProofs [g1, hne]
  simp -implicitDefEqProofs [g1]
  refine callQ_of (hX a.exts b.exts ha.2 hb.2) ?_
  by_cases g2 : a.exts = b.exts
  · have e := hello_eq g1 g2
    simp -implicitDefEqProofs [g2, e]
  · have hne : a ≠ b := fun h => g2 (by simp [h])
    simp -implicitDefEqProofs [g2, hne]
theorem hB_passGo : ∀ {path : List Box} {h : Hello}, hB h → hB (passGo path h).1
  | [], h, hh => hh
  | b :: r, h, hh => by
    unfold passGo
    split
    · exact hB_passGo (hB_pass hh)
    · exact hB_no
theorem hB_passPath {path : List Box} {h : Hello} (hh : hB h) : hB (passPath path h).1 := by
  unfold passPath
  split
  · exact hB_passGo hh
  · exact hB_no
theorem passGo_vers : ∀ {path : List Box} {h : Hello}, (passGo path h).2 = true → (passGo path h).1.versions = h.versions
  | [], h, _ => rfl
  | b :: r, h, hk => by
    unfold passGo at hk ⊢
    split at hk
    · rename_i hb
      rw [if_pos hb, passGo_vers hk]
      unfold passBox at hb ⊢
      split at hb
      · rename_i hc; rw [if_pos hc]
      · cases hb
    · cases hk
theorem passPath_vers {path : List Box} {h : Hello} (hk : (passPath path h).2 = true) : (passPath path h).1.versions = h.versions := by
  unfold passPath at hk ⊢
  split at hk
  · rename_i hc; rw [if_pos hc]; exact passGo_vers hk
  · cases hk
def passesWhole (h : Hello) (path : List Box) : Bool := (passPath path h).2 && decide ((passPath path h).1 = h)
abbrev PassesWholeS (R : Rel) : Prop := ∀ (h : Hello) (path : List Box), hB h → lnS lnBox path → R [arg (eHello h), .sl 1 4 path.length (path.flatMap eBox)] [] (B (passesWhole h path)) []
theorem sPassesWhole_b (D : Dn) (hP : PassPathS (D gspec_PassPath)) (hQ : EqHellosS (D gspec_EqualHellos)) : PassesWholeS (Body D sspec_PassesWhole) := by
  intro h path hh hb
  simp -implicitDefEqProofs
  refine callQ_of (hP path h hb hh) ?_
  have hr := hB_passPath (path := path) hh
  have e : passesWhole h path = ((passPath path h).2 && decide ((passPath path h).1 = h)) := rfl
  generalize passPath path h = r at hr e
  by_cases g1 : r.2 = true
  rotate_left
  · simp -implicitDefEqProofs [g1, e]
  simp -implicitDefEqProofs [g1]
  refine callQ_of (hQ r.1 h hr hh) ?_
  simp -implicitDefEqProofs [e, g1]
end Go.Eng.T

namespace Go.Eng.T
set_option maxRecDepth 20000
set_option maxHeartbeats 1000000
def lostT (path : List Box) (vs : List Int) (x : Ext) : Bool := !passesWhole ⟨vs.take 1, [x]⟩ path
def lostTags (path : List Box) (vs : List Int) (l : List Ext) : List Int := if areExts l && isOpen path vs then tagsOf (l.filter (lostT path vs)) else []
abbrev LostTagsS (R : Rel) : Prop := ∀ (path : List Box) (vs : List Int) (l : List Ext), lnS lnBox path → vs.length ≤ 4194304 → exB l → R [.sl 1 4 path.length (path.flatMap eBox), .sl 1 1 vs.length (ints vs), .sl 1 2 l.length (l.flatMap eExt)] [] (.sl 0 1 (lostTags path vs l).length (ints (lostTags path vs l))) []
theorem open_pos {path : List Box} {vs : List Int} (h : isOpen path vs = true) : 0 < vs.length := by
  unfold isOpen at h
  simp only [Bool.and_eq_true] at h
  exact vers_pos h.1
theorem part_one {l : List Ext} {j : Nat} (h : j < l.length) : ((l.flatMap eExt).drop (j * 2)).take 2 = eExt l[j] := by
  have := eExt_at h
  unfold getAt at this
  split at this
  · simpa using this
  · cases this
theorem tagsF_step {p : Ext → Bool} {l : List Ext} {j : Nat} (h : j < l.length) : tagsOf ((l.take (j + 1)).filter p) = tagsOf ((l.take j).filter p) ++ (if p l[j] then [l[j].tag] else []) := by
  rw [filtE_step h]
  unfold tagsOf
  rw [List.map_append]
  split <;> simp
theorem tagsF_len {p : Ext → Bool} {l : List Ext} {j : Nat} : (tagsOf ((l.take j).filter p)).length ≤ j := by
  unfold tagsOf
  rw [List.length_map]
  exact filtE_len
theorem lostT_spec {path : List Box} {vs : List Int} {x : Ext} : lostT path vs x = !((passPath path ⟨vs.take 1, [x]⟩).2 && decide ((passPath path ⟨vs.take 1, [x]⟩).1.exts = [x])) := by
  unfold lostT passesWhole
  by_cases h : (passPath path ⟨vs.take 1, [x]⟩).2 = true
  · have hv := passPath_vers h
    have e : decide ((passPath path ⟨vs.take 1, [x]⟩).1 = ⟨vs.take 1, [x]⟩) = decide ((passPath path ⟨vs.take 1, [x]⟩).1.exts = [x]) := by
      rw [decide_eq_decide]
      constructor
      · intro h1; rw [h1]
      · intro h1; exact hello_eq hv h1
    rw [e]
  · simp [h]
theorem sLostTags_b (D : Dn) (hA : AreExtsS (D gspec_AreExts)) (hO : IsOpenPathS (D gspec_IsOpenPath)) (hH : PlainHelloS (D gspec_PlainHello)) (hP : PassPathS (D gspec_PassPath)) (hX : EqExtsS (D gspec_EqualExts)) : LostTagsS (Body D sspec_LostTags) := by
  intro path vs l hb hv hl
  have hll := hl.1
  simp -implicitDefEqProofs
  refine callQ_of (hA l hl) ?_
  by_cases h1 : areExts l = true
  rotate_left
  · simp -implicitDefEqProofs [h1, lostTags]
  simp -implicitDefEqProofs [h1]
  refine callQ_of (hO path vs hb hv) ?_
  by_cases h2 : isOpen path vs = true
  rotate_left
  · simp -implicitDefEqProofs [h2, h1, lostTags]
  have e : lostTags path vs l = tagsOf (l.filter (lostT path vs)) := by unfold lostTags; rw [h1, h2]; rfl
  have hpos := open_pos h2
  have h1l : (1 : Int) ≤ vs.length := by omega
  have h1n : 1 ≤ vs.length := by omega
  have hlen : (vs.take 1).length = 1 := by simp; omega
  have hmin : min 1 vs.length = 1 := by omega
  rw [e]
  simp -implicitDefEqProofs [h2]
  refine swp_loop (fun k s => ∃ j o1 o2 o3 o4 o5 o6 o7 o8, j + k = l.length ∧ s = ⟨[.sl 1 4 path.length (path.flatMap eBox), .sl 1 1 vs.length (ints vs), .sl 1 2 l.length (l.flatMap eExt), .undef, .arr 9, I j, .undef, .undef, .undef, .undef, .undef, .undef], [.free, o1, o2, o3, o4, o5, o6, o7, o8, .arr 1 0 (tagsOf ((l.take j).filter (lostT path vs))).length (ints (tagsOf ((l.take j).filter (lostT path vs))))]⟩) ?_ (l.length) _ ⟨0, .free, .free, .free, .free, .free, .free, .free, .free, by simp, by simp [tagsOf, ints]⟩
  intro k s ⟨j, o1, o2, o3, o4, o5, o6, o7, o8, hj, hs⟩
  subst hs
  by_cases hjn : j < l.length
  · have hw : IntKind.i64.wrap ((j : Int) + 1) = (j + 1 : Nat) := by rw [wrap_id (by omega) (by omega)]; simp
    have hst := tagsF_step (p := lostT path vs) hjn
    have hfl := tagsF_len (p := lostT path vs) (l := l) (j := j)
    have hb1 : ((tagsOf ((l.take j).filter (lostT path vs))).length + 1) * 8 ≤ 1099511627776 := by omega
    have hw1 : IntKind.i64.wrap ((j : Int) + 1) = (j : Int) + 1 := wrap_id (by omega) (by omega)
    have hj1 : j + 1 ≤ l.length := by omega
    have hj2 : (j : Int) + 1 ≤ l.length := by omega
    have hjj : (j : Int) ≤ (j : Int) + 1 := by omega
    have h11 : j + 1 - j = 1 := by omega
    simp -implicitDefEqProofs [hjn, h1l, h1n]
    have hh := hH (vs.take 1) (by omega)
    rw [hlen] at hh
    refine callQ_of (hh) ?_
    have hdt : (l.drop j).take 1 = [l[j]] := by rw [List.drop_eq_getElem_cons hjn]; rfl
    simp -implicitDefEqProofs [hmin, hw1, hj1, hj2, hjj, h11, hdt]
    have hhB : hB ⟨vs.take 1, [l[j]]⟩ := ⟨by simp; omega, by simp, by intro x hx; simp at hx; subst hx; exact exB_at hl hjn⟩
    have hp := hP path ⟨vs.take 1, [l[j]]⟩ hb hhB
    have hr := hB_passPath (path := path) hhB
    have hq := lostT_spec (path := path) (vs := vs) (x := l[j])
    simp -implicitDefEqProofs [hmin, arg] at hp
    refine callQ_of (hp) ?_
    generalize passPath path ⟨vs.take 1, [l[j]]⟩ = r at hr hq
    by_cases g1 : r.2 = true
    rotate_left
    · have h3 : lostT path vs l[j] = true := by rw [hq]; simp [g1]
      rw [if_pos h3] at hst
      simp -implicitDefEqProofs [g1, hjn, hb1]
      exact ⟨k - 1, by omega, j + 1, by omega, by simp [hw], by rw [hst]; simp, by rw [hst]⟩
    simp -implicitDefEqProofs [g1]
    have hx := hX r.1.exts [l[j]] hr.2 hhB.2
    simp -implicitDefEqProofs [arg] at hx
    refine callQ_of (hx) ?_
    by_cases g2 : r.1.exts = [l[j]]
    · have h3 : ¬ lostT path vs l[j] = true := by rw [hq]; simp [g1, g2]
      rw [if_neg h3, List.append_nil] at hst
      simp -implicitDefEqProofs [g2]
      exact ⟨k - 1, by omega, j + 1, by omega, by simp [hw], by rw [hst], by rw [hst]⟩
    · have h3 : lostT path vs l[j] = true := by rw [hq]; simp [g2]
      rw [if_pos h3] at hst
      simp -implicitDefEqProofs [g2, hjn, hb1]
      exact ⟨k - 1, by omega, j + 1, by omega, by simp [hw], by rw [hst]; simp, by rw [hst]⟩
  · have e2 : (l.take j).filter (lostT path vs) = l.filter (lostT path vs) := filtE_all (by omega)
    simp -implicitDefEqProofs [hjn, e2]
end Go.Eng.T

namespace Go.Eng.T
set_option maxRecDepth 20000
set_option maxHeartbeats 1000000
theorem leftOf_len (a b : List Int) : (leftOf a b).length ≤ a.length := List.length_filter_le _ _
def partHello (h : Hello) (lv lt : List Int) : Hello × Bool := if isHello h && !decide (leftOf h.versions lv = []) then (⟨leftOf h.versions lv, kept (fun t => !decide (t ∈ lt)) h.exts⟩, true) else (noHello, false)
abbrev PartHelloS (R : Rel) : Prop := ∀ (h : Hello) (lv lt : List Int), hB h → lv.length ≤ 4194304 → lt.length ≤ 4194304 → R [arg (eHello h), .sl 1 1 lv.length (ints lv), .sl 1 1 lt.length (ints lt)] [] (.tup [.agg (eHello (partHello h lv lt).1), B (partHello h lv lt).2]) []
theorem sPartHello_b (D : Dn) (hI : IsHelloS (D gspec_IsHello)) (hH : HasS (D gspec_l9Has)) : PartHelloS (Body D sspec_PartHello) := by
  intro h lv lt hh hv ht
  have hvl := hh.1
  have hxl := hh.2.1
  simp -implicitDefEqProofs
  refine callQ_of (hI h hh) ?_
  by_cases h1 : isHello h = true
  rotate_left
  · simp -implicitDefEqProofs [h1, partHello, noHello]
  have e1 : leftOf h.versions lv = h.versions.filter (fun v => !decide (v ∈ lv)) := rfl
  unfold partHello
  rw [h1, e1]
  generalize hp : (fun v => !decide (v ∈ lv)) = p
  generalize hq : (fun t => !decide (t ∈ lt)) = q
  obtain ⟨vs, hvs⟩ : ∃ vs, vs = h.versions.filter p := ⟨_, rfl⟩
  rw [← hvs]
  simp -implicitDefEqProofs [h1]
  refine swp_loop (fun k s => ∃ j o3 o4, j + k = h.versions.length ∧ s = ⟨[.undef, .sl 1 1 lv.length (ints lv), .sl 1 1 lt.length (ints lt), .ptr 0 0, .ptr 1 0, .undef, .ptr 2 0, I j, .undef, .undef, .undef, .undef, .undef, .undef, .undef], [.var ((eHello h).map (roCell 1)), .var [.nil 1, .nil 2], .var [.arr 9, .arr 10], o3, o4, .free, .free, .free, .free, .arr 1 0 ((h.versions.take j).filter p).length (ints ((h.versions.take j).filter p)), .arr 2 0 0 []]⟩) ?_ (h.versions.length) _ ⟨0, .free, .free, by simp, by simp⟩
  intro k s ⟨j, o3, o4, hj, hs⟩
  subst hs
  by_cases hjn : j < h.versions.length
  · have hw : IntKind.i64.wrap ((j : Int) + 1) = (j + 1 : Nat) := by rw [wrap_id (by omega) (by omega)]; simp
    have hst := filt_step (p := p) hjn
    have hfl := filt_len (p := p) (xs := h.versions) (j := j)
    have hb1 : (((h.versions.take j).filter p).length + 1) * 8 ≤ 1099511627776 := by omega
    have hpv : p h.versions[j] = !decide (h.versions[j] ∈ lv) := by rw [← hp]
    simp -implicitDefEqProofs [hjn]
    refine callQ_of (hH lv h.versions[j] (by unfold maxLen; omega)) ?_
    by_cases h2 : h.versions[j] ∈ lv
    · have h3 : ¬ p h.versions[j] = true := by rw [hpv]; simpa using h2
      rw [if_neg h3, List.append_nil] at hst
      simp -implicitDefEqProofs [h2]
      exact ⟨k - 1, by omega, j + 1, by omega, by simp [hw], by rw [hst], by rw [hst]⟩
    · have h3 : p h.versions[j] = true := by rw [hpv]; simpa using h2
      rw [if_pos h3] at hst
      simp -implicitDefEqProofs [h2, hjn, hb1]
      exact ⟨k - 1, by omega, j + 1, by omega, by simp [hw], by rw [hst]; simp, by rw [hst]⟩
  have e2 := filt_all (p := p) (xs := h.versions) (j := j) (by omega)
  rw [← hvs] at e2
  simp -implicitDefEqProofs [hjn, e2]
  refine swp_loop (fun k s => ∃ j o3 o4 o5 o6 o7 o8, j + k = h.exts.length ∧ s = ⟨[.undef, .undef, .sl 1 1 lt.length (ints lt), .ptr 0 0, .ptr 1 0, .undef, .ptr 2 0, .undef, I j, .undef, .undef, .undef, .undef, .undef, .undef], [.var ((eHello h).map (roCell 1)), .var [.nil 1, .nil 2], .var [.arr 9, .arr 10], o3, o4, o5, o6, o7, o8, .arr 1 0 vs.length (ints vs), .arr 2 0 (kept q (h.exts.take j)).length ((kept q (h.exts.take j)).flatMap eExt)]⟩) ?_ (h.exts.length) _ ⟨0, o3, o4, .free, .free, .free, .free, by simp, by simp [kept]⟩
  intro k s ⟨j, o3, o4, o5, o6, o7, o8, hj, hs⟩
  subst hs
  by_cases hjn : j < h.exts.length
  · have hw : IntKind.i64.wrap ((j : Int) + 1) = (j + 1 : Nat) := by rw [wrap_id (by omega) (by omega)]; simp
    have hb := exB_at hh.2 hjn
    have hb1 : h.exts[j].body.length * 8 ≤ 1099511627776 := by omega
    have hkl := kept_len (p := q) (l := h.exts) (j := j)
    have hb2 : ((kept q (h.exts.take j)).length + 1) * 32 ≤ 1099511627776 := by omega
    have hpv : q h.exts[j].tag = !decide (h.exts[j].tag ∈ lt) := by rw [← hq]
    simp -implicitDefEqProofs [hjn]
    refine callQ_of (hH lt h.exts[j].tag (by unfold maxLen; omega)) ?_
    by_cases h2 : h.exts[j].tag ∈ lt
    · have h3 : ¬ q h.exts[j].tag = true := by rw [hpv]; simpa using h2
      have hst := kept_step (p := q) hjn
      rw [if_neg h3, List.append_nil] at hst
      simp -implicitDefEqProofs [h2]
      exact ⟨k - 1, by omega, j + 1, by omega, by simp [hw], by rw [hst], by rw [hst]⟩
    · have h3 : q h.exts[j].tag = true := by rw [hpv]; simpa using h2
      have hst := kept_push hjn h3
      have hsl := kept_push_len hjn h3
      simp -implicitDefEqProofs [h2, hjn, hb1, hb2]
      exact ⟨k - 1, by omega, j + 1, by omega, by simp [hw], by rw [← hsl], by rw [← hst]⟩
  have e3 := kept_all (p := q) (l := h.exts) (j := j) (by omega)
  by_cases g : vs = []
  · simp -implicitDefEqProofs [hjn, e3, g, noHello]
  · have g' : ¬ (vs.length : Int) = 0 := by
      intro h0
      exact g (List.eq_nil_of_length_eq_zero (by omega))
    simp -implicitDefEqProofs [hjn, e3, g', g]
abbrev PartHello1S (R : Rel) : Prop := ∀ (t : Int) (tags : List Int), tags.length ≤ maxLen → R [I t, .rptr 1 [.sl 0 1 tags.length (ints tags)] 0] [] (B (!decide (t ∈ tags))) []
def fallback (h : Hello) (path : List Box) : Hello × Bool := partHello h (lostVersions path h.versions) (lostTags path (leftOf h.versions (lostVersions path h.versions)) h.exts)
abbrev FallbackS (R : Rel) : Prop := ∀ (h : Hello) (path : List Box), hB h → lnS lnBox path → R [arg (eHello h), .sl 1 4 path.length (path.flatMap eBox)] [] (.tup [.agg (eHello (fallback h path).1), B (fallback h path).2]) []
theorem lostTags_len (path : List Box) (vs : List Int) (l : List Ext) : (lostTags path vs l).length ≤ l.length := by
  unfold lostTags tagsOf
  split
  · rw [List.length_map]; exact List.length_filter_le _ _
  · simp
theorem sFallback_b (D : Dn) (hI : IsHelloS (D gspec_IsHello)) (hLV : LostVersionsS (D gspec_LostVersions)) (hL : LeftS (D gspec_l21Left)) (hT : LostTagsS (D gspec_LostTags)) (hP : PartHelloS (D gspec_PartHello)) : FallbackS (Body D sspec_FallbackHello) := by
  intro h path hh hb
  simp -implicitDefEqProofs
  refine callQ_of (hI h hh) ?_
  by_cases g1 : isHello h = true
  rotate_left
  · have e : fallback h path = (noHello, false) := by unfold fallback partHello; simp [g1]
    simp -implicitDefEqProofs [g1, e, noHello]
  have hvl := hh.1
  have hxl := hh.2.1
  simp -implicitDefEqProofs [g1]
  refine callQ_of (hLV path h.versions hb hh.1) ?_
  have hll := lost_len path h.versions
  have e : fallback h path = partHello h (lostVersions path h.versions) (lostTags path (leftOf h.versions (lostVersions path h.versions)) h.exts) := rfl
  rw [e]
  generalize lostVersions path h.versions = lv at hll
  simp -implicitDefEqProofs
  refine callQ_of (hL h.versions lv hh.1 (by omega)) ?_
  have hl2 := leftOf_len h.versions lv
  generalize leftOf h.versions lv = vs at hl2
  simp -implicitDefEqProofs
  refine callQ_of (hT path vs h.exts hb (by omega) hh.2) ?_
  have hl3 := lostTags_len path vs h.exts
  generalize lostTags path vs h.exts = lt at hl3
  simp -implicitDefEqProofs
  refine callQ_of (hP h lv lt hh (by omega) (by omega)) ?_
  generalize partHello h lv lt = r
  simp -implicitDefEqProofs
theorem hB_part {h : Hello} {lv lt : List Int} (hh : hB h) : hB (partHello h lv lt).1 := by
  unfold partHello
  split
  · exact ⟨Nat.le_trans (leftOf_len _ _) hh.1, exB_kept hh.2 (fun t => !decide (t ∈ lt))⟩
  · exact hB_no
theorem hB_fall {h : Hello} {path : List Box} (hh : hB h) : hB (fallback h path).1 := hB_part hh
def helloFor (h : Hello) (path : List Box) : Hello × Int × Bool :=
  if isHello h = true then (if passesWhole h path = true then (h, 1, true) else if (fallback h path).2 && passesWhole (fallback h path).1 path then ((fallback h path).1, 2, true) else (noHello, 2, false)) else (noHello, 0, false)
abbrev HelloForS (R : Rel) : Prop := ∀ (h : Hello) (path : List Box), hB h → lnS lnBox path → R [arg (eHello h), .sl 1 4 path.length (path.flatMap eBox)] [] (.tup [.agg (eHello (helloFor h path).1), I (helloFor h path).2.1, B (helloFor h path).2.2]) []
theorem sHelloFor_b (D : Dn) (hI : IsHelloS (D gspec_IsHello)) (hW : PassesWholeS (D gspec_PassesWhole)) (hC : cpHelloS (D gspec_l18Hello)) (hF : FallbackS (D gspec_FallbackHello)) : HelloForS (Body D sspec_HelloFor) := by
  intro h path hh hb
  simp -implicitDefEqProofs
  refine callQ_of (hI h hh) ?_
  by_cases g1 : isHello h = true
  rotate_left
  · simp -implicitDefEqProofs [g1, helloFor, noHello]
  simp -implicitDefEqProofs [g1]
  refine callQ_of (hW h path hh hb) ?_
  by_cases g2 : passesWhole h path = true
  · simp -implicitDefEqProofs [g2]
    refine callQ_of (hC h hh) ?_
    simp -implicitDefEqProofs [helloFor, g1, g2]
  simp -implicitDefEqProofs [g2]
  refine callQ_of (hF h path hh hb) ?_
  have hr := hB_fall (path := path) hh
  have e : helloFor h path = (if (fallback h path).2 && passesWhole (fallback h path).1 path then ((fallback h path).1, 2, true) else (noHello, 2, false)) := by unfold helloFor; rw [if_pos g1, if_neg g2]
  rw [e]
  generalize fallback h path = r at hr
  by_cases g3 : r.2 = true
  rotate_left
  · simp -implicitDefEqProofs [g3, noHello]
  simp -implicitDefEqProofs [g3]
  refine callQ_of (hW r.1 path hr hb) ?_
  by_cases g4 : passesWhole r.1 path = true
  · simp -implicitDefEqProofs [g3, g4]
  · simp -implicitDefEqProofs [g3, g4, noHello]
theorem hB_hfor {h : Hello} {path : List Box} (hh : hB h) : hB (helloFor h path).1 := by
  unfold helloFor
  split
  · split
    · exact hh
    · split
      · exact hB_fall hh
      · exact hB_no
  · exact hB_no
end Go.Eng.T

namespace Go.Eng.T
set_option maxRecDepth 20000
set_option maxHeartbeats 1000000

/-- a row under way from xs to its images -/
def mapJ {α : Type} (f : α → α) (xs : List α) (j : Nat) : List α := (xs.take j).map f ++ xs.drop j
section
variable {α : Type} {f : α → α} {xs : List α} {j : Nat}
theorem mapJ_zero : mapJ f xs 0 = xs := by simp [mapJ]
theorem mapJ_all (h : xs.length ≤ j) : mapJ f xs j = xs.map f := by simp [mapJ, List.take_of_length_le h, List.drop_eq_nil_of_le h]
@[simp] theorem mapJ_len (h : j ≤ xs.length) : (mapJ f xs j).length = xs.length := by simp [mapJ]; omega
theorem mapJ_get (h : j < xs.length) : (mapJ f xs j)[j]'(by rw [mapJ_len (by omega)]; exact h) = xs[j] := by
  unfold mapJ
  have hl : ((xs.take j).map f).length = j := by simp; omega
  have hm : min j xs.length = j := by omega
  rw [List.getElem_append_right (by omega)]
  simp [hm]
theorem mapJ_set (h : j < xs.length) : (mapJ f xs j).set j (f xs[j]) = mapJ f xs (j + 1) := by
  unfold mapJ
  have hl : ((xs.take j).map f).length = j := by simp; omega
  have ht : xs.take (j + 1) = xs.take j ++ [xs[j]] := by simp
  rw [List.set_append_right _ _ (by omega), hl, Nat.sub_self, ht, List.map_append, List.drop_eq_getElem_cons h, List.set_cons_zero, List.append_assoc]
  rfl
theorem mapJ_same (h : j < xs.length) (hf : f xs[j] = xs[j]) : mapJ f xs (j + 1) = mapJ f xs j := by
  rw [← mapJ_set h, hf]
  have := mapJ_get (f := f) h
  conv => lhs; rw [← this]
  simp
end
def leaveEnd (w : World) (e : Endpoint) : Endpoint := if 0 < bestCommon w.server (withoutV e.versions w.rollout.version) then ⟨withoutV e.versions w.rollout.version, e.tags, e.path, e.cls⟩ else e
def leave (w : World) : World := { w with ends := w.ends.map (leaveEnd w), stage := [] }
abbrev LeaveRolloutS (R : Rel) : Prop := ∀ w : World, szWorld w ≤ 4194304 → R [arg (eWorld w)] [] (.agg (eWorld (leave w))) []
theorem wv_len (a : List Int) (v : Int) : (withoutV a v).length ≤ a.length := List.length_filter_le _ _
theorem end_vers {w : World} (h : szWorld w ≤ 4194304) {j : Nat} (hj : j < w.ends.length) : w.ends[j].versions.length ≤ 4194304 := by
  have := size_at (f := szEndpoint) hj
  have e : szEndpoint w.ends[j] = w.ends[j].versions.length + w.ends[j].tags.length + sumF szBox w.ends[j].path := rfl
  unfold szWorld at h
  omega
theorem world_serv {w : World} (h : szWorld w ≤ 4194304) : w.server.length ≤ 4194304 := by unfold szWorld at h; omega
theorem leave_flat (w : World) : (leave w).ends.length = w.ends.length := by simp [leave]
end Go.Eng.T

namespace Go.Eng.T
theorem sumF_map_le {α : Type} {f : α → Nat} {g : α → α} (h : ∀ x, f (g x) ≤ f x) (xs : List α) : sumF f (xs.map g) ≤ sumF f xs := by
  induction xs with
  | nil => simp [sumF]
  | cons x r ih =>
    have := h x
    simp only [sumF, List.map_cons, List.length_cons, List.sum_cons] at *
    omega
theorem leaveEnd_sz (w : World) (x : Endpoint) : szEndpoint (leaveEnd w x) ≤ szEndpoint x := by
  unfold leaveEnd
  split
  · have := wv_len x.versions w.rollout.version
    simp only [szEndpoint]
    omega
  · exact Nat.le_refl _
theorem leave_sz (w : World) : szWorld (leave w) ≤ szWorld w := by
  have := sumF_map_le (f := szEndpoint) (leaveEnd_sz w) w.ends
  have h0 : sumF szDialed ([] : List Dialed) = 0 := rfl
  simp only [szWorld, leave, h0]
  omega
end Go.Eng.T

namespace Go.Eng.T
set_option maxRecDepth 20000
set_option maxHeartbeats 2000000
/-- a row under way, each place with its number -/
def mapIJ {α : Type} (f : Nat → α → α) (xs : List α) (j : Nat) : List α := xs.mapIdx fun i x => if i < j then f i x else x
section
variable {α : Type} {f : Nat → α → α} {xs : List α} {j : Nat}
@[simp] theorem mapIJ_len : (mapIJ f xs j).length = xs.length := by simp [mapIJ]
theorem mapIJ_zero : mapIJ f xs 0 = xs := by
  apply List.ext_getElem
  · simp
  · intro n h1 h2; simp [mapIJ]
theorem mapIJ_all (h : xs.length ≤ j) : mapIJ f xs j = xs.mapIdx f := by
  apply List.ext_getElem
  · simp
  · intro n h1 h2
    simp only [mapIJ_len] at h1
    simp only [mapIJ, List.getElem_mapIdx]
    rw [if_pos (by omega)]
theorem mapIJ_get (h : j < xs.length) : (mapIJ f xs j)[j]'(by rw [mapIJ_len]; exact h) = xs[j] := by simp [mapIJ]
theorem mapIJ_set (h : j < xs.length) : (mapIJ f xs j).set j (f j xs[j]) = mapIJ f xs (j + 1) := by
  apply List.ext_getElem
  · simp
  · intro n h1 h2
    simp only [List.length_set, mapIJ_len] at h1
    rw [List.getElem_set]
    simp only [mapIJ, List.getElem_mapIdx]
    by_cases hn : j = n
    · subst hn; simp
    · rw [if_neg hn]
      by_cases hl : n < j
      · rw [if_pos hl, if_pos (by omega)]
      · rw [if_neg hl, if_neg (by omega)]
theorem mapIJ_same (h : j < xs.length) (hf : f j xs[j] = xs[j]) : mapIJ f xs (j + 1) = mapIJ f xs j := by
  rw [← mapIJ_set h, hf]
  have := mapIJ_get (f := f) h
  conv => lhs; rw [← this]
  simp
end
def enterEnd (w : World) (i : Nat) (e : Endpoint) : Endpoint := if isIn w.rollout i w.ends.length = true then ⟨putV e.versions w.rollout.version, e.tags, e.path, e.cls⟩ else e
def canEnter (w : World) : Bool := isRollout w.rollout && !w.rollout.off
def enter (w : World) : World := if canEnter w = true then { w with ends := w.ends.mapIdx (enterEnd w), stage := [], reached := max w.reached (w.rollout.pos + 1) } else w
abbrev EnterStageS (R : Rel) : Prop := ∀ w : World, szWorld w ≤ 4194304 → R [arg (eWorld w)] [] (.agg (eWorld (enter w))) []
abbrev MaxIS (R : Rel) : Prop := ∀ a b : Int, R [I a, I b] [] (I (max a b)) []
abbrev MinIS (R : Rel) : Prop := ∀ a b : Int, R [I a, I b] [] (I (min a b)) []
theorem max_ite {a b : Int} : max a b = if a < b then b else a := by omega
def stepStart (w : World) : World × Bool := if decide (w.reached = 0) && canEnter w then (enter w, true) else (w, false)
abbrev StepStartS (R : Rel) : Prop := ∀ w : World, szWorld w ≤ 4194304 → R [arg (eWorld w)] [] (.tup [.agg (eWorld (stepStart w).1), B (stepStart w).2]) []
theorem sumF_mapI_le {α : Type} {f : α → Nat} {g : Nat → α → α} (h : ∀ i x, f (g i x) ≤ f x + 1) : ∀ xs : List α, sumF f (xs.mapIdx g) ≤ sumF f xs + xs.length := by
  intro xs
  induction xs generalizing g with
  | nil => simp [sumF]
  | cons x r ih =>
    have h0 := h 0 x
    have ih' := ih (g := fun i => g (i + 1)) (fun i x => h (i + 1) x)
    simp only [sumF, List.mapIdx_cons, List.map_cons, List.length_cons, List.sum_cons, List.length_mapIdx] at *
    omega
theorem enterEnd_sz (w : World) (i : Nat) (x : Endpoint) : szEndpoint (enterEnd w i x) ≤ szEndpoint x + 1 := by
  unfold enterEnd
  split
  · have := putV_len x.versions w.rollout.version
    simp only [szEndpoint]
    omega
  · omega
theorem enter_sz (w : World) : szWorld (enter w) ≤ szWorld w + w.ends.length := by
  have := sumF_mapI_le (f := szEndpoint) (enterEnd_sz w) w.ends
  have h0 : sumF szDialed ([] : List Dialed) = 0 := rfl
  unfold enter
  split
  · simp only [szWorld, h0]
    omega
  · omega
theorem stepStart_sz (w : World) : szWorld (stepStart w).1 ≤ szWorld w + w.ends.length := by
  unfold stepStart
  split
  · exact enter_sz w
  · dsimp only; omega
end Go.Eng.T

namespace Go.Eng.T
set_option maxRecDepth 20000
set_option maxHeartbeats 2000000
open Go.Lib (compact compactUpTo keeps)

/-- numbers that rise -/
abbrev Up (l : List Int) : Prop := l.Pairwise (· < ·)
theorem up_ext : ∀ {a b : List Int}, Up a → Up b → (∀ x, x ∈ a ↔ x ∈ b) → a = b
  | [], [], _, _, _ => rfl
  | [], y :: b, _, _, h => by have := (h y).2 (by simp); simp at this
  | x :: a, [], _, _, h => by have := (h x).1 (by simp); simp at this
  | x :: a, y :: b, ha, hb, h => by
    rw [Up, List.pairwise_cons] at ha hb
    have hxy : x = y := by
      have h1 := (h x).1 (by simp)
      have h2 := (h y).2 (by simp)
      rcases List.mem_cons.1 h1 with e | h1
      · exact e
      · rcases List.mem_cons.1 h2 with e | h2
        · exact e.symm
        · have := hb.1 x h1; have := ha.1 y h2; omega
    subst hxy
    congr 1
    refine up_ext ha.2 hb.2 fun z => ⟨fun hz => ?_, fun hz => ?_⟩
    · rcases List.mem_cons.1 ((h z).1 (by simp [hz])) with e | h1
      · subst e; have := ha.1 z hz; omega
      · exact h1
    · rcases List.mem_cons.1 ((h z).2 (by simp [hz])) with e | h1
      · subst e; have := hb.1 z hz; omega
      · exact h1
theorem putV_mem : ∀ (l : List Int) (v x : Int), x ∈ putV l v ↔ x ∈ l ∨ x = v := by
  intro l v x
  unfold putV
  split
  · rename_i h
    constructor
    · exact .inl
    · rintro (h1 | rfl)
      · exact h1
      · exact List.mem_of_getElem? h
  · unfold insV
    rw [List.mem_append, List.mem_cons]
    have : x ∈ l ↔ x ∈ l.take (posV l v) ∨ x ∈ l.drop (posV l v) := by
      conv => lhs; rw [← List.take_append_drop (posV l v) l, List.mem_append]
    rw [this]
    constructor
    · rintro (h1 | h1 | h1)
      · exact .inl (.inl h1)
      · exact .inr h1
      · exact .inl (.inr h1)
    · rintro ((h1 | h1) | h1)
      · exact .inl h1
      · exact .inr (.inr h1)
      · exact .inr (.inl h1)
theorem posV_before : ∀ (l : List Int) (v x : Int), x ∈ l.take (posV l v) → x < v
  | [], v, x, h => by simp at h
  | y :: r, v, x, h => by
    simp only [posV] at h
    split at h
    · rw [List.take_succ_cons] at h
      rcases List.mem_cons.1 h with rfl | h
      · assumption
      · exact posV_before r v x h
    · simp at h
theorem putV_up : ∀ {l : List Int} (v : Int), Up l → Up (putV l v) := by
  intro l v hl
  unfold putV
  split
  · exact hl
  · rename_i hne
    unfold insV Up
    rw [List.pairwise_append, List.pairwise_cons]
    have hb := posV_before l v
    have hafter : ∀ y, y ∈ l.drop (posV l v) → v < y := by
      intro y hy
      by_cases hk : posV l v < l.length
      · have hs := posV_stop (l := l) (v := v) hk (by
          intro hlt
          have key : ∀ (l : List Int) (h : posV l v < l.length), ¬ l[posV l v] < v := by
            intro l
            induction l with
            | nil => intro h; simp at h
            | cons x r ih =>
              intro h
              by_cases hx : x < v
              · have e : posV (x :: r) v = posV r v + 1 := by simp [posV, hx]
                have h' : posV r v < r.length := by rw [e] at h; simpa using h
                have := ih h'
                simp only [e, List.getElem_cons_succ]
                exact this
              · have e : posV (x :: r) v = 0 := by simp [posV, hx]
                simp only [e, List.getElem_cons_zero]
                exact hx
          exact key l hk hlt)
        have key : ∀ (l : List Int) (h : posV l v < l.length), ¬ l[posV l v] < v := by
          intro l
          induction l with
          | nil => intro h; simp at h
          | cons x r ih =>
            intro h
            by_cases hx : x < v
            · have e : posV (x :: r) v = posV r v + 1 := by simp [posV, hx]
              have h' : posV r v < r.length := by rw [e] at h; simpa using h
              have := ih h'
              simp only [e, List.getElem_cons_succ]
              exact this
            · have e : posV (x :: r) v = 0 := by simp [posV, hx]
              simp only [e, List.getElem_cons_zero]
              exact hx
        have h1 := key l hk
        have h2 : l[posV l v] ≠ v := by
          intro e; apply hne; rw [List.getElem?_eq_getElem hk, e]
        rw [List.drop_eq_getElem_cons hk] at hy
        have hp : (l[posV l v] :: l.drop (posV l v + 1)).Pairwise (· < ·) := by rw [← List.drop_eq_getElem_cons hk]; exact hl.drop
        rw [List.pairwise_cons] at hp
        rcases List.mem_cons.1 hy with rfl | hy
        · omega
        · have := hp.1 y hy; omega
      · rw [List.drop_eq_nil_of_le (by omega)] at hy; simp at hy
    refine ⟨hl.take, ⟨hafter, hl.drop⟩, fun a ha b hb' => ?_⟩
    have h1 := hb a ha
    rcases List.mem_cons.1 hb' with rfl | hb'
    · exact h1
    · have := hafter b hb'; omega
def putAll (l : List Int) (xs : List Int) : List Int := xs.foldl putV l
theorem putAll_up : ∀ {xs l : List Int}, Up l → Up (putAll l xs)
  | [], _, h => h
  | x :: xs, l, h => putAll_up (xs := xs) (putV_up x h)
theorem putAll_mem : ∀ (xs l : List Int) (x : Int), x ∈ putAll l xs ↔ x ∈ l ∨ x ∈ xs
  | [], l, x => by simp [putAll]
  | y :: xs, l, x => by
    have := putAll_mem xs (putV l y) x
    unfold putAll at *
    rw [List.foldl_cons, this, putV_mem, List.mem_cons]
    constructor
    · rintro ((h | h) | h)
      · exact .inl h
      · exact .inr (.inl h)
      · exact .inr (.inr h)
    · rintro (h | h | h)
      · exact .inl (.inl h)
      · exact .inl (.inr h)
      · exact .inr h
theorem compact_mem (zs : List Int) (x : Int) : x ∈ compact zs ↔ x ∈ zs := by
  have hget : ∀ i, i < zs.length → zs.toArray[i]! = zs[i]! := fun i _ => by simp
  unfold compact compactUpTo
  simp only [List.mem_map, List.mem_filter, List.mem_range]
  constructor
  · rintro ⟨i, ⟨hi, _⟩, rfl⟩
    rw [hget i hi, getElem!_pos zs i hi]
    exact List.getElem_mem hi
  · intro hx
    -- the first place at which x stands
    have key : ∀ n, (h : n < zs.length) → zs[n] = x → ∃ i, (i < zs.length ∧ keeps zs.toArray i = true) ∧ zs.toArray[i]! = x := by
      intro n
      induction n with
      | zero => intro h e; exact ⟨0, ⟨h, by simp [keeps]⟩, by rw [hget 0 h, getElem!_pos zs 0 h, e]⟩
      | succ n ih =>
        intro h e
        by_cases hk : zs[n] = x
        · exact ih (by omega) hk
        · refine ⟨n + 1, ⟨h, ?_⟩, by rw [hget _ h, getElem!_pos zs _ h, e]⟩
          unfold keeps
          rw [show n + 1 - 1 = n by omega, hget _ h, hget n (by omega), getElem!_pos zs _ h, getElem!_pos zs n (by omega), e]
          simp
          exact fun h => hk h.symm
    obtain ⟨n, hn, e⟩ := List.getElem_of_mem hx
    exact key n hn e
theorem compact_up (zs : List Int) (h : zs.Pairwise (· ≤ ·)) : Up (compact zs) := by
  have hget : ∀ i, i < zs.length → zs.toArray[i]! = zs[i]! := fun i _ => by simp
  unfold compact compactUpTo Up
  rw [List.pairwise_map]
  have hr : ((List.range zs.length).filter (keeps zs.toArray)).Pairwise (· < ·) := List.Pairwise.filter _ List.pairwise_lt_range
  refine hr.imp_of_mem ?_
  intro i j hi hj hij
  simp only [List.mem_filter, List.mem_range] at hi hj
  have hk := hj.2
  unfold keeps at hk
  have h0 : ¬ j = 0 := by omega
  simp only [h0, false_or, decide_eq_true_eq] at hk
  rw [hget j hj.1, hget (j - 1) (by omega), getElem!_pos zs j hj.1, getElem!_pos zs (j - 1) (by omega)] at hk
  rw [hget i hi.1, hget j hj.1, getElem!_pos zs i hi.1, getElem!_pos zs j hj.1]
  rw [List.pairwise_iff_getElem] at h
  have h1 := h (j - 1) j (by omega) hj.1 (by omega)
  have h2 : zs[i] ≤ zs[j - 1] := by
    by_cases e : i = j - 1
    · simp [e]
    · exact h i (j - 1) hi.1 (by omega) (by omega)
  omega
def sortI (l : List Int) : List Int := l.mergeSort fun x y => decide (x ≤ y)
theorem sortI_len (l : List Int) : (sortI l).length = l.length := by simp [sortI]
theorem sortI_mem (l : List Int) (x : Int) : x ∈ sortI l ↔ x ∈ l := by simp [sortI]
theorem sortI_up (l : List Int) : (sortI l).Pairwise (· ≤ ·) := by
  have := List.pairwise_mergeSort (le := fun x y : Int => decide (x ≤ y)) (fun a b c h1 h2 => by simp at *; omega) (fun a b => by simp; omega) l
  exact this.imp fun h => by simpa using h
theorem compact_sort (l : List Int) : compact (sortI l) = putAll [] l := by
  refine up_ext (compact_up _ (sortI_up l)) (putAll_up List.Pairwise.nil) fun x => ?_
  rw [compact_mem, sortI_mem, putAll_mem]
  simp
abbrev SortS (R : Rel) : Prop := ∀ l : List Int, l.length ≤ 4194304 → R [.arr 0] [.arr 1 0 l.length (ints l)] (.tup []) [.arr 1 0 l.length (ints (sortI l))]
abbrev CompactS (R : Rel) : Prop := ∀ l : List Int, l.length ≤ 4194304 → R [.arr 0] [.arr 1 0 l.length (ints l)] (.sl 0 1 (compact l).length (ints (compact l))) [.dead]

def hurtF (w : World) (xs : List Logged) : List Int := (xs.filter (hurtL w)).map (·.fin)
def hurtEnds (w : World) : List Int := putAll [] (hurtF w w.log)
theorem hurtF_step {w : World} {xs : List Logged} {j : Nat} (h : j < xs.length) : hurtF w (xs.take (j + 1)) = hurtF w (xs.take j) ++ (if hurtL w xs[j] then [xs[j].fin] else []) := by
  unfold hurtF
  rw [filtE_step h]
  by_cases hp : hurtL w xs[j] = true <;> simp [hp]
theorem hurtF_all {w : World} {xs : List Logged} {j : Nat} (h : xs.length ≤ j) : hurtF w (xs.take j) = hurtF w xs := by rw [List.take_of_length_le h]
theorem hurtF_len {w : World} {xs : List Logged} {j : Nat} : (hurtF w (xs.take j)).length ≤ j := by
  unfold hurtF
  rw [List.length_map]
  exact filtE_len
theorem putAll_app (l xs : List Int) (y : Int) : putAll l (xs ++ [y]) = putV (putAll l xs) y := by unfold putAll; rw [List.foldl_append]; rfl
theorem putAll_len : ∀ (xs l : List Int), (putAll l xs).length ≤ l.length + xs.length
  | [], l => by simp [putAll]
  | x :: xs, l => by
    have h1 := putAll_len xs (putV l x)
    have h2 := putV_len l x
    unfold putAll at *
    simp only [List.foldl_cons, List.length_cons]
    omega
theorem hurt_len {w : World} (h : szWorld w ≤ 4194304) : (hurtEnds w).length ≤ 4194304 := by
  have h1 := putAll_len (hurtF w w.log) []
  have h2 := hurtF_len (w := w) (xs := w.log) (j := w.log.length)
  have h3 := world_log h
  rw [List.take_length] at h2
  simp only [List.length_nil, Nat.zero_add] at h1
  unfold hurtEnds
  omega
abbrev HurtEndsS (R : Rel) : Prop := ∀ w : World, szWorld w ≤ 4194304 → R [arg (eWorld w)] [] (.sl 0 1 (hurtEnds w).length (ints (hurtEnds w))) []
def rollAt (r : Rollout) (i : Nat) : Rollout := ⟨r.version, r.stages, i, r.off⟩
def mostTo (r : Rollout) (n : Int) : Nat → Int
  | 0 => 0
  | k + 1 => max (mostTo r n k) (countIn (rollAt r k) n)
def mostHurt (r : Rollout) (n s : Int) : Int := if isRollout r = true ∧ InQ s 1 r.stages.length then mostTo r n s.toNat else 0
abbrev MostHurtS (R : Rel) : Prop := ∀ (r : Rollout) (n s : Int), r.stages.length ≤ 4194304 → R [arg (eRollout r), I n, I s] [] (I (mostHurt r n s)) []
def rollOn (r : Rollout) : Rollout := ⟨r.version, r.stages, r.pos, false⟩
def isBounded (w : World) : Bool := decide (((hurtEnds w).length : Int) ≤ mostHurt (rollOn w.rollout) w.ends.length w.reached)
abbrev IsBoundedS (R : Rel) : Prop := ∀ w : World, szWorld w ≤ 4194304 → R [arg (eWorld w)] [] (B (isBounded w)) []
end Go.Eng.T

namespace Go.Eng.T
set_option maxRecDepth 20000

theorem world_stup {w : World} (h : szWorld w ≤ 4194304) : ∀ (j : Nat) (hj : j < w.stage.length), w.stage[j].up.length ≤ maxLen := by
  intro j hj
  have := size_at (f := szDialed) hj
  unfold szWorld at h
  have e : szDialed w.stage[j] = szDeal w.stage[j].deal + w.stage[j].up.length := rfl
  unfold maxLen; omega
def signalNow (w : World) : Int := signalOf (cntF (goodD w.rollout.version) w.stage) (cntF (badD w.rollout.version) w.stage) w.least w.percent
abbrev SignalNowS (R : Rel) : Prop := ∀ w : World, szWorld w ≤ 4194304 → R [arg (eWorld w)] [] (I (signalNow w)) []
end Go.Eng.T

namespace Go.Eng.T
set_option maxRecDepth 20000
set_option maxHeartbeats 2000000
def canNext (r : Rollout) : Bool := isRollout r && (!r.off && !decide (r.pos = (r.stages.length : Int) - 1))
def nextStage (r : Rollout) : Rollout × Bool := if canNext r = true then (⟨r.version, r.stages, r.pos + 1, r.off⟩, true) else (r, false)
abbrev NextStageS (R : Rel) : Prop := ∀ r : Rollout, szRollout r ≤ 4194304 → R [arg (eRollout r)] [] (.tup [.agg (eRollout (nextStage r).1), B (nextStage r).2]) []
def canBack (r : Rollout) : Bool := isRollout r && !r.off
def backStage (r : Rollout) : Rollout × Bool := if canBack r = true then (⟨r.version, r.stages, 0, true⟩, true) else (r, false)
abbrev BackStageS (R : Rel) : Prop := ∀ r : Rollout, szRollout r ≤ 4194304 → R [arg (eRollout r)] [] (.tup [.agg (eRollout (backStage r).1), B (backStage r).2]) []
def canAdd (l : List Int) (v : Int) : Bool := areVers l && (decide (InV v 1 9) && !decide (v ∈ l))
def addV (l : List Int) (v : Int) : List Int × Bool := if canAdd l v = true then (putV l v, true) else (l, false)
abbrev AddVersionS (R : Rel) : Prop := ∀ (l : List Int) (v : Int), l.length ≤ 4194304 → R [.sl 1 1 l.length (ints l), I v] [] (.tup [.sl 0 1 (addV l v).1.length (ints (addV l v).1), B (addV l v).2]) []
theorem up9 : ∀ {l : List Int} {a : Int}, Up l → (∀ x, x ∈ l → a < x ∧ x ≤ 9) → (l.length : Int) ≤ 9 - a ∨ l = []
  | [], _, _, _ => .inr rfl
  | x :: r, a, h, hb => by
    rw [Up, List.pairwise_cons] at h
    have h0 := hb x (by simp)
    have := up9 (l := r) (a := x) h.2 (fun y hy => ⟨h.1 y hy, (hb y (by simp [hy])).2⟩)
    left
    rcases this with h1 | rfl
    · simp only [List.length_cons]; omega
    · simp; omega
theorem vers_le9 {l : List Int} (h : areVers l = true) : l.length ≤ 9 := by
  have := up9 (l := l) (a := 0) (vers_pair h) (fun x hx => by have := vers_in h x hx; exact ⟨by omega, by omega⟩)
  rcases this with h1 | rfl
  · omega
  · simp
theorem up_le {l : List Int} (h : Up l) : l.Pairwise (· ≤ ·) := List.Pairwise.imp (fun h => by omega) h
theorem le_ext : ∀ {a b : List Int}, a.Pairwise (· ≤ ·) → b.Pairwise (· ≤ ·) → a.Perm b → a = b := fun ha hb h => List.Perm.eq_of_pairwise (le := fun x y : Int => x ≤ y) (fun a b _ _ h1 h2 => by omega) ha hb h
theorem sort_put {l : List Int} {v : Int} (h : areVers l = true) (hv : ¬ v ∈ l) : sortI (l ++ [v]) = putV l v := by
  have hup : Up l := vers_pair h
  refine le_ext (sortI_up _) (up_le (putV_up v hup)) ?_
  refine (List.mergeSort_perm _ _).trans ?_
  unfold putV
  rw [if_neg (fun e => hv (List.mem_of_getElem? e))]
  unfold insV
  have e : l = l.take (posV l v) ++ l.drop (posV l v) := (List.take_append_drop _ _).symm
  conv => lhs; rw [e]
  rw [List.append_assoc]
  exact List.Perm.append_left _ (List.perm_append_comm (l₁ := l.drop (posV l v)) (l₂ := [v]))
def stepRevive (w : World) (v : Int) : World × Bool := ({ w with server := (addV w.server v).1 }, (addV w.server v).2)
abbrev StepReviveS (R : Rel) : Prop := ∀ (w : World) (v : Int), szWorld w ≤ 4194304 → R [arg (eWorld w), I v] [] (.tup [.agg (eWorld (stepRevive w v).1), B (stepRevive w v).2]) []
theorem addV_no {l : List Int} {v : Int} (h : (addV l v).2 = false) : (addV l v).1 = l := by
  unfold addV at *
  split at h
  · cases h
  · rename_i hc; rw [if_neg hc]
theorem addV_len (l : List Int) (v : Int) : (addV l v).1.length ≤ l.length + 1 := by
  unfold addV
  split
  · exact putV_len l v
  · dsimp only; omega
theorem stepRevive_sz (w : World) (v : Int) : szWorld (stepRevive w v).1 ≤ szWorld w + 1 := by
  have := addV_len w.server v
  simp only [stepRevive, szWorld]
  omega
end Go.Eng.T

namespace Go.Eng.T
set_option maxRecDepth 20000
set_option maxHeartbeats 1000000
theorem swp_once {D : Dn} {c : Cf} {a : SC} {Q : Out → St → Prop} {s : St} (h : swp D c a (fun o s' => match o with | .normal => False | o => Q o s') s) : swp D c (.loop a) Q s := ⟨1, h⟩
def inB (t : Int) : Bool := decide (InR t 0 255)
def gaveT (b : List Int) (t : Int) : Bool := !decide (t ∈ b) && inB t
def givenUp (h x : Hello) : List Int := leftOf h.versions x.versions ++ ((tagsOf h.exts).filter (gaveT (tagsOf x.exts))).map (fun t => 1000 + t)
theorem gave_left (a b : List Int) : (leftOf a b).filter inB = a.filter (gaveT b) := by
  unfold leftOf
  rw [List.filter_filter]
  congr 1
  funext t
  unfold gaveT
  cases inB t <;> cases decide (t ∈ b) <;> rfl
abbrev GivenUpS (R : Rel) : Prop := ∀ h x : Hello, hB h → hB x → R [arg (eHello h), arg (eHello x)] [] (.sl 0 1 (givenUp h x).length (ints (givenUp h x))) []
theorem upto_step {p : Int → Bool} {a l : List Int} {j : Nat} (h : j < l.length) :
    a ++ ((l.take (j + 1)).filter p).map (fun t => 1000 + t) = (a ++ ((l.take j).filter p).map (fun t => 1000 + t)) ++ (if p l[j] then [1000 + l[j]] else []) := by
  rw [filt_step h, List.map_append, List.append_assoc]
  split <;> simp
theorem upto_len {p : Int → Bool} {a l : List Int} {j : Nat} : (a ++ ((l.take j).filter p).map (fun t => 1000 + t)).length ≤ a.length + j := by
  have := filt_len (p := p) (xs := l) (j := j)
  simp only [List.length_append, List.length_map]; omega
theorem sGivenUp_b (D : Dn) (hL : LeftS (D gspec_l21Left)) (hX : ExtOfS (D gspec_ExtOf)) (hI : InS (D gspec_l1In)) : GivenUpS (Body D sspec_GivenUp) := by
  intro h x hh hx
  have hxl := hx.2.1
  have hhl := hh.2.1
  have hvl := hh.1
  simp -implicitDefEqProofs
  refine callQ_of (hL h.versions x.versions hh.1 hx.1) ?_
  have hal := leftOf_len h.versions x.versions
  have e : givenUp h x = leftOf h.versions x.versions ++ ((tagsOf h.exts).filter (gaveT (tagsOf x.exts))).map (fun t => 1000 + t) := rfl
  rw [e]
  have hpd : ∀ t, gaveT (tagsOf x.exts) t = (!decide (t ∈ tagsOf x.exts) && inB t) := fun t => rfl
  generalize leftOf h.versions x.versions = a at hal
  generalize gaveT (tagsOf x.exts) = p at hpd
  have htl : (tagsOf h.exts).length = h.exts.length := tags_len _
  have hte : ∀ j (hj : j < h.exts.length), (tagsOf h.exts)[j]'(by omega) = h.exts[j].tag := fun j hj => by simp [tagsOf]
  obtain ⟨l, hl⟩ : ∃ l, l = tagsOf h.exts := ⟨_, rfl⟩
  rw [← hl] at htl ⊢
  simp -implicitDefEqProofs
  refine swp_loop (fun k s => ∃ j o3 o4, j + k = h.exts.length ∧ s = ⟨[.undef, .undef, .ptr 0 0, .ptr 1 0, .undef, .arr 5, I j, .undef, .undef], [.var ((eHello h).map (roCell 1)), .var ((eHello x).map (roCell 1)), .free, o3, o4, .arr 1 0 (a ++ ((l.take j).filter p).map (fun t => 1000 + t)).length (ints (a ++ ((l.take j).filter p).map (fun t => 1000 + t)))]⟩) ?_ (h.exts.length) _ ⟨0, .free, .free, by simp, by simp⟩
  intro k s ⟨j, o3, o4, hj, hs⟩
  subst hs
  by_cases hjn : j < h.exts.length
  · have hw : IntKind.i64.wrap ((j : Int) + 1) = (j + 1 : Nat) := by rw [wrap_id (by omega) (by omega)]; simp
    have hjl : j < l.length := by omega
    have hlt : l[j] = h.exts[j].tag := by subst hl; exact hte j hjn
    have hst := upto_step (p := p) (a := a) hjl
    have hfl := upto_len (p := p) (a := a) (l := l) (j := j)
    have hb1 : ((a ++ ((l.take j).filter p).map (fun t => 1000 + t)).length + 1) * 8 ≤ 1099511627776 := by omega
    have hpt := hpd l[j]
    rw [hlt] at hst hpt
    generalize a ++ ((l.take j).filter p).map (fun t => 1000 + t) = r at hst hfl hb1
    simp -implicitDefEqProofs [hjn]
    refine callQ_of (hX x.exts h.exts[j].tag (by unfold maxLen; omega)) ?_
    by_cases h1 : h.exts[j].tag ∈ tagsOf x.exts
    · have h3 : ¬ p h.exts[j].tag = true := by rw [hpt]; simp [h1]
      have h1' : ¬ extOf x.exts h.exts[j].tag < 0 := by rw [extOf_neg]; simpa using h1
      rw [if_neg h3, List.append_nil] at hst
      simp -implicitDefEqProofs [h1']
      have hsl := congrArg List.length hst
      simp only [List.length_append, List.length_map] at hsl
      exact ⟨k - 1, by omega, j + 1, by omega, by simp [hw], by omega, by rw [hst]⟩
    have h1' : extOf x.exts h.exts[j].tag < 0 := by rw [extOf_neg]; exact h1
    simp -implicitDefEqProofs [h1', hjn]
    refine callQ_of (hI _ _ _) ?_
    by_cases h2 : InR h.exts[j].tag 0 255
    · have h3 : p h.exts[j].tag = true := by rw [hpt]; simp [h1, inB, h2]
      rw [if_pos h3] at hst
      have hw2 : IntKind.i64.wrap (1000 + h.exts[j].tag) = 1000 + h.exts[j].tag := wrap_id (by have := h2.1; omega) (by have := h2.2; omega)
      simp -implicitDefEqProofs [h2, hjn, hb1, hw2]
      have hsl := congrArg List.length hst
      simp only [List.length_append, List.length_map, List.length_cons, List.length_nil] at hsl
      exact ⟨k - 1, by omega, j + 1, by omega, by simp [hw], by omega, by rw [hst]⟩
    · have h3 : ¬ p h.exts[j].tag = true := by rw [hpt]; simp [h1, inB, h2]
      rw [if_neg h3, List.append_nil] at hst
      simp -implicitDefEqProofs [h2]
      have hsl := congrArg List.length hst
      simp only [List.length_append, List.length_map] at hsl
      exact ⟨k - 1, by omega, j + 1, by omega, by simp [hw], by omega, by rw [hst]⟩
  · have e2 := filt_all (p := p) (xs := l) (j := j) (by omega)
    simp -implicitDefEqProofs [hjn, e2]
def noDeal : Deal := ⟨false, 0, []⟩
def dealOf (h seen : Hello) (vs tags : List Int) (key : Int) : Deal :=
  if (chooseAnswer vs tags seen).2 && (fitsHello h (chooseAnswer vs tags seen).1 && (!decide (finishOf key [helloBytes h, answerBytes (chooseAnswer vs tags seen).1] 1 = 0) &&
    decide (finishOf key [helloBytes h, answerBytes (chooseAnswer vs tags seen).1] 1 = finishOf key [helloBytes seen, answerBytes (chooseAnswer vs tags seen).1] 1)))
  then ⟨true, (chooseAnswer vs tags seen).1.version, tagsOf (chooseAnswer vs tags seen).1.exts⟩ else noDeal
theorem hello_len47 (h : Hello) : (helloBytes h).length ≤ 47 := by
  unfold helloBytes
  have := encExts_len h.exts
  split
  · rename_i hc
    have := vers_le9 (hello_ver hc)
    simp only [List.length_append, List.length_cons]; omega
  · simp
theorem sz_two (h : Hello) (a : Answer) : szRows [helloBytes h, answerBytes a] ≤ 4194304 := by
  have h1 := hello_len47 h
  have h2 := answerBytes_len a
  simp [szRows, sumF]
  omega
theorem exB_choose {vs tags : List Int} {h : Hello} (hh : hB h) : exB (chooseAnswer vs tags h).1.exts := by
  unfold chooseAnswer
  split
  · exact exB_kept (exB_kept hh.2 (fun t => decide (t ∈ tags))) (fun t => !isReserved t)
  · exact exB_nil
def dialOnce (h : Hello) (path : List Box) (vs tags : List Int) (key : Int) : Deal := if (passPath path h).2 = true then dealOf h (passPath path h).1 vs tags key else noDeal
abbrev DialOnceS (R : Rel) : Prop := ∀ (h : Hello) (path : List Box) (vs tags : List Int) (key : Int), hB h → lnS lnBox path → vs.length ≤ 4194304 → tags.length ≤ 4194304 →
  R [arg (eHello h), .sl 1 4 path.length (path.flatMap eBox), .sl 1 1 vs.length (ints vs), .sl 1 1 tags.length (ints tags), I key] [] (.agg (eDeal (dialOnce h path vs tags key))) []
theorem sDialOnce_b (D : Dn) (hP : PassPathS (D gspec_PassPath)) (hC : ChooseS (D gspec_ChooseAnswer)) (hFi : FitsHelloS (D gspec_FitsHello)) (hHB : HelloBytesS (D gspec_HelloBytes)) (hAB : AnswerBytesS (D gspec_AnswerBytes))
    (hF : FinishS (D gspec_FinishOf)) (hT : TagsOfS (D gspec_TagsOf)) : DialOnceS (Body D sspec_DialOnce) := by
  intro h path vs tags key hh hb hv ht
  simp -implicitDefEqProofs
  refine callQ_of (hP path h hb hh) ?_
  have hr := hB_passPath (path := path) hh
  unfold dialOnce
  generalize passPath path h = r at hr
  by_cases g1 : r.2 = true
  rotate_left
  · simp -implicitDefEqProofs [g1, noDeal]
  obtain ⟨seen, ok⟩ := r
  obtain rfl : ok = true := g1
  dsimp only at hr ⊢
  simp -implicitDefEqProofs
  refine callQ_of (hC vs tags seen hv ht hr) ?_
  have ha := exB_choose (vs := vs) (tags := tags) hr
  unfold dealOf
  generalize chooseAnswer vs tags seen = q at ha
  obtain ⟨a, fine⟩ := q
  dsimp only at ha ⊢
  by_cases g2 : fine = true
  rotate_left
  · simp -implicitDefEqProofs [g2, noDeal]
  simp -implicitDefEqProofs [g2]
  refine callQ_of (hFi h a hh ha) ?_
  by_cases g3 : fitsHello h a = true
  rotate_left
  · simp -implicitDefEqProofs [g3, noDeal]
  simp -implicitDefEqProofs [g3]
  refine callQ_of (hHB h hh) ?_
  simp -implicitDefEqProofs
  refine callQ_of (hAB a ha) ?_
  simp -implicitDefEqProofs
  have hf := hF key [helloBytes h, answerBytes a] 1 (sz_two h a)
  simp -implicitDefEqProofs [rowsA, rowsV] at hf
  refine callQ_of (hf) ?_
  generalize finishOf key [helloBytes h, answerBytes a] 1 = m
  by_cases g4 : m = 0
  · simp -implicitDefEqProofs [g4, noDeal]
  simp -implicitDefEqProofs [g4]
  refine callQ_of (hHB seen hr) ?_
  simp -implicitDefEqProofs [g4]
  refine callQ_of (hAB a ha) ?_
  simp -implicitDefEqProofs [g4]
  have hf2 := hF key [helloBytes seen, answerBytes a] 1 (sz_two seen a)
  simp -implicitDefEqProofs [rowsA, rowsV] at hf2
  refine callQ_of (hf2) ?_
  generalize finishOf key [helloBytes seen, answerBytes a] 1 = m2
  by_cases g5 : m = m2
  rotate_left
  · simp -implicitDefEqProofs [g4, g5, noDeal]
  subst g5
  simp -implicitDefEqProofs [g4]
  refine callQ_of (hT a.exts ha.1) ?_
  simp -implicitDefEqProofs [g4]
abbrev DealtS (R : Rel) : Prop := ∀ (h seen : Hello) (vs tags : List Int) (key : Int), hB h → hB seen → vs.length ≤ 4194304 → tags.length ≤ 4194304 →
  R [arg (eHello h), arg (eHello seen), .sl 1 1 vs.length (ints vs), .sl 1 1 tags.length (ints tags), I key, .sl 1 2 0 []] [] (.agg (eDeal (dealOf h seen vs tags key))) []
def dial (h : Hello) (path : List Box) (vs tags : List Int) (key : Int) : Dialed :=
  if (helloFor h path).2.2 = true then ⟨dialOnce (helloFor h path).1 path vs tags key, (helloFor h path).2.1, givenUp h (helloFor h path).1⟩ else ⟨noDeal, (helloFor h path).2.1, []⟩
abbrev DialS (R : Rel) : Prop := ∀ (h : Hello) (path : List Box) (vs tags : List Int) (key : Int), hB h → lnS lnBox path → vs.length ≤ 4194304 → tags.length ≤ 4194304 →
  R [arg (eHello h), .sl 1 4 path.length (path.flatMap eBox), .sl 1 1 vs.length (ints vs), .sl 1 1 tags.length (ints tags), I key] [] (.agg (eDialed (dial h path vs tags key))) []
theorem sDial_b (D : Dn) (hH : HelloForS (D gspec_HelloFor)) (hO : DialOnceS (D gspec_DialOnce)) (hG : GivenUpS (D gspec_GivenUp)) : DialS (Body D sspec_Dial) := by
  intro h path vs tags key hh hb hv ht
  simp -implicitDefEqProofs
  refine callQ_of (hH h path hh hb) ?_
  have hr := hB_hfor (path := path) hh
  unfold dial
  generalize helloFor h path = r at hr
  obtain ⟨x, n, ok⟩ := r
  dsimp only at hr ⊢
  by_cases g1 : ok = true
  rotate_left
  · simp -implicitDefEqProofs [g1, noDeal]
  simp -implicitDefEqProofs [g1]
  refine callQ_of (hO x path vs tags key hr hb hv ht) ?_
  simp -implicitDefEqProofs
  refine callQ_of (hG h x hh hr) ?_
  simp -implicitDefEqProofs [g1]
end Go.Eng.T

namespace Go.Eng.T
set_option maxRecDepth 20000
set_option maxHeartbeats 1000000
theorem hollow_part {l : List Ext} {k : Nat} (h : k ≤ l.length) : part (hollow (l.flatMap eExt) 2 0 k) 2 k (l.length - k) = (l.drop k).flatMap eExt := by
  have h0 : (l.flatMap eExt).length = l.length * 2 := eExt_flen l
  have e1 : l.flatMap eExt = (l.take k).flatMap eExt ++ (l.drop k).flatMap eExt := by rw [← List.flatMap_append, List.take_append_drop]
  have h1 : ((l.take k).flatMap eExt).length = k * 2 := by rw [eExt_flen]; simp; omega
  have h2 : ((l.drop k).flatMap eExt).length = (l.length - k) * 2 := by rw [eExt_flen]; simp
  unfold part hollow
  rw [e1]
  simp only [Nat.zero_mul, List.take_zero, List.nil_append, Nat.zero_add]
  rw [List.drop_left' h1, List.drop_left' (by simp), List.take_of_length_le (by omega)]
theorem part_take {l : List Ext} {k : Nat} (h : k ≤ l.length) : part (l.flatMap eExt) 2 0 k = (l.take k).flatMap eExt := by
  have e1 : l.flatMap eExt = (l.take k).flatMap eExt ++ (l.drop k).flatMap eExt := by rw [← List.flatMap_append, List.take_append_drop]
  have h1 : ((l.take k).flatMap eExt).length = k * 2 := by rw [eExt_flen]; simp; omega
  unfold part
  rw [e1, Nat.zero_mul, List.drop_zero, List.take_left' h1]
def gBody (seed : Int) : List Int := List.replicate (pick seed 2 3).toNat (pick seed 3 256)
def gPos (l : List Ext) (seed : Int) : Nat := (pick seed 1 (l.length + 1)).toNat
def addGrease (l : List Ext) (seed : Int) : List Ext :=
  if areExts l && (decide (l.length < 6) && !decide (greaseTag seed ∈ tagsOf l)) then l.take (gPos l seed) ++ ⟨greaseTag seed, gBody seed⟩ :: l.drop (gPos l seed) else l
theorem gPos_le (l : List Ext) (seed : Int) (h : l.length ≤ 6) : gPos l seed ≤ l.length := by
  have := pick_bd seed 1 (n := l.length + 1) ⟨by omega, by omega⟩
  unfold gPos; omega
theorem gBody_le (seed : Int) : (gBody seed).length ≤ 2 := by
  have := pick_bd seed 2 (n := 3) ⟨by omega, by omega⟩
  unfold gBody; simp; omega
abbrev AddGreaseS (R : Rel) : Prop := ∀ (l : List Ext) (seed : Int), exB l → R [.sl 1 2 l.length (l.flatMap eExt), I seed] [] (.sl 0 2 (addGrease l seed).length ((addGrease l seed).flatMap eExt)) []
theorem sAddGrease_b (D : Dn) (hG : GreaseTagS (D gspec_GreaseTag)) (hC : cpExtsS (D gspec_l11Copy)) (hA : AreExtsS (D gspec_AreExts)) (hX : ExtOfS (D gspec_ExtOf)) (hP : PickS (D gspec_PickOf)) : AddGreaseS (Body D sspec_AddGrease) := by
  intro l seed hl
  have hll := hl.1
  simp -implicitDefEqProofs
  refine callQ_of (hG seed) ?_
  obtain ⟨t, ht⟩ : ∃ t, t = greaseTag seed := ⟨_, rfl⟩
  rw [← ht]
  simp -implicitDefEqProofs
  refine callQ_of (hC l hl) ?_
  simp -implicitDefEqProofs
  refine callQ_of (hA l hl) ?_
  by_cases h1 : areExts l = true
  rotate_left
  · simp -implicitDefEqProofs [h1, addGrease]
  by_cases h2 : l.length < 6
  rotate_left
  · have h2' : (6 : Int) ≤ l.length := by omega
    simp -implicitDefEqProofs [h1, h2, h2', addGrease]
  have h2' : ¬ (6 : Int) ≤ l.length := by omega
  simp -implicitDefEqProofs [h1, h2']
  refine callQ_of (hX l t (by unfold maxLen; omega)) ?_
  by_cases h3 : t ∈ tagsOf l
  · have h3' : 0 ≤ extOf l t := by
      by_cases h : extOf l t < 0
      · rw [extOf_neg] at h; exact absurd h3 h
      · omega
    simp -implicitDefEqProofs [h1, h2, h3', h3, addGrease, ← ht]
  have h3' : ¬ 0 ≤ extOf l t := by
    have : extOf l t < 0 := by rw [extOf_neg]; exact h3
    omega
  have e : addGrease l seed = l.take (gPos l seed) ++ ⟨t, gBody seed⟩ :: l.drop (gPos l seed) := by
    unfold addGrease
    rw [if_pos]
    · rw [ht]
    · simp [h1, h2, ← ht, h3]
  have hgp := gPos_le l seed (by omega)
  have hgb := gBody_le seed
  rw [e]
  simp -implicitDefEqProofs [h3']
  refine callQ_of (hP seed 2 3) ?_
  have hp2 := pick_bd seed 2 (n := 3) ⟨by omega, by omega⟩
  have eb : gBody seed = List.replicate (pick seed 2 3).toNat (pick seed 3 256) := rfl
  obtain ⟨n, hn⟩ : ∃ n : Nat, pick seed 2 3 = n := ⟨(pick seed 2 3).toNat, by omega⟩
  rw [hn] at eb hp2 ⊢
  rw [Int.toNat_natCast] at eb
  rw [eb] at hgb ⊢
  generalize hv : pick seed 3 256 = v at *
  simp -implicitDefEqProofs
  refine swp_loop (fun k s => ∃ j o2 o3, j + k = n ∧ s = ⟨[.sl 1 2 l.length (l.flatMap eExt), I seed, .undef, .undef, .arr 0, .ptr 1 0, I k, .undef, .undef, .undef], [.arr 2 0 l.length (l.flatMap eExt), .var [I t, .arr 9], o2, o3, .free, .free, .free, .free, .free, .arr 1 0 j (ints (List.replicate j v))]⟩) ?_ (n) _ ⟨0, .free, .free, by simp, by simp [ints]⟩
  intro k s ⟨j, o2, o3, hj, hs⟩
  subst hs
  by_cases hjn : j < n
  · have hk0 : 0 < k := by omega
    have hb1 : (j + 1) * 8 ≤ 1099511627776 := by omega
    have hwk : IntKind.i64.wrap ((k : Int) - 1) = (k - 1 : Nat) := by rw [wrap_id (by omega) (by omega)]; omega
    simp -implicitDefEqProofs [hk0]
    refine callQ_of (hP seed 3 256) ?_
    rw [hv]
    simp -implicitDefEqProofs [hb1]
    exact ⟨k - 1, by omega, j + 1, by omega, by simp [hwk], by simp [ints, List.replicate_succ']⟩
  have hk0 : k = 0 := by omega
  obtain rfl : j = n := by omega
  subst hk0
  have hwl : IntKind.i64.wrap ((l.length : Int) + 1) = (l.length : Int) + 1 := wrap_id (by omega) (by omega)
  simp -implicitDefEqProofs [hwl]
  refine callQ_of (hP seed 1 (l.length + 1)) ?_
  have hp1 := pick_bd seed 1 (n := (l.length : Int) + 1) ⟨by omega, by omega⟩
  have eg : gPos l seed = (pick seed 1 (l.length + 1)).toNat := rfl
  generalize pick seed 1 (l.length + 1) = k1 at hp1 eg
  obtain ⟨kk, rfl⟩ : ∃ kk : Nat, k1 = kk := ⟨k1.toNat, by omega⟩
  rw [Int.toNat_natCast] at eg
  rw [eg] at hgp ⊢
  have hk1 : (kk : Int) ≤ l.length := by omega
  have hb2 : kk * 32 ≤ 1099511627776 := by omega
  have hb3 : (kk + 1) * 32 ≤ 1099511627776 := by omega
  have hb4 : (kk + 1 + (l.length - kk)) * 32 ≤ 1099511627776 := by omega
  simp -implicitDefEqProofs [hk1, hgp, hb2, hb3, hb4, hollow_part hgp, part_take hgp]
  all_goals omega
theorem exB_grease {l : List Ext} (hl : exB l) (h6 : l.length ≤ 4194303) (seed : Int) : exB (addGrease l seed) := by
  unfold addGrease
  split
  · refine ⟨?_, ?_⟩
    · simp; omega
    · intro x hx
      rcases List.mem_append.1 hx with h | h
      · exact hl.2 x (List.mem_of_mem_take h)
      · rcases List.mem_cons.1 h with h | h
        · subst h; have := gBody_le seed; dsimp only; omega
        · exact hl.2 x (List.mem_of_mem_drop h)
  · exact hl
def bare (ts : List Int) : List Ext := ts.map fun t => ⟨t, []⟩
theorem bare_len (ts : List Int) : (bare ts).length = ts.length := by simp [bare]
theorem exB_bare {ts : List Int} (h : ts.length ≤ 4194304) : exB (bare ts) := ⟨by rw [bare_len]; exact h, fun x hx => by
  obtain ⟨t, _, rfl⟩ := List.mem_map.1 hx; simp⟩
theorem bare_step {ts : List Int} {j : Nat} (h : j < ts.length) : (bare (ts.take j)).flatMap eExt ++ [.sc (.int .i64 ts[j]), .sl 0 1 0 []] = (bare (ts.take (j + 1))).flatMap eExt := by
  have e : ts.take (j + 1) = ts.take j ++ [ts[j]] := by simp
  rw [e]
  unfold bare
  rw [List.map_append, List.flatMap_append]
  rfl
def helloOf (e : Endpoint) (seed : Int) : Hello := if isEndpoint e = true then ⟨e.versions, addGrease (bare e.tags) seed⟩ else noHello
abbrev HelloOfS (R : Rel) : Prop := ∀ (e : Endpoint) (seed : Int), szEndpoint e ≤ 4194304 → R [arg (eEndpoint e), I seed] [] (.agg (eHello (helloOf e seed))) []
theorem endp_tags5 {e : Endpoint} (h : isEndpoint e = true) : e.tags.length ≤ 5 := by
  unfold isEndpoint at h
  simp only [Bool.and_eq_true, decide_eq_true_eq] at h
  exact h.2.1
theorem hB_helloOf {e : Endpoint} (hsz : szEndpoint e ≤ 4194304) (seed : Int) : hB (helloOf e seed) := by
  unfold helloOf
  split
  · rename_i h
    have := endp_tags5 h
    exact ⟨endp_vers hsz, exB_grease (exB_bare (by omega)) (by rw [bare_len]; omega) seed⟩
  · exact hB_no
theorem sHelloOf_b (D : Dn) (hE : IsEndpointS (D gspec_IsEndpoint)) (hG : AddGreaseS (D gspec_AddGrease)) : HelloOfS (Body D sspec_HelloOf) := by
  intro e seed hsz
  have hl := ln_end hsz
  have hv := endp_vers hsz
  simp -implicitDefEqProofs
  refine callQ_of (hE e hl) ?_
  by_cases h1 : isEndpoint e = true
  rotate_left
  · simp -implicitDefEqProofs [h1, helloOf, noHello]
  have h5 := endp_tags5 h1
  have he : helloOf e seed = ⟨e.versions, addGrease (bare e.tags) seed⟩ := by unfold helloOf; rw [if_pos h1]
  rw [he]
  have hb2 : e.versions.length * 8 ≤ 1099511627776 := by omega
  simp -implicitDefEqProofs [h1]
  refine swp_loop (fun k s => ∃ j o3 o4, j + k = e.tags.length ∧ s = ⟨[.undef, I seed, .ptr 0 0, .ptr 1 0, .arr 8, I j, .undef, .undef], [.var ((eEndpoint e).map (roCell 1)), .var [.nil 1, .nil 2], .free, o3, o4, .free, .free, .free, .arr 2 0 j ((bare (e.tags.take j)).flatMap eExt)]⟩) ?_ (e.tags.length) _ ⟨0, .free, .free, by simp, by simp [bare]⟩
  intro k s ⟨j, o3, o4, hj, hs⟩
  subst hs
  by_cases hjn : j < e.tags.length
  · have hw : IntKind.i64.wrap ((j : Int) + 1) = (j + 1 : Nat) := by rw [wrap_id (by omega) (by omega)]; simp
    have hst := bare_step hjn
    have hb1 : (j + 1) * 32 ≤ 1099511627776 := by omega
    have hlen : (bare (e.tags.take j)).length = j := by rw [bare_len]; simp; omega
    have hlen2 : (bare (e.tags.take (j + 1))).length = j + 1 := by rw [bare_len]; simp; omega
    simp -implicitDefEqProofs [hjn, hb1]
    exact ⟨k - 1, by omega, j + 1, by omega, by simp [hw], by rw [← hst]; exact ⟨rfl, rfl⟩⟩
  have e2 : e.tags.take j = e.tags := List.take_of_length_le (by omega)
  obtain rfl : j = e.tags.length := by omega
  simp -implicitDefEqProofs [hjn, e2, hb2]
  have hq := hG (bare e.tags) seed (exB_bare (by omega))
  rw [bare_len] at hq
  refine callQ_of (hq) ?_
  simp -implicitDefEqProofs
def noDialed : Dialed := ⟨noDeal, 0, []⟩
def endDial (e : Endpoint) (vs tags : List Int) (key seed : Int) : Dialed := if isEndpoint e = true then dial (helloOf e seed) e.path vs tags key else noDialed
abbrev EndDialS (R : Rel) : Prop := ∀ (e : Endpoint) (vs tags : List Int) (key seed : Int), szEndpoint e ≤ 4194304 → vs.length ≤ 4194304 → tags.length ≤ 4194304 →
  R [arg (eEndpoint e), .sl 1 1 vs.length (ints vs), .sl 1 1 tags.length (ints tags), I key, I seed] [] (.agg (eDialed (endDial e vs tags key seed))) []
theorem sEndDial_b (D : Dn) (hE : IsEndpointS (D gspec_IsEndpoint)) (hH : HelloOfS (D gspec_HelloOf)) (hD : DialS (D gspec_Dial)) : EndDialS (Body D sspec_EndDial) := by
  intro e vs tags key seed hsz hv ht
  have hl := ln_end hsz
  simp -implicitDefEqProofs
  refine callQ_of (hE e hl) ?_
  by_cases h1 : isEndpoint e = true
  rotate_left
  · simp -implicitDefEqProofs [h1, endDial, noDialed, noDeal]
  simp -implicitDefEqProofs [h1]
  refine callQ_of (hH e seed hsz) ?_
  have hh := hB_helloOf hsz seed
  have he : endDial e vs tags key seed = dial (helloOf e seed) e.path vs tags key := by unfold endDial; rw [if_pos h1]
  rw [he]
  generalize helloOf e seed = h at hh
  simp -implicitDefEqProofs
  refine callQ_of (hD h e.path vs tags key hh hl.2.2 hv ht) ?_
  simp -implicitDefEqProofs
def clip (n : Int) : Int := max (-100000) (min 100000 n)
abbrev ClipS (R : Rel) : Prop := ∀ n : Int, R [I n] [] (I (clip n)) []
def dialOf (w : World) (i : Int) : Dialed := if InQ i 0 ((w.ends.length : Int) - 1) then (match w.ends[i.toNat]? with | some e => endDial e w.server w.tags w.key (16 * clip w.now + i) | none => noDialed) else noDialed
abbrev DialOfS (R : Rel) : Prop := ∀ (w : World) (i : Int), szWorld w ≤ 4194304 → R [arg (eWorld w), I i] [] (.agg (eDialed (dialOf w i))) []
theorem clip_bd (n : Int) : -100000 ≤ clip n ∧ clip n ≤ 100000 := by unfold clip; omega
end Go.Eng.T

