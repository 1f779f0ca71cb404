/- Own work: part 43 of the proof of FnExactCountKind. -/
import Derived.Test.YtlleegglgebhbaaEngAP
namespace Go.Eng.T
def slaws_FnExactCountKind_r0 : Reg :=
  { id := 0, ops := [{ op := .mv (.con (.sc (.bool false))) }], clr := [2] }
def slaws_FnExactCountKind_r1 : Reg :=
  { id := 1, ops := [{ op := .mv (.con (.sc (.int .i64 1048576))) }], sets := [(3, 0)] }
def slaws_FnExactCountKind_r2 : Reg :=
  { id := 2, ops := [{ op := .mv (.slot 0) },
      { op := .mv (.slot 3) },
      { op := .call 380 [(false, .loc 0), (false, .loc 1)] [] },
      { op := .mv (.loc 2) }], sets := [(3, 3)] }
def slaws_FnExactCountKind_r3 : Reg :=
  { id := 3, ops := [{ op := .mv (.slot 3) },
      { op := .bin .lss (.loc 0) (.con (.sc (.int .i64 0))) }], sets := [(7, 1)], clr := [3] }
def slaws_FnExactCountKind_r4 : Reg :=
  { id := 4, ops := [{ op := .mv (.con (.sc (.bool true))) }], sets := [(2, 0)], clr := [0, 1] }
def slaws_FnExactCountKind_r5 : Reg :=
  { id := 5, ops := [{ op := .mv (.slot 0) },
      { op := .call 381 [(false, .loc 0)] [0] },
      { op := .mv (.slot 1) },
      { op := .call 382 [(false, .loc 1), (false, .loc 2)] [] },
      { op := .mv (.loc 3) }], sets := [(4, 4)] }
def slaws_FnExactCountKind_r6 : Reg :=
  { id := 6, ops := [{ op := .mv (.slot 0) },
      { op := .call 381 [(false, .loc 0)] [1] },
      { op := .mv (.loc 1) }], sets := [(5, 2)] }
def slaws_FnExactCountKind_r7 : Reg :=
  { id := 7, ops := [{ op := .mv (.slot 5) },
      { op := .mv (.slot 1) },
      { op := .call 383 [(false, .loc 0), (false, .loc 1)] [] },
      { op := .mv (.loc 2) }], sets := [(6, 3)], clr := [1] }
def slaws_FnExactCountKind_r8 : Reg :=
  { id := 8, ops := [{ op := .mv (.slot 6) },
      { op := .mv (.slot 4) },
      { op := .bin .neq (.loc 0) (.loc 1) }], sets := [(8, 2)], clr := [4, 6] }
def slaws_FnExactCountKind_r9 : Reg :=
  { id := 9, ops := [{ op := .mv (.con (.sc (.bool false))) }], sets := [(2, 0)], clr := [0, 5] }
def slaws_FnExactCountKind_r10 : Reg :=
  { id := 10, ops := [{ op := .mv (.slot 5) },
      { op := .mv (.slot 0) },
      { op := .call 381 [(false, .loc 1)] [2] },
      { op := .call 384 [(false, .loc 0), (false, .loc 2)] [] },
      { op := .un .not (.loc 3) }], sets := [(9, 4)], clr := [0, 5] }
def slaws_FnExactCountKind_r11 : Reg :=
  { id := 11, ops := [{ op := .mv (.con (.sc (.bool false))) }], sets := [(2, 0)] }
def slaws_FnExactCountKind_r12 : Reg :=
  { id := 12, ops := [{ op := .mv (.con (.sc (.bool true))) }], sets := [(2, 0)] }
def slaws_FnExactCountKind_b : SC := .seq (.reg slaws_FnExactCountKind_r0) (.seq (.reg slaws_FnExactCountKind_r1) (.seq (.reg slaws_FnExactCountKind_r2) (.seq (.seq (.reg slaws_FnExactCountKind_r3) (.cond 7 (.seq (.reg slaws_FnExactCountKind_r4) (.ret)) (.skip))) (.seq (.reg slaws_FnExactCountKind_r5) (.seq (.reg slaws_FnExactCountKind_r6) (.seq (.reg slaws_FnExactCountKind_r7) (.seq (.seq (.reg slaws_FnExactCountKind_r8) (.cond 8 (.seq (.reg slaws_FnExactCountKind_r9) (.ret)) (.skip))) (.seq (.seq (.reg slaws_FnExactCountKind_r10) (.cond 9 (.seq (.reg slaws_FnExactCountKind_r11) (.ret)) (.skip))) (.seq (.reg slaws_FnExactCountKind_r12) (.ret))))))))))
def slaws_FnExactCountKind : SFn := { nslots := 10, nobjs := 3, params := [0, 1], ngiven := 0, bor := false, takes := [], body := slaws_FnExactCountKind_b, results := [.slot 2] }
def slaws_FnExactCountKind_t : List Tmp := [0, 1, 4, 5, 6, 7, 8, 13, 25, 30]
attribute [simp] slaws_FnExactCountKind_r0 slaws_FnExactCountKind_r1 slaws_FnExactCountKind_r2 slaws_FnExactCountKind_r3 slaws_FnExactCountKind_r4 slaws_FnExactCountKind_r5 slaws_FnExactCountKind_r6 slaws_FnExactCountKind_r7 slaws_FnExactCountKind_r8 slaws_FnExactCountKind_r9 slaws_FnExactCountKind_r10 slaws_FnExactCountKind_r11 slaws_FnExactCountKind_r12 slaws_FnExactCountKind_b slaws_FnExactCountKind
def slaws_szEventS_r0 : Reg :=
  { id := 0, ops := [{ op := .mv (.con (.sc (.int .i64 0))) }], clr := [2] }
def slaws_szEventS_r1 : Reg :=
  { id := 1, ops := [{ op := .mv (.slot 1) },
      { op := .mv (.slot 0) },
      { op := .len false (.loc 1) },
      { op := .bin .sub (.loc 0) (.loc 2) },
      { op := .mv (.loc 3) }], sets := [(1, 4)] }
def slaws_szEventS_r2 : Reg :=
  { id := 2, ops := [{ op := .mv (.slot 1) },
      { op := .bin .lss (.loc 0) (.con (.sc (.int .i64 0))) }], sets := [(4, 1)] }
def slaws_szEventS_r3 : Reg :=
  { id := 3, ops := [{ op := .mv (.con (.sc (.int .i64 (-1)))) }], sets := [(2, 0)], clr := [0, 1] }
def slaws_szEventS_r4 : Reg :=
  { id := 4, ops := [{ op := .mv (.con (.sc (.int .i64 0))) }], sets := [(3, 0)] }
def slaws_szEventS_r5 : Reg :=
  { id := 5, ops := [{ op := .mv (.slot 3) },
      { op := .mv (.slot 0) },
      { op := .len false (.loc 1) },
      { op := .bin .lss (.loc 0) (.loc 2) }], sets := [(5, 3)] }
def slaws_szEventS_r6 : Reg :=
  { id := 7, ops := [{ op := .mv (.slot 0) },
      { op := .mv (.slot 3) },
      { op := .indexAddr 6 (.loc 0) (.loc 1) },
      { op := .load (some 6) (.loc 2) },
      { op := .mv (.slot 1) },
      { op := .call 386 [(false, .loc 3), (false, .loc 4)] [] },
      { op := .mv (.loc 5) }], sets := [(1, 6)] }
def slaws_szEventS_r7 : Reg :=
  { id := 8, ops := [{ op := .mv (.slot 1) },
      { op := .bin .lss (.loc 0) (.con (.sc (.int .i64 0))) }], sets := [(6, 1)] }
def slaws_szEventS_r8 : Reg :=
  { id := 9, ops := [{ op := .mv (.con (.sc (.int .i64 (-1)))) }], sets := [(2, 0)], clr := [0, 1, 3] }
def slaws_szEventS_r9 : Reg :=
  { id := 6, ops := [{ op := .mv (.slot 3) },
      { op := .bin .add (.loc 0) (.con (.sc (.int .i64 1))) },
      { op := .mv (.loc 1) }], sets := [(3, 2)] }
def slaws_szEventS_r10 : Reg :=
  { id := 10, ops := [{ op := .mv (.slot 1) },
      { op := .mv (.loc 0) }], sets := [(2, 1)], clr := [0, 1, 3] }
def slaws_szEventS_b : SC := .seq (.reg slaws_szEventS_r0) (.seq (.reg slaws_szEventS_r1) (.seq (.seq (.reg slaws_szEventS_r2) (.cond 4 (.seq (.reg slaws_szEventS_r3) (.ret)) (.skip))) (.seq (.seq (.reg slaws_szEventS_r4) (.block 0 (.loop (.seq (.seq (.reg slaws_szEventS_r5) (.cond 5 (.skip) (.exit 0))) (.seq (.block 1 (.seq (.reg slaws_szEventS_r6) (.seq (.reg slaws_szEventS_r7) (.cond 6 (.seq (.reg slaws_szEventS_r8) (.ret)) (.skip))))) (.reg slaws_szEventS_r9)))))) (.seq (.reg slaws_szEventS_r10) (.ret)))))
def slaws_szEventS : SFn := { nslots := 7, nobjs := 0, params := [0, 1], ngiven := 0, bor := false, takes := [], body := slaws_szEventS_b, results := [.slot 2] }
def slaws_szEventS_t : List Tmp := [0, 1, 4, 5, 11, 15, 25]
attribute [simp] slaws_szEventS_r0 slaws_szEventS_r1 slaws_szEventS_r2 slaws_szEventS_r3 slaws_szEventS_r4 slaws_szEventS_r5 slaws_szEventS_r6 slaws_szEventS_r7 slaws_szEventS_r8 slaws_szEventS_r9 slaws_szEventS_r10 slaws_szEventS_b slaws_szEventS
def sspec_CountKind_r0 : Reg :=
  { id := 0, ops := [{ op := .mv (.con (.sc (.int .i64 0))) }], clr := [2] }
def sspec_CountKind_r1 : Reg :=
  { id := 1, ops := [{ op := .mv (.con (.sc (.int .i64 0))) }], sets := [(3, 0)] }
def sspec_CountKind_r2 : Reg :=
  { id := 2, ops := [{ op := .mv (.con (.sc (.int .i64 0))) }], sets := [(4, 0)] }
def sspec_CountKind_r3 : Reg :=
  { id := 3, ops := [{ op := .mv (.slot 4) },
      { op := .mv (.slot 0) },
      { op := .len false (.loc 1) },
      { op := .bin .lss (.loc 0) (.loc 2) }], sets := [(5, 3)] }
def sspec_CountKind_r4 : Reg :=
  { id := 5, ops := [{ op := .mv (.slot 0) },
      { op := .mv (.slot 4) },
      { op := .indexAddr 6 (.loc 0) (.loc 1) },
      { op := .fieldAddr (.loc 2) 0 },
      { op := .load none (.loc 3) },
      { op := .mv (.slot 1) },
      { op := .bin .eql (.loc 4) (.loc 5) }], sets := [(6, 6)] }
def sspec_CountKind_r5 : Reg :=
  { id := 6, ops := [{ op := .mv (.slot 3) },
      { op := .bin .add (.loc 0) (.con (.sc (.int .i64 1))) },
      { op := .mv (.loc 1) }], sets := [(3, 2)] }
def sspec_CountKind_r6 : Reg :=
  { id := 4, ops := [{ op := .mv (.slot 4) },
      { op := .bin .add (.loc 0) (.con (.sc (.int .i64 1))) },
      { op := .mv (.loc 1) }], sets := [(4, 2)] }
def sspec_CountKind_r7 : Reg :=
  { id := 7, ops := [{ op := .mv (.slot 3) },
      { op := .mv (.loc 0) }], sets := [(2, 1)], clr := [0, 1, 3, 4] }
def sspec_CountKind_b : SC := .seq (.reg sspec_CountKind_r0) (.seq (.reg sspec_CountKind_r1) (.seq (.seq (.reg sspec_CountKind_r2) (.block 0 (.loop (.seq (.seq (.reg sspec_CountKind_r3) (.cond 5 (.skip) (.exit 0))) (.seq (.block 1 (.seq (.reg sspec_CountKind_r4) (.cond 6 (.reg sspec_CountKind_r5) (.skip)))) (.reg sspec_CountKind_r6)))))) (.seq (.reg sspec_CountKind_r7) (.ret))))
def sspec_CountKind : SFn := { nslots := 7, nobjs := 0, params := [0, 1], ngiven := 0, bor := false, takes := [], body := sspec_CountKind_b, results := [.slot 2] }
def sspec_CountKind_t : List Tmp := [0, 1, 4, 5, 6, 10, 19]
attribute [simp] sspec_CountKind_r0 sspec_CountKind_r1 sspec_CountKind_r2 sspec_CountKind_r3 sspec_CountKind_r4 sspec_CountKind_r5 sspec_CountKind_r6 sspec_CountKind_r7 sspec_CountKind_b sspec_CountKind
def slaws_toEventS_r0 : Reg :=
  { id := 0, ops := [{ op := .mv (.con (.nil 6)) }], clr := [1] }
def slaws_toEventS_r1 : Reg :=
  { id := 1, ops := [{ op := .mv (.slot 0) },
      { op := .len false (.loc 0) },
      { op := .makeSlice 0 6 80 [.sc (.int .i64 0), .sc (.int .i64 0), .sc (.int .i64 0), .sl 0 1 0 [], .sl 0 1 0 [], .sc (.bool false)] (.loc 1) },
      { op := .mv (.loc 2) }], sets := [(2, 3)] }
def slaws_toEventS_r2 : Reg :=
  { id := 2, ops := [{ op := .mv (.con (.sc (.int .i64 0))) }], sets := [(3, 0)] }
def slaws_toEventS_r3 : Reg :=
  { id := 3, ops := [{ op := .mv (.slot 3) },
      { op := .mv (.slot 0) },
      { op := .len false (.loc 1) },
      { op := .bin .lss (.loc 0) (.loc 2) }], sets := [(4, 3)] }
def slaws_toEventS_r4 : Reg :=
  { id := 5, fresh := [1, 2], ops := [{ op := .mv (.slot 2) },
      { op := .mv (.slot 3) },
      { op := .mv (.slot 0) },
      { op := .mv (.slot 3) },
      { op := .indexAddr 6 (.loc 2) (.loc 3) },
      { op := .load (some 6) (.loc 4) },
      { op := .call 387 [(false, .loc 5)] [1, 2] },
      { op := .indexAddr 6 (.loc 0) (.loc 1) },
      { op := .store 6 (.loc 7) (.loc 6) }] }
def slaws_toEventS_r5 : Reg :=
  { id := 4, ops := [{ op := .mv (.slot 3) },
      { op := .bin .add (.loc 0) (.con (.sc (.int .i64 1))) },
      { op := .mv (.loc 1) }], sets := [(3, 2)] }
def slaws_toEventS_r6 : Reg :=
  { id := 6, ops := [{ op := .mv (.slot 2) },
      { op := .mv (.loc 0) }], sets := [(1, 1)], clr := [0, 2, 3] }
def slaws_toEventS_b : SC := .seq (.reg slaws_toEventS_r0) (.seq (.reg slaws_toEventS_r1) (.seq (.seq (.reg slaws_toEventS_r2) (.block 0 (.loop (.seq (.seq (.reg slaws_toEventS_r3) (.cond 4 (.skip) (.exit 0))) (.seq (.block 1 (.reg slaws_toEventS_r4)) (.reg slaws_toEventS_r5)))))) (.seq (.reg slaws_toEventS_r6) (.ret))))
def slaws_toEventS : SFn := { nslots := 5, nobjs := 3, params := [0], ngiven := 0, bor := false, takes := [], body := slaws_toEventS_b, results := [.slot 1] }
def slaws_toEventS_t : List Tmp := [0, 2, 3, 4, 11]
attribute [simp] slaws_toEventS_r0 slaws_toEventS_r1 slaws_toEventS_r2 slaws_toEventS_r3 slaws_toEventS_r4 slaws_toEventS_r5 slaws_toEventS_r6 slaws_toEventS_b slaws_toEventS
def simpl_CountKind_r0 : Reg :=
  { id := 0, ops := [{ op := .mv (.con (.sc (.int .i64 0))) }], clr := [2] }
def simpl_CountKind_r1 : Reg :=
  { id := 1, ops := [{ op := .mv (.con (.sc (.int .i64 0))) }], sets := [(3, 0)] }
def simpl_CountKind_r2 : Reg :=
  { id := 2, ops := [{ op := .mv (.slot 0) },
      { op := .len false (.loc 0) },
      { op := .mv (.con (.sc (.int .i64 0))) }], sets := [(5, 0), (6, 1), (7, 2)], clr := [0] }
def simpl_CountKind_r3 : Reg :=
  { id := 3, ops := [{ op := .bin .lss (.slot 7) (.slot 6) }], sets := [(8, 0)] }
def simpl_CountKind_r4 : Reg :=
  { id := 4, fresh := [0], ops := [{ op := .indexAddr 6 (.slot 5) (.slot 7) },
      { op := .load (some 6) (.loc 0) },
      { op := .alloc 0 [.sc (.int .i64 0), .sc (.int .i64 0), .sc (.int .i64 0), .nil 1, .nil 1, .sc (.bool false)] },
      { op := .store 6 (.loc 2) (.loc 1) }], sets := [(4, 2)] }
def simpl_CountKind_r5 : Reg :=
  { id := 5, ops := [{ op := .fieldAddr (.slot 4) 0 },
      { op := .load none (.loc 0) },
      { op := .mv (.slot 1) },
      { op := .bin .eql (.loc 1) (.loc 2) }], sets := [(9, 3)], clr := [4] }
def simpl_CountKind_r6 : Reg :=
  { id := 6, ops := [{ op := .mv (.slot 3) },
      { op := .bin .add (.loc 0) (.con (.sc (.int .i64 1))) },
      { op := .mv (.loc 1) }], sets := [(3, 2)] }
def simpl_CountKind_r7 : Reg :=
  { id := 7, ops := [{ op := .bin .add (.slot 7) (.con (.sc (.int .i64 1))) },
      { op := .mv (.loc 0) }], sets := [(7, 1)] }
def simpl_CountKind_r8 : Reg :=
  { id := 8, ops := [{ op := .mv (.slot 3) },
      { op := .mv (.loc 0) }], sets := [(2, 1)], clr := [1, 3, 5, 6, 7] }
def simpl_CountKind_b : SC := .seq (.reg simpl_CountKind_r0) (.seq (.reg simpl_CountKind_r1) (.seq (.seq (.reg simpl_CountKind_r2) (.block 0 (.loop (.seq (.reg simpl_CountKind_r3) (.seq (.cond 8 (.skip) (.exit 0)) (.seq (.block 1 (.seq (.reg simpl_CountKind_r4) (.seq (.reg simpl_CountKind_r5) (.cond 9 (.reg simpl_CountKind_r6) (.skip))))) (.reg simpl_CountKind_r7))))))) (.seq (.reg simpl_CountKind_r8) (.ret))))
def simpl_CountKind : SFn := { nslots := 10, nobjs := 1, params := [0, 1], ngiven := 0, bor := false, takes := [], body := simpl_CountKind_b, results := [.slot 2] }
def simpl_CountKind_t : List Tmp := [0, 1, 4, 5, 7, 8, 9, 10, 11, 17]
attribute [simp] simpl_CountKind_r0 simpl_CountKind_r1 simpl_CountKind_r2 simpl_CountKind_r3 simpl_CountKind_r4 simpl_CountKind_r5 simpl_CountKind_r6 simpl_CountKind_r7 simpl_CountKind_r8 simpl_CountKind_b simpl_CountKind
def slaws_eqEventS_r0 : Reg :=
  { id := 0, ops := [{ op := .mv (.con (.sc (.bool false))) }], clr := [2] }
def slaws_eqEventS_r1 : Reg :=
  { id := 1, ops := [{ op := .mv (.slot 0) },
      { op := .len false (.loc 0) },
      { op := .mv (.slot 1) },
      { op := .len false (.loc 2) },
      { op := .bin .neq (.loc 1) (.loc 3) }], sets := [(4, 4)] }
def slaws_eqEventS_r2 : Reg :=
  { id := 2, ops := [{ op := .mv (.con (.sc (.bool false))) }], sets := [(2, 0)], clr := [0, 1] }
def slaws_eqEventS_r3 : Reg :=
  { id := 3, ops := [{ op := .mv (.con (.sc (.int .i64 0))) }], sets := [(3, 0)] }
def slaws_eqEventS_r4 : Reg :=
  { id := 4, ops := [{ op := .mv (.slot 3) },
      { op := .mv (.slot 0) },
      { op := .len false (.loc 1) },
      { op := .bin .lss (.loc 0) (.loc 2) }], sets := [(5, 3)] }
def slaws_eqEventS_r5 : Reg :=
  { id := 6, draw := true, ops := [{ op := .mv (.slot 0), tau := some [], om := [] },
      { op := .mv (.slot 3), tau := some [], om := [] },
      { op := .indexAddr 6 (.loc 0) (.loc 1), tau := some [], om := [] },
      { op := .load (some 6) (.loc 2), tau := some [], om := [] },
      { op := .mv (.slot 1), tau := some [], om := [] },
      { op := .mv (.slot 3), tau := some [], om := [] },
      { op := .indexAddr 6 (.loc 4) (.loc 5), tau := some [], om := [] },
      { op := .load (some 6) (.loc 6), tau := some [], om := [] },
      { op := .call 388 [(false, .loc 3), (false, .loc 7)] [], tau := some [], om := [] },
      { op := .un .not (.loc 8), tau := some [], om := [] }], sets := [(6, 9)] }
def slaws_eqEventS_r6 : Reg :=
  { id := 7, ops := [{ op := .mv (.con (.sc (.bool false))) }], sets := [(2, 0)], clr := [0, 1, 3] }
def slaws_eqEventS_r7 : Reg :=
  { id := 5, ops := [{ op := .mv (.slot 3) },
      { op := .bin .add (.loc 0) (.con (.sc (.int .i64 1))) },
      { op := .mv (.loc 1) }], sets := [(3, 2)] }
def slaws_eqEventS_r8 : Reg :=
  { id := 8, ops := [{ op := .mv (.con (.sc (.bool true))) }], sets := [(2, 0)], clr := [0, 1, 3] }
def slaws_eqEventS_b : SC := .seq (.reg slaws_eqEventS_r0) (.seq (.seq (.reg slaws_eqEventS_r1) (.cond 4 (.seq (.reg slaws_eqEventS_r2) (.ret)) (.skip))) (.seq (.seq (.reg slaws_eqEventS_r3) (.block 0 (.loop (.seq (.seq (.reg slaws_eqEventS_r4) (.cond 5 (.skip) (.exit 0))) (.seq (.block 1 (.seq (.reg slaws_eqEventS_r5) (.cond 6 (.seq (.reg slaws_eqEventS_r6) (.ret)) (.skip)))) (.reg slaws_eqEventS_r7)))))) (.seq (.reg slaws_eqEventS_r8) (.ret))))
def slaws_eqEventS : SFn := { nslots := 7, nobjs := 0, params := [0, 1], ngiven := 0, bor := false, takes := [], body := slaws_eqEventS_b, results := [.slot 2] }
def slaws_eqEventS_t : List Tmp := [0, 1, 4, 5, 10, 14, 26]
attribute [simp] slaws_eqEventS_r0 slaws_eqEventS_r1 slaws_eqEventS_r2 slaws_eqEventS_r3 slaws_eqEventS_r4 slaws_eqEventS_r5 slaws_eqEventS_r6 slaws_eqEventS_r7 slaws_eqEventS_r8 slaws_eqEventS_b slaws_eqEventS
def slaws_szIntS_r0 : Reg :=
  { id := 0, ops := [{ op := .mv (.con (.sc (.int .i64 0))) }], clr := [2] }
def slaws_szIntS_r1 : Reg :=
  { id := 1, ops := [{ op := .mv (.slot 1) },
      { op := .mv (.slot 0) },
      { op := .len false (.loc 1) },
      { op := .bin .sub (.loc 0) (.loc 2) },
      { op := .mv (.loc 3) }], sets := [(1, 4)], clr := [0] }
def slaws_szIntS_r2 : Reg :=
  { id := 2, ops := [{ op := .mv (.slot 1) },
      { op := .bin .lss (.loc 0) (.con (.sc (.int .i64 0))) }], sets := [(3, 1)] }
def slaws_szIntS_r3 : Reg :=
  { id := 3, ops := [{ op := .mv (.con (.sc (.int .i64 (-1)))) }], sets := [(2, 0)], clr := [1] }
def slaws_szIntS_r4 : Reg :=
  { id := 4, ops := [{ op := .mv (.slot 1) },
      { op := .mv (.loc 0) }], sets := [(2, 1)], clr := [1] }
def slaws_szIntS_b : SC := .seq (.reg slaws_szIntS_r0) (.seq (.reg slaws_szIntS_r1) (.seq (.seq (.reg slaws_szIntS_r2) (.cond 3 (.seq (.reg slaws_szIntS_r3) (.ret)) (.skip))) (.seq (.reg slaws_szIntS_r4) (.ret))))
def slaws_szIntS : SFn := { nslots := 4, nobjs := 0, params := [0, 1], ngiven := 0, bor := false, takes := [], body := slaws_szIntS_b, results := [.slot 2] }
def slaws_szIntS_t : List Tmp := [0, 1, 4, 10]
attribute [simp] slaws_szIntS_r0 slaws_szIntS_r1 slaws_szIntS_r2 slaws_szIntS_r3 slaws_szIntS_r4 slaws_szIntS_b slaws_szIntS
def slaws_toIntS_r0 : Reg :=
  { id := 0, ops := [{ op := .mv (.con (.nil 1)) }], clr := [1] }
def slaws_toIntS_r1 : Reg :=
  { id := 1, ops := [{ op := .mv (.slot 0) },
      { op := .len false (.loc 0) },
      { op := .makeSlice 0 1 8 [.sc (.int .i64 0)] (.loc 1) },
      { op := .mv (.loc 2) }], sets := [(2, 3)] }
def slaws_toIntS_r2 : Reg :=
  { id := 2, ops := [{ op := .mv (.con (.sc (.int .i64 0))) }], sets := [(3, 0)] }
def slaws_toIntS_r3 : Reg :=
  { id := 3, ops := [{ op := .mv (.slot 3) },
      { op := .mv (.slot 0) },
      { op := .len false (.loc 1) },
      { op := .bin .lss (.loc 0) (.loc 2) }], sets := [(4, 3)] }
def slaws_toIntS_r4 : Reg :=
  { id := 5, ops := [{ op := .mv (.slot 2) },
      { op := .mv (.slot 3) },
      { op := .mv (.slot 0) },
      { op := .mv (.slot 3) },
      { op := .indexAddr 1 (.loc 2) (.loc 3) },
      { op := .load none (.loc 4) },
      { op := .indexAddr 1 (.loc 0) (.loc 1) },
      { op := .store 1 (.loc 6) (.loc 5) }] }
def slaws_toIntS_r5 : Reg :=
  { id := 4, ops := [{ op := .mv (.slot 3) },
      { op := .bin .add (.loc 0) (.con (.sc (.int .i64 1))) },
      { op := .mv (.loc 1) }], sets := [(3, 2)] }
def slaws_toIntS_r6 : Reg :=
  { id := 6, ops := [{ op := .mv (.slot 2) },
      { op := .mv (.loc 0) }], sets := [(1, 1)], clr := [0, 2, 3] }
def slaws_toIntS_b : SC := .seq (.reg slaws_toIntS_r0) (.seq (.reg slaws_toIntS_r1) (.seq (.seq (.reg slaws_toIntS_r2) (.block 0 (.loop (.seq (.seq (.reg slaws_toIntS_r3) (.cond 4 (.skip) (.exit 0))) (.seq (.block 1 (.reg slaws_toIntS_r4)) (.reg slaws_toIntS_r5)))))) (.seq (.reg slaws_toIntS_r6) (.ret))))
def slaws_toIntS : SFn := { nslots := 5, nobjs := 1, params := [0], ngiven := 0, bor := false, takes := [], body := slaws_toIntS_b, results := [.slot 1] }
def slaws_toIntS_t : List Tmp := [0, 2, 3, 4, 11]
attribute [simp] slaws_toIntS_r0 slaws_toIntS_r1 slaws_toIntS_r2 slaws_toIntS_r3 slaws_toIntS_r4 slaws_toIntS_r5 slaws_toIntS_r6 slaws_toIntS_b slaws_toIntS
def slaws_eqIntS_r0 : Reg :=
  { id := 0, ops := [{ op := .mv (.con (.sc (.bool false))) }], clr := [2] }
def slaws_eqIntS_r1 : Reg :=
  { id := 1, ops := [{ op := .mv (.slot 0) },
      { op := .len false (.loc 0) },
      { op := .mv (.slot 1) },
      { op := .len false (.loc 2) },
      { op := .bin .neq (.loc 1) (.loc 3) }], sets := [(4, 4)] }
def slaws_eqIntS_r2 : Reg :=
  { id := 2, ops := [{ op := .mv (.con (.sc (.bool false))) }], sets := [(2, 0)], clr := [0, 1] }
def slaws_eqIntS_r3 : Reg :=
  { id := 3, ops := [{ op := .mv (.con (.sc (.int .i64 0))) }], sets := [(3, 0)] }
def slaws_eqIntS_r4 : Reg :=
  { id := 4, ops := [{ op := .mv (.slot 3) },
      { op := .mv (.slot 0) },
      { op := .len false (.loc 1) },
      { op := .bin .lss (.loc 0) (.loc 2) }], sets := [(5, 3)] }
def slaws_eqIntS_r5 : Reg :=
  { id := 6, draw := true, ops := [{ op := .mv (.slot 0), tau := some [], om := [] },
      { op := .mv (.slot 3), tau := some [], om := [] },
      { op := .indexAddr 1 (.loc 0) (.loc 1), tau := some [], om := [] },
      { op := .load none (.loc 2), tau := some [], om := [] },
      { op := .mv (.slot 1), tau := some [], om := [] },
      { op := .mv (.slot 3), tau := some [], om := [] },
      { op := .indexAddr 1 (.loc 4) (.loc 5), tau := some [], om := [] },
      { op := .load none (.loc 6), tau := some [], om := [] },
      { op := .bin .neq (.loc 3) (.loc 7), tau := some [], om := [] }], sets := [(6, 8)] }
def slaws_eqIntS_r6 : Reg :=
  { id := 7, ops := [{ op := .mv (.con (.sc (.bool false))) }], sets := [(2, 0)], clr := [0, 1, 3] }
def slaws_eqIntS_r7 : Reg :=
  { id := 5, ops := [{ op := .mv (.slot 3) },
      { op := .bin .add (.loc 0) (.con (.sc (.int .i64 1))) },
      { op := .mv (.loc 1) }], sets := [(3, 2)] }
def slaws_eqIntS_r8 : Reg :=
  { id := 8, ops := [{ op := .mv (.con (.sc (.bool true))) }], sets := [(2, 0)], clr := [0, 1, 3] }
def slaws_eqIntS_b : SC := .seq (.reg slaws_eqIntS_r0) (.seq (.seq (.reg slaws_eqIntS_r1) (.cond 4 (.seq (.reg slaws_eqIntS_r2) (.ret)) (.skip))) (.seq (.seq (.reg slaws_eqIntS_r3) (.block 0 (.loop (.seq (.seq (.reg slaws_eqIntS_r4) (.cond 5 (.skip) (.exit 0))) (.seq (.block 1 (.seq (.reg slaws_eqIntS_r5) (.cond 6 (.seq (.reg slaws_eqIntS_r6) (.ret)) (.skip)))) (.reg slaws_eqIntS_r7)))))) (.seq (.reg slaws_eqIntS_r8) (.ret))))
def slaws_eqIntS : SFn := { nslots := 7, nobjs := 0, params := [0, 1], ngiven := 0, bor := false, takes := [], body := slaws_eqIntS_b, results := [.slot 2] }
def slaws_eqIntS_t : List Tmp := [0, 1, 4, 5, 10, 14, 25]
attribute [simp] slaws_eqIntS_r0 slaws_eqIntS_r1 slaws_eqIntS_r2 slaws_eqIntS_r3 slaws_eqIntS_r4 slaws_eqIntS_r5 slaws_eqIntS_r6 slaws_eqIntS_r7 slaws_eqIntS_r8 slaws_eqIntS_b slaws_eqIntS
def slaws_szEvent_r0 : Reg :=
  { id := 0, ops := [{ op := .box 0 (.slot 0) },
      { op := .mv (.con (.sc (.int .i64 0))) }], sets := [(2, 0)], clr := [0, 3] }
def slaws_szEvent_r1 : Reg :=
  { id := 1, ops := [{ op := .fieldAddr (.slot 2) 2 },
      { op := .load (some 4) (.loc 0) },
      { op := .mv (.slot 1) },
      { op := .call 206 [(false, .loc 1), (false, .loc 2)] [] },
      { op := .mv (.loc 3) }], sets := [(1, 4)], clr := [2] }
def slaws_szEvent_r2 : Reg :=
  { id := 2, ops := [{ op := .mv (.slot 1) },
      { op := .bin .lss (.loc 0) (.con (.sc (.int .i64 0))) }], sets := [(4, 1)] }
def slaws_szEvent_r3 : Reg :=
  { id := 3, ops := [{ op := .mv (.con (.sc (.int .i64 (-1)))) }], sets := [(3, 0)], clr := [1] }
def slaws_szEvent_r4 : Reg :=
  { id := 4, ops := [{ op := .mv (.slot 1) },
      { op := .mv (.loc 0) }], sets := [(3, 1)], clr := [1] }
def slaws_szEvent_b : SC := .seq (.reg slaws_szEvent_r0) (.seq (.reg slaws_szEvent_r1) (.seq (.seq (.reg slaws_szEvent_r2) (.cond 4 (.seq (.reg slaws_szEvent_r3) (.ret)) (.skip))) (.seq (.reg slaws_szEvent_r4) (.ret))))
def slaws_szEvent : SFn := { nslots := 5, nobjs := 1, params := [0, 1], ngiven := 0, bor := false, takes := [], body := slaws_szEvent_b, results := [.slot 3] }
def slaws_szEvent_t : List Tmp := [0, 1, 2, 4, 10]
attribute [simp] slaws_szEvent_r0 slaws_szEvent_r1 slaws_szEvent_r2 slaws_szEvent_r3 slaws_szEvent_r4 slaws_szEvent_b slaws_szEvent
def slaws_toEvent_r0 : Reg :=
  { id := 0, ops := [{ op := .box 0 (.slot 0) },
      { op := .alloc 1 [.sc (.int .i64 0), .sc (.int .i64 0), .sc (.int .i64 0), .nil 1, .nil 1, .sc (.bool false)] }], sets := [(1, 0), (2, 1)], clr := [0] }
def slaws_toEvent_r1 : Reg :=
  { id := 1, ops := [{ op := .alloc 2 [.sc (.int .i64 0), .sc (.int .i64 0), .sc (.int .i64 0), .nil 1, .nil 1, .sc (.bool false)] }], sets := [(3, 0)] }
def slaws_toEvent_r2 : Reg :=
  { id := 2, ops := [{ op := .fieldAddr (.slot 1) 0 },
      { op := .load none (.loc 0) },
      { op := .fieldAddr (.slot 3) 0 },
      { op := .store 1 (.loc 2) (.loc 1) }] }
def slaws_toEvent_r3 : Reg :=
  { id := 3, ops := [{ op := .fieldAddr (.slot 1) 1 },
      { op := .load none (.loc 0) },
      { op := .fieldAddr (.slot 3) 1 },
      { op := .store 1 (.loc 2) (.loc 1) }] }
def slaws_toEvent_r4 : Reg :=
  { id := 4, ops := [{ op := .fieldAddr (.slot 1) 2 },
      { op := .load (some 4) (.loc 0) },
      { op := .call 226 [(false, .loc 1)] [3, 4] },
      { op := .fieldAddr (.slot 3) 2 },
      { op := .store 4 (.loc 3) (.loc 2) }], clr := [1] }
def slaws_toEvent_r5 : Reg :=
  { id := 5, ops := [{ op := .load (some 6) (.slot 3) },
      { op := .store 6 (.slot 2) (.loc 0) }], clr := [3] }
def slaws_toEvent_b : SC := .seq (.reg slaws_toEvent_r0) (.seq (.reg slaws_toEvent_r1) (.seq (.reg slaws_toEvent_r2) (.seq (.reg slaws_toEvent_r3) (.seq (.reg slaws_toEvent_r4) (.seq (.reg slaws_toEvent_r5) (.ret))))))
def slaws_toEvent : SFn := { nslots := 4, nobjs := 5, params := [0], ngiven := 0, bor := false, takes := [], body := slaws_toEvent_b, results := [.cell 2 (some 6)] }
def slaws_toEvent_t : List Tmp := [0, 1, 2, 3]
attribute [simp] slaws_toEvent_r0 slaws_toEvent_r1 slaws_toEvent_r2 slaws_toEvent_r3 slaws_toEvent_r4 slaws_toEvent_r5 slaws_toEvent_b slaws_toEvent
def slaws_eqEvent_r0 : Reg :=
  { id := 0, ops := [{ op := .box 0 (.slot 0) },
      { op := .box 1 (.slot 1) },
      { op := .mv (.con (.sc (.bool false))) }], sets := [(2, 0), (3, 1)], clr := [0, 1, 4] }
def slaws_eqEvent_r1 : Reg :=
  { id := 1, ops := [{ op := .fieldAddr (.slot 2) 0 },
      { op := .load none (.loc 0) },
      { op := .fieldAddr (.slot 3) 0 },
      { op := .load none (.loc 2) },
      { op := .bin .neq (.loc 1) (.loc 3) }], sets := [(5, 4)] }
def slaws_eqEvent_r2 : Reg :=
  { id := 2, ops := [{ op := .mv (.con (.sc (.bool false))) }], sets := [(4, 0)], clr := [2, 3] }
def slaws_eqEvent_r3 : Reg :=
  { id := 3, ops := [{ op := .fieldAddr (.slot 2) 1 },
      { op := .load none (.loc 0) },
      { op := .fieldAddr (.slot 3) 1 },
      { op := .load none (.loc 2) },
      { op := .bin .neq (.loc 1) (.loc 3) }], sets := [(6, 4)] }
def slaws_eqEvent_r4 : Reg :=
  { id := 4, ops := [{ op := .mv (.con (.sc (.bool false))) }], sets := [(4, 0)], clr := [2, 3] }
def slaws_eqEvent_r5 : Reg :=
  { id := 5, ops := [{ op := .fieldAddr (.slot 2) 2 },
      { op := .load (some 4) (.loc 0) },
      { op := .fieldAddr (.slot 3) 2 },
      { op := .load (some 4) (.loc 2) },
      { op := .call 249 [(false, .loc 1), (false, .loc 3)] [] },
      { op := .un .not (.loc 4) }], sets := [(7, 5)], clr := [2, 3] }
def slaws_eqEvent_r6 : Reg :=
  { id := 6, ops := [{ op := .mv (.con (.sc (.bool false))) }], sets := [(4, 0)] }
def slaws_eqEvent_r7 : Reg :=
  { id := 7, ops := [{ op := .mv (.con (.sc (.bool true))) }], sets := [(4, 0)] }
def slaws_eqEvent_b : SC := .seq (.reg slaws_eqEvent_r0) (.seq (.seq (.reg slaws_eqEvent_r1) (.cond 5 (.seq (.reg slaws_eqEvent_r2) (.ret)) (.skip))) (.seq (.seq (.reg slaws_eqEvent_r3) (.cond 6 (.seq (.reg slaws_eqEvent_r4) (.ret)) (.skip))) (.seq (.seq (.reg slaws_eqEvent_r5) (.cond 7 (.seq (.reg slaws_eqEvent_r6) (.ret)) (.skip))) (.seq (.reg slaws_eqEvent_r7) (.ret)))))
def slaws_eqEvent : SFn := { nslots := 8, nobjs := 2, params := [0, 1], ngiven := 0, bor := false, takes := [], body := slaws_eqEvent_b, results := [.slot 4] }
def slaws_eqEvent_t : List Tmp := [0, 1, 2, 3, 4, 9, 14, 20]
attribute [simp] slaws_eqEvent_r0 slaws_eqEvent_r1 slaws_eqEvent_r2 slaws_eqEvent_r3 slaws_eqEvent_r4 slaws_eqEvent_r5 slaws_eqEvent_r6 slaws_eqEvent_r7 slaws_eqEvent_b slaws_eqEvent
def slaws_szBox_r0 : Reg :=
  { id := 0, ops := [{ op := .box 0 (.slot 0) },
      { op := .mv (.con (.sc (.int .i64 0))) }], sets := [(2, 0)], clr := [0, 3] }
def slaws_szBox_r1 : Reg :=
  { id := 1, ops := [{ op := .fieldAddr (.slot 2) 1 },
      { op := .load none (.loc 0) },
      { op := .mv (.slot 1) },
      { op := .call 16 [(false, .loc 1), (false, .loc 2)] [] },
      { op := .mv (.loc 3) }], sets := [(1, 4)] }
def slaws_szBox_r2 : Reg :=
  { id := 2, ops := [{ op := .mv (.slot 1) },
      { op := .bin .lss (.loc 0) (.con (.sc (.int .i64 0))) }], sets := [(4, 1)] }
def slaws_szBox_r3 : Reg :=
  { id := 3, ops := [{ op := .mv (.con (.sc (.int .i64 (-1)))) }], sets := [(3, 0)], clr := [1, 2] }
def slaws_szBox_r4 : Reg :=
  { id := 4, ops := [{ op := .fieldAddr (.slot 2) 2 },
      { op := .load none (.loc 0) },
      { op := .mv (.slot 1) },
      { op := .call 16 [(false, .loc 1), (false, .loc 2)] [] },
      { op := .mv (.loc 3) }], sets := [(1, 4)], clr := [2] }
def slaws_szBox_r5 : Reg :=
  { id := 5, ops := [{ op := .mv (.slot 1) },
      { op := .bin .lss (.loc 0) (.con (.sc (.int .i64 0))) }], sets := [(5, 1)] }
def slaws_szBox_r6 : Reg :=
  { id := 6, ops := [{ op := .mv (.con (.sc (.int .i64 (-1)))) }], sets := [(3, 0)], clr := [1] }
def slaws_szBox_r7 : Reg :=
  { id := 7, ops := [{ op := .mv (.slot 1) },
      { op := .mv (.loc 0) }], sets := [(3, 1)], clr := [1] }
def slaws_szBox_b : SC := .seq (.reg slaws_szBox_r0) (.seq (.reg slaws_szBox_r1) (.seq (.seq (.reg slaws_szBox_r2) (.cond 4 (.seq (.reg slaws_szBox_r3) (.ret)) (.skip))) (.seq (.reg slaws_szBox_r4) (.seq (.seq (.reg slaws_szBox_r5) (.cond 5 (.seq (.reg slaws_szBox_r6) (.ret)) (.skip))) (.seq (.reg slaws_szBox_r7) (.ret))))))
def slaws_szBox : SFn := { nslots := 6, nobjs := 1, params := [0, 1], ngiven := 0, bor := false, takes := [], body := slaws_szBox_b, results := [.slot 3] }
def slaws_szBox_t : List Tmp := [0, 1, 2, 4, 10, 16]
attribute [simp] slaws_szBox_r0 slaws_szBox_r1 slaws_szBox_r2 slaws_szBox_r3 slaws_szBox_r4 slaws_szBox_r5 slaws_szBox_r6 slaws_szBox_r7 slaws_szBox_b slaws_szBox
def slaws_toBox_r0 : Reg :=
  { id := 0, ops := [{ op := .box 0 (.slot 0) },
      { op := .alloc 1 [.sc (.int .i64 0), .nil 1, .nil 1, .sc (.bool false)] }], sets := [(1, 0), (2, 1)], clr := [0] }
def slaws_toBox_r1 : Reg :=
  { id := 1, ops := [{ op := .alloc 2 [.sc (.int .i64 0), .nil 1, .nil 1, .sc (.bool false)] }], sets := [(3, 0)] }
def slaws_toBox_r2 : Reg :=
  { id := 2, ops := [{ op := .fieldAddr (.slot 1) 0 },
      { op := .load none (.loc 0) },
      { op := .fieldAddr (.slot 3) 0 },
      { op := .store 1 (.loc 2) (.loc 1) }] }
def slaws_toBox_r3 : Reg :=
  { id := 3, ops := [{ op := .fieldAddr (.slot 1) 1 },
      { op := .load none (.loc 0) },
      { op := .call 31 [(false, .loc 1)] [3] },
      { op := .fieldAddr (.slot 3) 1 },
      { op := .store 1 (.loc 3) (.loc 2) }] }
def slaws_toBox_r4 : Reg :=
  { id := 4, ops := [{ op := .fieldAddr (.slot 1) 2 },
      { op := .load none (.loc 0) },
      { op := .call 31 [(false, .loc 1)] [4] },
      { op := .fieldAddr (.slot 3) 2 },
      { op := .store 1 (.loc 3) (.loc 2) }] }
def slaws_toBox_r5 : Reg :=
  { id := 5, ops := [{ op := .fieldAddr (.slot 1) 3 },
      { op := .load none (.loc 0) },
      { op := .fieldAddr (.slot 3) 3 },
      { op := .store 1 (.loc 2) (.loc 1) }], clr := [1] }
def slaws_toBox_r6 : Reg :=
  { id := 6, ops := [{ op := .load (some 4) (.slot 3) },
      { op := .store 4 (.slot 2) (.loc 0) }], clr := [3] }
def slaws_toBox_b : SC := .seq (.reg slaws_toBox_r0) (.seq (.reg slaws_toBox_r1) (.seq (.reg slaws_toBox_r2) (.seq (.reg slaws_toBox_r3) (.seq (.reg slaws_toBox_r4) (.seq (.reg slaws_toBox_r5) (.seq (.reg slaws_toBox_r6) (.ret)))))))
def slaws_toBox : SFn := { nslots := 4, nobjs := 5, params := [0], ngiven := 0, bor := false, takes := [], body := slaws_toBox_b, results := [.cell 2 (some 4)] }
def slaws_toBox_t : List Tmp := [0, 1, 2, 3]
attribute [simp] slaws_toBox_r0 slaws_toBox_r1 slaws_toBox_r2 slaws_toBox_r3 slaws_toBox_r4 slaws_toBox_r5 slaws_toBox_r6 slaws_toBox_b slaws_toBox
def slaws_eqBox_r0 : Reg :=
  { id := 0, ops := [{ op := .box 0 (.slot 0) },
      { op := .box 1 (.slot 1) },
      { op := .mv (.con (.sc (.bool false))) }], sets := [(2, 0), (3, 1)], clr := [0, 1, 4] }
def slaws_eqBox_r1 : Reg :=
  { id := 1, ops := [{ op := .fieldAddr (.slot 2) 0 },
      { op := .load none (.loc 0) },
      { op := .fieldAddr (.slot 3) 0 },
      { op := .load none (.loc 2) },
      { op := .bin .neq (.loc 1) (.loc 3) }], sets := [(5, 4)] }
def slaws_eqBox_r2 : Reg :=
  { id := 2, ops := [{ op := .mv (.con (.sc (.bool false))) }], sets := [(4, 0)], clr := [2, 3] }
def slaws_eqBox_r3 : Reg :=
  { id := 3, ops := [{ op := .fieldAddr (.slot 2) 1 },
      { op := .load none (.loc 0) },
      { op := .fieldAddr (.slot 3) 1 },
      { op := .load none (.loc 2) },
      { op := .call 47 [(false, .loc 1), (false, .loc 3)] [] },
      { op := .un .not (.loc 4) }], sets := [(6, 5)] }
def slaws_eqBox_r4 : Reg :=
  { id := 4, ops := [{ op := .mv (.con (.sc (.bool false))) }], sets := [(4, 0)], clr := [2, 3] }
def slaws_eqBox_r5 : Reg :=
  { id := 5, ops := [{ op := .fieldAddr (.slot 2) 2 },
      { op := .load none (.loc 0) },
      { op := .fieldAddr (.slot 3) 2 },
      { op := .load none (.loc 2) },
      { op := .call 47 [(false, .loc 1), (false, .loc 3)] [] },
      { op := .un .not (.loc 4) }], sets := [(7, 5)] }
def slaws_eqBox_r6 : Reg :=
  { id := 6, ops := [{ op := .mv (.con (.sc (.bool false))) }], sets := [(4, 0)], clr := [2, 3] }
def slaws_eqBox_r7 : Reg :=
  { id := 7, ops := [{ op := .fieldAddr (.slot 2) 3 },
      { op := .load none (.loc 0) },
      { op := .fieldAddr (.slot 3) 3 },
      { op := .load none (.loc 2) },
      { op := .beq true (.loc 1) (.loc 3) }], sets := [(8, 4)], clr := [2, 3] }
def slaws_eqBox_r8 : Reg :=
  { id := 8, ops := [{ op := .mv (.con (.sc (.bool false))) }], sets := [(4, 0)] }
def slaws_eqBox_r9 : Reg :=
  { id := 9, ops := [{ op := .mv (.con (.sc (.bool true))) }], sets := [(4, 0)] }
def slaws_eqBox_b : SC := .seq (.reg slaws_eqBox_r0) (.seq (.seq (.reg slaws_eqBox_r1) (.cond 5 (.seq (.reg slaws_eqBox_r2) (.ret)) (.skip))) (.seq (.seq (.reg slaws_eqBox_r3) (.cond 6 (.seq (.reg slaws_eqBox_r4) (.ret)) (.skip))) (.seq (.seq (.reg slaws_eqBox_r5) (.cond 7 (.seq (.reg slaws_eqBox_r6) (.ret)) (.skip))) (.seq (.seq (.reg slaws_eqBox_r7) (.cond 8 (.seq (.reg slaws_eqBox_r8) (.ret)) (.skip))) (.seq (.reg slaws_eqBox_r9) (.ret))))))
def slaws_eqBox : SFn := { nslots := 9, nobjs := 2, params := [0, 1], ngiven := 0, bor := false, takes := [], body := slaws_eqBox_b, results := [.slot 4] }
def slaws_eqBox_t : List Tmp := [0, 1, 2, 3, 4, 9, 15, 21, 26]
attribute [simp] slaws_eqBox_r0 slaws_eqBox_r1 slaws_eqBox_r2 slaws_eqBox_r3 slaws_eqBox_r4 slaws_eqBox_r5 slaws_eqBox_r6 slaws_eqBox_r7 slaws_eqBox_r8 slaws_eqBox_r9 slaws_eqBox_b slaws_eqBox
end Go.Eng.T

namespace Go.Eng.T
abbrev glaws_FnExactRunConsole : Nat := 0
abbrev gspec_RunConsole : Nat := 1
abbrev gimpl_RunConsole : Nat := 2
abbrev glaws_eqStringS : Nat := 3
abbrev glaws_markStringS : Nat := 4
abbrev glaws_heldStringS : Nat := 5
abbrev glaws_FnExactConsoleLine : Nat := 6
abbrev glaws_szWorld : Nat := 7
abbrev glaws_toWorld : Nat := 8
abbrev gspec_ConsoleLine : Nat := 9
abbrev gimpl_ConsoleLine : Nat := 10
abbrev glaws_eqWorld : Nat := 11
abbrev glaws_markWorld : Nat := 12
abbrev glaws_heldWorld : Nat := 13
abbrev gstrings_Split : Nat := 14
abbrev glaws_markText : Nat := 15
abbrev glaws_szIntS : Nat := 16
abbrev glaws_szEndpointS : Nat := 17
abbrev glaws_szRollout : Nat := 18
abbrev glaws_szDialedS : Nat := 19
abbrev glaws_szLoggedS : Nat := 20
abbrev gspec_l40Words : Nat := 21
abbrev gspec_l32Copy : Nat := 22
abbrev gspec_l40Nums : Nat := 23
abbrev gspec_l40World : Nat := 24
abbrev gspec_TryAll : Nat := 25
abbrev gspec_l40Event : Nat := 26
abbrev gspec_ApplyEvent : Nat := 27
abbrev gspec_l40Said : Nat := 28
abbrev gspec_l40None : Nat := 29
abbrev gspec_l40One : Nat := 30
abbrev glaws_toIntS : Nat := 31
abbrev glaws_toEndpointS : Nat := 32
abbrev glaws_toRollout : Nat := 33
abbrev glaws_toDialedS : Nat := 34
abbrev glaws_toLoggedS : Nat := 35
abbrev gimpl_ConsoleLine_1 : Nat := 36
abbrev gslices_DeleteFunc___string_string_ : Nat := 37
abbrev gimpl_copyWorld : Nat := 38
abbrev gimpl_numbersOf : Nat := 39
abbrev gimpl_eventOf : Nat := 40
abbrev gimpl_ApplyEvent : Nat := 41
abbrev gimpl_told : Nat := 42
abbrev gimpl_newWorldOf : Nat := 43
abbrev gimpl_TryAll : Nat := 44
abbrev gimpl_askNumber : Nat := 45
abbrev gimpl_ask : Nat := 46
abbrev glaws_eqIntS : Nat := 47
abbrev glaws_eqEndpointS : Nat := 48
abbrev glaws_eqRollout : Nat := 49
abbrev glaws_eqDialedS : Nat := 50
abbrev glaws_eqLoggedS : Nat := 51
abbrev glaws_markIntS : Nat := 52
abbrev glaws_markEndpointS : Nat := 53
abbrev glaws_markRollout : Nat := 54
abbrev glaws_markDialedS : Nat := 55
abbrev glaws_markLoggedS : Nat := 56
abbrev glaws_heldIntS : Nat := 57
abbrev glaws_heldEndpointS : Nat := 58
abbrev glaws_heldRollout : Nat := 59
abbrev glaws_heldDialedS : Nat := 60
abbrev glaws_heldLoggedS : Nat := 61
abbrev glaws_szEndpoint : Nat := 62
abbrev glaws_szDialed : Nat := 63
abbrev glaws_szLogged : Nat := 64
abbrev gspec_l32End : Nat := 65
abbrev gspec_l26Copy : Nat := 66
abbrev gspec_l32Dialed : Nat := 67
abbrev gspec_ParseInt : Nat := 68
abbrev gspec_ExampleEnds : Nat := 69
abbrev gspec_NewWorld : Nat := 70
abbrev gspec_l1In : Nat := 71
abbrev gspec_StepDial : Nat := 72
abbrev gspec_EventName : Nat := 73
abbrev gspec_StepStart : Nat := 74
abbrev gspec_StepStage : Nat := 75
abbrev gspec_StepRetire : Nat := 76
abbrev gspec_StepRevive : Nat := 77
abbrev gspec_StepBox : Nat := 78
abbrev gspec_StepClear : Nat := 79
abbrev gspec_StepTick : Nat := 80
abbrev gspec_FormatDialed : Nat := 81
abbrev gspec_SignalNow : Nat := 82
abbrev gspec_SignalName : Nat := 83
abbrev gspec_HardEnds : Nat := 84
abbrev gspec_FormatList : Nat := 85
abbrev gspec_VersionCounts : Nat := 86
abbrev gspec_HurtEnds : Nat := 87
abbrev gspec_FormatWorld : Nat := 88
abbrev gspec_FaultOf : Nat := 89
abbrev gspec_l40Or : Nat := 90
abbrev gspec_FormatEnd : Nat := 91
abbrev gspec_BestNow : Nat := 92
abbrev gspec_FormatInt : Nat := 93
abbrev gspec_HasVersion : Nat := 94
abbrev gspec_ListsOf : Nat := 95
abbrev gspec_Stranded : Nat := 96
abbrev gspec_ReportNow : Nat := 97
abbrev glaws_toEndpoint : Nat := 98
abbrev glaws_toDialed : Nat := 99
abbrev glaws_toLogged : Nat := 100
abbrev gimpl_copyRollout : Nat := 101
abbrev gimpl_copyEndpoint : Nat := 102
abbrev gimpl_copyDialed : Nat := 103
abbrev gimpl_ParseInt : Nat := 104
abbrev gslices_Index___string_string_ : Nat := 105
abbrev gimpl_StepDial : Nat := 106
abbrev gimpl_StepStart : Nat := 107
abbrev gimpl_StepStage : Nat := 108
abbrev gimpl_StepRetire : Nat := 109
abbrev gimpl_StepRevive : Nat := 110
abbrev gimpl_StepBox : Nat := 111
abbrev gimpl_StepClear : Nat := 112
abbrev gimpl_StepTick : Nat := 113
abbrev gimpl_InRange : Nat := 114
abbrev gimpl_ExampleEnds : Nat := 115
abbrev gimpl_NewWorld : Nat := 116
abbrev gimpl_hasEnd : Nat := 117
abbrev gimpl_FormatEnd : Nat := 118
abbrev gimpl_BestNow : Nat := 119
abbrev gimpl_FormatInt : Nat := 120
abbrev gimpl_HasVersion : Nat := 121
abbrev gimpl_FormatList : Nat := 122
abbrev gimpl_ListsOf : Nat := 123
abbrev gimpl_Stranded : Nat := 124
abbrev gimpl_ReportNow : Nat := 125
abbrev gimpl_FormatDialed : Nat := 126
abbrev gimpl_SignalNow : Nat := 127
abbrev gimpl_SignalName : Nat := 128
abbrev gimpl_HardEnds : Nat := 129
abbrev gimpl_VersionCounts : Nat := 130
abbrev gimpl_HurtEnds : Nat := 131
abbrev gimpl_FormatWorld : Nat := 132
abbrev gimpl_FaultOf : Nat := 133
abbrev glaws_eqEndpoint : Nat := 134
abbrev glaws_eqDialed : Nat := 135
abbrev glaws_eqLogged : Nat := 136
abbrev glaws_markBoxS : Nat := 137
abbrev glaws_heldBoxS : Nat := 138
abbrev glaws_szBoxS : Nat := 139
abbrev glaws_szDeal : Nat := 140
abbrev gspec_IsWorld : Nat := 141
abbrev gspec_DialOf : Nat := 142
abbrev gspec_IsOnNew : Nat := 143
abbrev gspec_IsBadDial : Nat := 144
abbrev gspec_IsRollout : Nat := 145
abbrev gspec_EnterStage : Nat := 146
abbrev gspec_NextStage : Nat := 147
abbrev gspec_BackStage : Nat := 148
abbrev gspec_LeaveRollout : Nat := 149
abbrev gspec_RetireVersion : Nat := 150
abbrev gspec_AddVersion : Nat := 151
abbrev gspec_IsBox : Nat := 152
abbrev gspec_FormatDeal : Nat := 153
abbrev gspec_l39Join : Nat := 154
abbrev gspec_MaskedBy : Nat := 155
abbrev gspec_SignalOf : Nat := 156
abbrev gspec_HardenedBoxes : Nat := 157
abbrev gspec_l37Bad : Nat := 158
abbrev gspec_l4Put : Nat := 159
abbrev gspec_FormatRollout : Nat := 160
abbrev gspec_IsBounded : Nat := 161
abbrev gspec_IsTogether : Nat := 162
abbrev gspec_IsCounted : Nat := 163
abbrev gspec_IsSober : Nat := 164
abbrev gspec_BestFor : Nat := 165
abbrev gspec_l9Has : Nat := 166
abbrev gspec_l12Without : Nat := 167
abbrev gspec_BestCommon : Nat := 168
abbrev gspec_HideSmall : Nat := 169
abbrev glaws_toBoxS : Nat := 170
abbrev glaws_toDeal : Nat := 171
abbrev gimpl_copyPath : Nat := 172
abbrev gimpl_DialOf : Nat := 173
abbrev gimpl_IsOnNew : Nat := 174
abbrev gimpl_IsBadDial : Nat := 175
abbrev gimpl_IsRollout : Nat := 176
abbrev gimpl_EnterStage : Nat := 177
abbrev gimpl_NextStage : Nat := 178
abbrev gimpl_BackStage : Nat := 179
abbrev gimpl_LeaveRollout : Nat := 180
abbrev gimpl_RetireVersion : Nat := 181
abbrev gimpl_AddVersion : Nat := 182
abbrev gimpl_IsBox : Nat := 183
abbrev gimpl_IsWorld : Nat := 184
abbrev gstrconv_Itoa : Nat := 185
abbrev gimpl_BestFor : Nat := 186
abbrev gimpl_joined : Nat := 187
abbrev gslices_Contains___int_int_ : Nat := 188
abbrev gimpl_without : Nat := 189
abbrev gimpl_BestCommon : Nat := 190
abbrev gimpl_HideSmall : Nat := 191
abbrev gimpl_FormatDeal : Nat := 192
abbrev gimpl_MaskedBy : Nat := 193
abbrev gimpl_SignalOf : Nat := 194
abbrev gimpl_HardenedBoxes : Nat := 195
abbrev gimpl_isHurt : Nat := 196
abbrev gslices_Sort___int_int_ : Nat := 197
abbrev gslices_Compact___int_int_ : Nat := 198
abbrev gimpl_FormatRollout : Nat := 199
abbrev gimpl_IsBounded : Nat := 200
abbrev gimpl_IsTogether : Nat := 201
abbrev gimpl_IsCounted : Nat := 202
abbrev gimpl_IsSober : Nat := 203
abbrev glaws_eqBoxS : Nat := 204
abbrev glaws_eqDeal : Nat := 205
abbrev glaws_szBox : Nat := 206
abbrev gspec_IsEndpoint : Nat := 207
abbrev gspec_AreVersions : Nat := 208
abbrev gspec_l32Tags : Nat := 209
abbrev gspec_IsValidKey : Nat := 210
abbrev gspec_AllReach : Nat := 211
abbrev gspec_l33Clip : Nat := 212
abbrev gspec_EndDial : Nat := 213
abbrev gspec_IsIn : Nat := 214
abbrev gspec_Max : Nat := 215
abbrev gspec_MayRetire : Nat := 216
abbrev gspec_l9Byte : Nat := 217
abbrev gspec_RefusesGrease : Nat := 218
abbrev gspec_MostHurt : Nat := 219
abbrev gspec_IsClearPath : Nat := 220
abbrev gspec_IsHardened : Nat := 221
abbrev gspec_LostVersions : Nat := 222
abbrev gspec_l21Left : Nat := 223
abbrev gspec_CommonOf : Nat := 224
abbrev gspec_AreCounts : Nat := 225
abbrev glaws_toBox : Nat := 226
abbrev gimpl_EndDial : Nat := 227
abbrev gimpl_IsIn : Nat := 228
abbrev gimpl_isBad : Nat := 229
abbrev gimpl_withVersion : Nat := 230
abbrev gimpl_MayRetire : Nat := 231
abbrev gimpl_AreVersions : Nat := 232
abbrev gimpl_areNumbers : Nat := 233
abbrev gimpl_AllReach : Nat := 234
abbrev gimpl_areTags : Nat := 235
abbrev gimpl_IsValidKey : Nat := 236
abbrev gimpl_IsWorld_1 : Nat := 237
abbrev gslices_ContainsFunc___impl_Endpoint_impl_Endpoint_ : Nat := 238
abbrev gimpl_IsEndpoint : Nat := 239
abbrev gimpl_LostVersions : Nat := 240
abbrev gstrings_Join : Nat := 241
abbrev gimpl_CommonOf : Nat := 242
abbrev gimpl_canHide : Nat := 243
abbrev gimpl_RefusesGrease : Nat := 244
abbrev gimpl_MostHurt : Nat := 245
abbrev gimpl_IsClearPath : Nat := 246
abbrev gimpl_IsSober_1 : Nat := 247
abbrev gslices_ContainsFunc___impl_Logged_impl_Logged_ : Nat := 248
abbrev glaws_eqBox : Nat := 249
abbrev gspec_IsReserved : Nat := 250
abbrev gspec_HelloOf : Nat := 251
abbrev gspec_Dial : Nat := 252
abbrev gspec_Min : Nat := 253
abbrev gspec_CountIn : Nat := 254
abbrev gspec_UseOf : Nat := 255
abbrev gspec_PlainHello : Nat := 256
abbrev gspec_l29One : Nat := 257
abbrev gspec_PassBox : Nat := 258
abbrev gspec_IsClear : Nat := 259
abbrev gspec_IsOpenPath : Nat := 260
abbrev gimpl_HelloOf : Nat := 261
abbrev gimpl_Dial : Nat := 262
abbrev gimpl_CountIn : Nat := 263
abbrev gslices_Insert___int_int_ : Nat := 264
abbrev gimpl_UseOf : Nat := 265
abbrev gimpl_areNumbers_1 : Nat := 266
abbrev gslices_ContainsFunc___int_int_ : Nat := 267
abbrev gimpl_AllReach_1 : Nat := 268
abbrev gslices_ContainsFunc_____int___int_ : Nat := 269
abbrev gimpl_IsHardened : Nat := 270
abbrev gimpl_IsEndpoint_1 : Nat := 271
abbrev gslices_ContainsFunc___impl_Box_impl_Box_ : Nat := 272
abbrev gimpl_PlainHello : Nat := 273
abbrev gimpl_PassPath : Nat := 274
abbrev gimpl_AreCounts : Nat := 275
abbrev gimpl_reservedTags : Nat := 276
abbrev gimpl_RefusesGrease_1 : Nat := 277
abbrev gimpl_IsClearPath_1 : Nat := 278
abbrev gimpl_IsReserved : Nat := 279
abbrev gspec_HelloFor : Nat := 280
abbrev gspec_DialOnce : Nat := 281
abbrev gspec_GivenUp : Nat := 282
abbrev gspec_AddGrease : Nat := 283
abbrev gspec_CeilDiv : Nat := 284
abbrev gspec_IsHello : Nat := 285
abbrev gspec_PassPath : Nat := 286
abbrev gimpl_HelloFor : Nat := 287
abbrev gimpl_DialOnce : Nat := 288
abbrev gimpl_GivenUp : Nat := 289
abbrev gimpl_AddGrease : Nat := 290
abbrev gimpl_CeilDiv : Nat := 291
abbrev gimpl_IsHello : Nat := 292
abbrev gimpl_copyHello : Nat := 293
abbrev gimpl_PassBox : Nat := 294
abbrev gimpl_loses : Nat := 295
abbrev gslices_Clone___int_int_ : Nat := 296
abbrev gimpl_PassBox_1 : Nat := 297
abbrev gimpl_keptExts : Nat := 298
abbrev gimpl_IsClear : Nat := 299
abbrev gspec_PassesWhole : Nat := 300
abbrev gspec_l18Hello : Nat := 301
abbrev gspec_FallbackHello : Nat := 302
abbrev gspec_ChooseAnswer : Nat := 303
abbrev gspec_FitsHello : Nat := 304
abbrev gspec_HelloBytes : Nat := 305
abbrev gspec_AnswerBytes : Nat := 306
abbrev gspec_FinishOf : Nat := 307
abbrev gspec_TagsOf : Nat := 308
abbrev gspec_ExtOf : Nat := 309
abbrev gspec_GreaseTag : Nat := 310
abbrev gspec_l11Copy : Nat := 311
abbrev gspec_AreExts : Nat := 312
abbrev gspec_PickOf : Nat := 313
abbrev gimpl_PassesWhole : Nat := 314
abbrev gimpl_FallbackHello : Nat := 315
abbrev gimpl_dealt : Nat := 316
abbrev gimpl_TagsOf : Nat := 317
abbrev gimpl_copyExts : Nat := 318
abbrev gimpl_GreaseTag : Nat := 319
abbrev gimpl_AreExts : Nat := 320
abbrev gimpl_ExtOf : Nat := 321
abbrev gimpl_PickOf : Nat := 322
abbrev gslices_Repeat___int_int_ : Nat := 323
abbrev gslices_Insert___impl_Ext_impl_Ext_ : Nat := 324
abbrev gslices_Max___int_int_ : Nat := 325
abbrev gimpl_loses_1 : Nat := 326
abbrev gslices_ContainsFunc___impl_Ext_impl_Ext_ : Nat := 327
abbrev gspec_EqualHellos : Nat := 328
abbrev gspec_LostTags : Nat := 329
abbrev gspec_PartHello : Nat := 330
abbrev gspec_KnownOf : Nat := 331
abbrev gspec_StripGrease : Nat := 332
abbrev gspec_IsAnswer : Nat := 333
abbrev gspec_IsTranscript : Nat := 334
abbrev gspec_TranscriptHash : Nat := 335
abbrev gspec_KeyedHash : Nat := 336
abbrev gspec_EncodeExts : Nat := 337
abbrev gspec_Hash : Nat := 338
abbrev gspec_Mod : Nat := 339
abbrev gimpl_EqualHellos : Nat := 340
abbrev gimpl_LostTags : Nat := 341
abbrev gimpl_PartHello : Nat := 342
abbrev gimpl_ChooseAnswer : Nat := 343
abbrev gimpl_EditAnswer : Nat := 344
abbrev gimpl_HelloBytes : Nat := 345
abbrev gimpl_AnswerBytes : Nat := 346
abbrev gimpl_FinishOf : Nat := 347
abbrev gimpl_FitsHello : Nat := 348
abbrev gimpl_ChecksOut : Nat := 349
abbrev gimpl_copyExts_1 : Nat := 350
abbrev gimpl_ExtOf_1 : Nat := 351
abbrev gslices_IndexFunc___impl_Ext_impl_Ext_ : Nat := 352
abbrev gimpl_Hash : Nat := 353
abbrev gimpl_Mod : Nat := 354
abbrev gspec_EqualInts : Nat := 355
abbrev gspec_EqualExts : Nat := 356
abbrev gslices_Equal___int_int_ : Nat := 357
abbrev gimpl_EqualExts : Nat := 358
abbrev gimpl_PartHello_1 : Nat := 359
abbrev gimpl_IsOpenPath : Nat := 360
abbrev gimpl_KnownOf : Nat := 361
abbrev gimpl_StripGrease : Nat := 362
abbrev gimpl_EditAnswer_1 : Nat := 363
abbrev gimpl_IsTranscript : Nat := 364
abbrev gimpl_TranscriptHash : Nat := 365
abbrev gimpl_KeyedHash : Nat := 366
abbrev gimpl_EncodeExts : Nat := 367
abbrev gslices_Concat___int_int_ : Nat := 368
abbrev gimpl_IsAnswer : Nat := 369
abbrev gimpl_HasGrease : Nat := 370
abbrev gimpl_equalExt : Nat := 371
abbrev gslices_EqualFunc___impl_Ext___impl_Ext_impl_Ext_impl_Ext_ : Nat := 372
abbrev gimpl_StripGrease_1 : Nat := 373
abbrev gimpl_KnownOf_1 : Nat := 374
abbrev gimpl_IsTranscript_1 : Nat := 375
abbrev glaws_FnExactEventName : Nat := 376
abbrev gimpl_EventName : Nat := 377
abbrev glaws_FnExactIsBadDial : Nat := 378
abbrev glaws_FnExactCountKind : Nat := 379
abbrev glaws_szEventS : Nat := 380
abbrev glaws_toEventS : Nat := 381
abbrev gspec_CountKind : Nat := 382
abbrev gimpl_CountKind : Nat := 383
abbrev glaws_eqEventS : Nat := 384
abbrev glaws_FnExactExampleEnds : Nat := 385
abbrev glaws_szEvent : Nat := 386
abbrev glaws_toEvent : Nat := 387
abbrev glaws_eqEvent : Nat := 388
abbrev gslices_Index___int_int_ : Nat := 389
end Go.Eng.T

namespace Go.Eng.T

abbrev I (a : Int) : V := .sc (.int .i64 a)
abbrev B (a : Bool) : V := .sc (.bool a)
abbrev S (a : ByteArray) : V := .sc (.string a)
abbrev Rel := List V → List O → V → List O → Prop

def ints (xs : List Int) : List V := xs.map fun x => .sc (.int .i64 x)

@[simp] theorem ints_len (xs : List Int) : (ints xs).length = xs.length := by simp [ints]
@[simp] theorem ints_nil : ints [] = [] := rfl
theorem ints_get (xs : List Int) (j : Nat) : (ints xs)[j]? = (xs[j]?).map fun x => V.sc (.int .i64 x) := by simp [ints]
@[simp] theorem ints_at {xs : List Int} {j : Nat} (h : j < xs.length) : (ints xs)[j]? = some (V.sc (.int .i64 xs[j])) := by simp [ints, h]
@[simp] theorem ints_elem {xs : List Int} {j : Nat} (h : j < (ints xs).length) : (ints xs)[j] = V.sc (.int .i64 (xs[j]'(by simpa using h))) := by simp [ints]
@[simp] theorem ints_ro (xs : List Int) (k : Nat) : (ints xs).map (roCell k) = ints xs := by simp [ints, Function.comp_def, roCell]
theorem ints_app (xs ys : List Int) : ints xs ++ ints ys = ints (xs ++ ys) := by simp [ints]
@[simp] theorem ints_push (xs : List Int) (y : Int) : ints xs ++ [V.sc (.int .i64 y)] = ints (xs ++ [y]) := by simp [ints]
@[simp] theorem ints_set (xs : List Int) (j : Nat) (y : Int) : (ints xs).set j (V.sc (.int .i64 y)) = ints (xs.set j y) := by simp [ints]
@[simp] theorem ints_rep (n : Nat) : (List.replicate n [V.sc (.int .i64 0)]).flatten = ints (List.replicate n 0) := by
  induction n with
  | zero => rfl
  | succ n ih => simp [List.replicate_succ, ints] at *
@[simp] theorem ints_sc (xs : List Int) : (ints xs).all isSc = true := by simp [ints, isSc]
@[simp] theorem ints_part (xs : List Int) (o n : Nat) : part (ints xs) 1 o n = ints ((xs.drop o).take n) := by simp [part, ints]
@[simp] theorem ints_isSc : ∀ xs : List Int, (∀ x, x ∈ ints xs → isSc x = true) = True := by simp [ints, isSc]

@[simp] theorem getAt_lit (a : V) (cs : List V) (off n : Nat) : getAt (a :: cs) off n = if off + n ≤ cs.length + 1 then some (((a :: cs).drop off).take n) else none := by simp [getAt]

structure Deal where
  ok : Bool
  version : Int
  tags : List Int
  deriving DecidableEq
structure Box where
  limit : Int
  drops : List Int
  strips : List Int
  lists : Bool
  deriving DecidableEq
structure Dialed where
  deal : Deal
  tries : Int
  up : List Int
  deriving DecidableEq
structure Rollout where
  version : Int
  stages : List Int
  pos : Int
  off : Bool
  deriving DecidableEq
structure Endpoint where
  versions : List Int
  tags : List Int
  path : List Box
  cls : Int
  deriving DecidableEq
structure Logged where
  fin : Int
  tick : Int
  on : Bool
  dialed : Dialed
  deriving DecidableEq
structure World where
  server : List Int
  tags : List Int
  key : Int
  ends : List Endpoint
  rollout : Rollout
  least : Int
  percent : Int
  stage : List Dialed
  log : List Logged
  now : Int
  hurt : Int
  reached : Int
  deriving DecidableEq
structure Event where
  kind : Int
  n : Int
  box : Box
  deriving DecidableEq

abbrev sl (fl e n : Nat) (cs : List V) : V := .sl fl e n cs
def eDeal (d : Deal) : List V := [.sc (.bool d.ok), .sc (.int .i64 d.version), .sl 0 1 d.tags.length (ints d.tags)]
def eBox (d : Box) : List V := [.sc (.int .i64 d.limit), .sl 0 1 d.drops.length (ints d.drops), .sl 0 1 d.strips.length (ints d.strips), .sc (.bool d.lists)]
def eDialed (d : Dialed) : List V := [.sc (.bool d.deal.ok), .sc (.int .i64 d.deal.version), .sl 0 1 d.deal.tags.length (ints d.deal.tags), .sc (.int .i64 d.tries), .sl 0 1 d.up.length (ints d.up)]
def eRollout (d : Rollout) : List V := [.sc (.int .i64 d.version), .sl 0 1 d.stages.length (ints d.stages), .sc (.int .i64 d.pos), .sc (.bool d.off)]
def eEndpoint (d : Endpoint) : List V := [.sl 0 1 d.versions.length (ints d.versions), .sl 0 1 d.tags.length (ints d.tags), .sl 0 4 d.path.length (d.path.flatMap eBox), .sc (.int .i64 d.cls)]
def eLogged (d : Logged) : List V := [.sc (.int .i64 d.fin), .sc (.int .i64 d.tick), .sc (.bool d.on), .sc (.bool d.dialed.deal.ok), .sc (.int .i64 d.dialed.deal.version), .sl 0 1 d.dialed.deal.tags.length (ints d.dialed.deal.tags), .sc (.int .i64 d.dialed.tries), .sl 0 1 d.dialed.up.length (ints d.dialed.up)]
def eWorld (d : World) : List V := [.sl 0 1 d.server.length (ints d.server), .sl 0 1 d.tags.length (ints d.tags), .sc (.int .i64 d.key), .sl 0 4 d.ends.length (d.ends.flatMap eEndpoint), .sc (.int .i64 d.rollout.version), .sl 0 1 d.rollout.stages.length (ints d.rollout.stages), .sc (.int .i64 d.rollout.pos), .sc (.bool d.rollout.off), .sc (.int .i64 d.least), .sc (.int .i64 d.percent), .sl 0 5 d.stage.length (d.stage.flatMap eDialed), .sl 0 8 d.log.length (d.log.flatMap eLogged), .sc (.int .i64 d.now), .sc (.int .i64 d.hurt), .sc (.int .i64 d.reached)]
def eEvent (d : Event) : List V := [.sc (.int .i64 d.kind), .sc (.int .i64 d.n), .sc (.int .i64 d.box.limit), .sl 0 1 d.box.drops.length (ints d.box.drops), .sl 0 1 d.box.strips.length (ints d.box.strips), .sc (.bool d.box.lists)]

/-- an argument's cells -/
abbrev arg (cs : List V) : V := .agg (cs.map (roCell 1))

section
variable {α : Type} {f : α → List V} {e : Nat}
theorem flat_ro (hf : ∀ x, (f x).map (roCell 0) = f x) (xs : List α) : (xs.flatMap f).map (roCell 0) = xs.flatMap f := by
  induction xs with
  | nil => rfl
  | cons x xs ih => simp [hf, ih]
theorem putAt_app (cs ds : List V) (o : Nat) : ∀ (as : List V), o + as.length ≤ ds.length → putAt (cs ++ ds) (cs.length + o) as = cs ++ putAt ds o as := by
  intro as
  induction as generalizing ds o with
  | nil => intro _; simp [putAt]
  | cons a as ih =>
    intro h
    simp only [putAt, List.length_cons] at *
    rw [List.set_append_right _ _ (by omega), show cs.length + o - cs.length = o by omega, show cs.length + o + 1 = cs.length + (o + 1) by omega]
    exact ih _ _ (by simp; omega)
theorem putAt_zero : ∀ (ds as : List V), as.length ≤ ds.length → putAt ds 0 as = as ++ ds.drop as.length := by
  have key : ∀ (as pre ds : List V), as.length ≤ ds.length → putAt (pre ++ ds) pre.length as = pre ++ as ++ ds.drop as.length := by
    intro as
    induction as with
    | nil => intro pre ds _; simp [putAt]
    | cons a as ih =>
      intro pre ds h
      cases ds with
      | nil => simp at h
      | cons d ds =>
        have := ih (pre ++ [a]) ds (by simpa using h)
        simp only [putAt]
        rw [List.set_append_right _ _ (Nat.le_refl _), Nat.sub_self, List.set_cons_zero]
        simpa using this
  intro ds as h
  simpa using key as [] ds h
theorem putAt_flat (hf : ∀ x, (f x).length = e) {xs : List α} {i : Nat} (hi : i < xs.length) (x : α) : putAt (xs.flatMap f) (i * e) (f x) = (xs.set i x).flatMap f := by
  induction xs generalizing i with
  | nil => simp at hi
  | cons y ys ih =>
    cases i with
    | zero =>
      rw [Nat.zero_mul, putAt_zero _ _ (by simp [hf])]
      simp [hf]
    | succ i =>
      simp only [List.flatMap_cons, List.set_cons_succ]
      rw [show (i + 1) * e = (f y).length + i * e by rw [hf, Nat.add_mul]; omega, putAt_app]
      · rw [ih (by simpa using hi)]
      · rw [flat_len hf, hf]
        have := Nat.mul_le_mul_right e (show i + 1 ≤ ys.length by simp at hi; omega)
        rw [Nat.add_mul] at this; omega
theorem rep_flat (z : α) (n : Nat) : (List.replicate n (f z)).flatten = (List.replicate n z).flatMap f := by
  induction n with
  | zero => rfl
  | succ n ih => simp [List.replicate_succ, ih]
end

/-- a copy under way -/
def mix {α : Type} (z : α) (xs : List α) (j : Nat) : List α := xs.take j ++ List.replicate (xs.length - j) z
section
variable {α : Type} {z : α} {xs : List α} {j : Nat}
@[simp] theorem mix_len (h : j ≤ xs.length) : (mix z xs j).length = xs.length := by simp [mix]; omega
theorem mix_zero : mix z xs 0 = List.replicate xs.length z := by simp [mix]
theorem mix_all (h : xs.length ≤ j) : mix z xs j = xs := by simp [mix, Nat.sub_eq_zero_of_le h, List.take_of_length_le h]
theorem mix_set (h : j < xs.length) : (mix z xs j).set j xs[j] = mix z xs (j + 1) := by
  unfold mix
  have hl : (xs.take j).length = j := by simp; omega
  rw [List.set_append_right _ _ (by omega), hl, Nat.sub_self]
  obtain ⟨k, hk⟩ : ∃ k, xs.length - j = k + 1 := ⟨xs.length - j - 1, by omega⟩
  have hk' : xs.length - (j + 1) = k := by omega
  have ht : xs.take (j + 1) = xs.take j ++ [xs[j]] := by simp
  rw [hk, hk', List.replicate_succ, List.set_cons_zero, ht, List.append_assoc]
  rfl
end

theorem wrap_id {n : Int} (h1 : -9223372036854775808 ≤ n) (h2 : n ≤ 9223372036854775807) : IntKind.i64.wrap n = n := by
  show (if (true && decide (n % (2 ^ 64 : Int) ≥ (2 ^ 63 : Int))) = true then n % (2 ^ 64 : Int) - (2 ^ 64 : Int) else n % (2 ^ 64 : Int)) = n
  by_cases h : n % (2 ^ 64 : Int) ≥ (2 ^ 63 : Int)
  · rw [if_pos (by simp only [h]; rfl)]; omega
  · rw [if_neg (by simp only [h]; simp)]; omega

section
variable {α : Type} {xs ys : List α} {j : Nat}
theorem take_step (hx : j < xs.length) (hy : j < ys.length) (h : xs.take j = ys.take j) (he : xs[j] = ys[j]) : xs.take (j + 1) = ys.take (j + 1) := by
  rw [List.take_add_one, List.take_add_one, h, List.getElem?_eq_getElem hx, List.getElem?_eq_getElem hy, he]
theorem take_all (hx : xs.length ≤ j) (hl : xs.length = ys.length) (h : xs.take j = ys.take j) : xs = ys := by
  rwa [List.take_of_length_le hx, List.take_of_length_le (by omega)] at h
end

/-- how much a value holds -/
def sumF {α : Type} (f : α → Nat) (xs : List α) : Nat := xs.length + (xs.map f).sum
def szDeal (d : Deal) : Nat := d.tags.length
def szBox (d : Box) : Nat := d.drops.length + d.strips.length
def szDialed (d : Dialed) : Nat := szDeal d.deal + d.up.length
def szRollout (d : Rollout) : Nat := d.stages.length
def szEndpoint (d : Endpoint) : Nat := d.versions.length + d.tags.length + sumF szBox d.path
def szLogged (d : Logged) : Nat := szDialed d.dialed
def szWorld (d : World) : Nat := d.server.length + d.tags.length + sumF szEndpoint d.ends + szRollout d.rollout + sumF szDialed d.stage + sumF szLogged d.log
def szEvent (d : Event) : Nat := szBox d.box
/-- what is left of l, or -1 -/
def szl (n : Nat) (l : Int) : Int := if l < n then -1 else l - n

section
variable {α : Type} {f : α → Nat} {xs : List α} {j : Nat}
theorem sum_take (h : j < xs.length) : ((xs.take (j + 1)).map f).sum = ((xs.take j).map f).sum + f xs[j] := by
  rw [List.take_add_one, List.getElem?_eq_getElem h, List.map_append, List.sum_append, Option.toList_some, List.map_cons, List.map_nil, List.sum_cons, List.sum_nil, Nat.add_zero]
theorem sum_take_le : ((xs.take j).map f).sum ≤ (xs.map f).sum := by
  conv => rhs; rw [← List.take_append_drop j xs, List.map_append, List.sum_append]
  omega
theorem sum_all (h : xs.length ≤ j) : ((xs.take j).map f).sum = (xs.map f).sum := by rw [List.take_of_length_le h]
theorem size_at (h : j < xs.length) : f xs[j] ≤ sumF f xs := by
  have h1 := sum_take (f := f) h
  have h2 := sum_take_le (f := f) (xs := xs) (j := j + 1)
  unfold sumF; omega
theorem size_len : xs.length ≤ sumF f xs := by unfold sumF; omega
end
/-- lengths that a value may have at all -/
def lnInts (xs : List Int) : Prop := xs.length ≤ maxLen
def lnS {α : Type} (f : α → Prop) (xs : List α) : Prop := xs.length ≤ maxLen ∧ ∀ (j : Nat) (h : j < xs.length), f xs[j]
def lnDeal (d : Deal) : Prop := lnInts d.tags
def lnBox (d : Box) : Prop := lnInts d.drops ∧ lnInts d.strips
def lnDialed (d : Dialed) : Prop := lnDeal d.deal ∧ lnInts d.up
def lnRollout (d : Rollout) : Prop := lnInts d.stages
def lnEndpoint (d : Endpoint) : Prop := lnInts d.versions ∧ lnInts d.tags ∧ lnS lnBox d.path
def lnLogged (d : Logged) : Prop := lnDialed d.dialed
def lnWorld (d : World) : Prop := lnInts d.server ∧ lnInts d.tags ∧ lnS lnEndpoint d.ends ∧ lnRollout d.rollout ∧ lnS lnDialed d.stage ∧ lnS lnLogged d.log
def lnEvent (d : Event) : Prop := lnBox d.box

theorem eDeal_len (x : Deal) : (eDeal x).length = 3 := rfl
theorem eBox_len (x : Box) : (eBox x).length = 4 := rfl
theorem eDialed_len (x : Dialed) : (eDialed x).length = 5 := rfl
theorem eRollout_len (x : Rollout) : (eRollout x).length = 4 := rfl
theorem eEndpoint_len (x : Endpoint) : (eEndpoint x).length = 4 := rfl
theorem eLogged_len (x : Logged) : (eLogged x).length = 8 := rfl
theorem eWorld_len (x : World) : (eWorld x).length = 15 := rfl
theorem eEvent_len (x : Event) : (eEvent x).length = 6 := rfl
@[simp] theorem eBox_ro (xs : List Box) : (xs.flatMap eBox).map (roCell 0) = xs.flatMap eBox := flat_ro (fun _ => rfl) xs
@[simp] theorem eDialed_ro (xs : List Dialed) : (xs.flatMap eDialed).map (roCell 0) = xs.flatMap eDialed := flat_ro (fun _ => rfl) xs
@[simp] theorem eEndpoint_ro (xs : List Endpoint) : (xs.flatMap eEndpoint).map (roCell 0) = xs.flatMap eEndpoint := flat_ro (fun _ => rfl) xs
@[simp] theorem eLogged_ro (xs : List Logged) : (xs.flatMap eLogged).map (roCell 0) = xs.flatMap eLogged := flat_ro (fun _ => rfl) xs
@[simp] theorem eEvent_ro (xs : List Event) : (xs.flatMap eEvent).map (roCell 0) = xs.flatMap eEvent := flat_ro (fun _ => rfl) xs
@[simp high] theorem eBox_at {xs : List Box} {j : Nat} (h : j < xs.length) : getAt (xs.flatMap eBox) (j * 4) 4 = some (eBox xs[j]) := getAt_flat eBox_len h
@[simp high] theorem eDialed_at {xs : List Dialed} {j : Nat} (h : j < xs.length) : getAt (xs.flatMap eDialed) (j * 5) 5 = some (eDialed xs[j]) := getAt_flat eDialed_len h
@[simp high] theorem eEndpoint_at {xs : List Endpoint} {j : Nat} (h : j < xs.length) : getAt (xs.flatMap eEndpoint) (j * 4) 4 = some (eEndpoint xs[j]) := getAt_flat eEndpoint_len h
@[simp high] theorem eLogged_at {xs : List Logged} {j : Nat} (h : j < xs.length) : getAt (xs.flatMap eLogged) (j * 8) 8 = some (eLogged xs[j]) := getAt_flat eLogged_len h
@[simp high] theorem eEvent_at {xs : List Event} {j : Nat} (h : j < xs.length) : getAt (xs.flatMap eEvent) (j * 6) 6 = some (eEvent xs[j]) := getAt_flat eEvent_len h
@[simp high] theorem eBox_flen (xs : List Box) : (xs.flatMap eBox).length = xs.length * 4 := flat_len eBox_len xs
@[simp high] theorem eBox_put {xs : List Box} {j : Nat} (h : j < xs.length) (a : Int) (b c : List Int) (d : Bool) : putAt (xs.flatMap eBox) (j * 4) [.sc (.int .i64 a), .sl 0 1 b.length (ints b), .sl 0 1 c.length (ints c), .sc (.bool d)] = (xs.set j ⟨a, b, c, d⟩).flatMap eBox := putAt_flat eBox_len h ⟨a, b, c, d⟩
@[simp] theorem eBox_push (xs : List Box) (a : Int) (b c : List Int) (d : Bool) : xs.flatMap eBox ++ [.sc (.int .i64 a), .sl 0 1 b.length (ints b), .sl 0 1 c.length (ints c), .sc (.bool d)] = (xs ++ [(⟨a, b, c, d⟩ : Box)]).flatMap eBox := by simp [eBox]
@[simp high] theorem eDialed_flen (xs : List Dialed) : (xs.flatMap eDialed).length = xs.length * 5 := flat_len eDialed_len xs
@[simp high] theorem eDialed_put {xs : List Dialed} {j : Nat} (h : j < xs.length) (a : Bool) (b : Int) (c : List Int) (d : Int) (u : List Int) : putAt (xs.flatMap eDialed) (j * 5) [.sc (.bool a), .sc (.int .i64 b), .sl 0 1 c.length (ints c), .sc (.int .i64 d), .sl 0 1 u.length (ints u)] = (xs.set j ⟨⟨a, b, c⟩, d, u⟩).flatMap eDialed := putAt_flat eDialed_len h ⟨⟨a, b, c⟩, d, u⟩
@[simp] theorem eDialed_push (xs : List Dialed) (a : Bool) (b : Int) (c : List Int) (d : Int) (u : List Int) : xs.flatMap eDialed ++ [.sc (.bool a), .sc (.int .i64 b), .sl 0 1 c.length (ints c), .sc (.int .i64 d), .sl 0 1 u.length (ints u)] = (xs ++ [(⟨⟨a, b, c⟩, d, u⟩ : Dialed)]).flatMap eDialed := by simp [eDialed]
@[simp high] theorem eEndpoint_flen (xs : List Endpoint) : (xs.flatMap eEndpoint).length = xs.length * 4 := flat_len eEndpoint_len xs
@[simp high] theorem eEndpoint_put {xs : List Endpoint} {j : Nat} (h : j < xs.length) (a b : List Int) (c : List Box) (d : Int) : putAt (xs.flatMap eEndpoint) (j * 4) [.sl 0 1 a.length (ints a), .sl 0 1 b.length (ints b), .sl 0 4 c.length (c.flatMap eBox), .sc (.int .i64 d)] = (xs.set j ⟨a, b, c, d⟩).flatMap eEndpoint := putAt_flat eEndpoint_len h ⟨a, b, c, d⟩
@[simp] theorem eEndpoint_push (xs : List Endpoint) (a b : List Int) (c : List Box) (d : Int) : xs.flatMap eEndpoint ++ [.sl 0 1 a.length (ints a), .sl 0 1 b.length (ints b), .sl 0 4 c.length (c.flatMap eBox), .sc (.int .i64 d)] = (xs ++ [(⟨a, b, c, d⟩ : Endpoint)]).flatMap eEndpoint := by simp [eEndpoint]
@[simp high] theorem eLogged_flen (xs : List Logged) : (xs.flatMap eLogged).length = xs.length * 8 := flat_len eLogged_len xs
@[simp high] theorem eLogged_put {xs : List Logged} {j : Nat} (h : j < xs.length) (m n : Int) (o a : Bool) (b : Int) (c : List Int) (d : Int) (u : List Int) : putAt (xs.flatMap eLogged) (j * 8) [.sc (.int .i64 m), .sc (.int .i64 n), .sc (.bool o), .sc (.bool a), .sc (.int .i64 b), .sl 0 1 c.length (ints c), .sc (.int .i64 d), .sl 0 1 u.length (ints u)] = (xs.set j ⟨m, n, o, ⟨⟨a, b, c⟩, d, u⟩⟩).flatMap eLogged := putAt_flat eLogged_len h ⟨m, n, o, ⟨⟨a, b, c⟩, d, u⟩⟩
@[simp] theorem eLogged_push (xs : List Logged) (m n : Int) (o a : Bool) (b : Int) (c : List Int) (d : Int) (u : List Int) : xs.flatMap eLogged ++ [.sc (.int .i64 m), .sc (.int .i64 n), .sc (.bool o), .sc (.bool a), .sc (.int .i64 b), .sl 0 1 c.length (ints c), .sc (.int .i64 d), .sl 0 1 u.length (ints u)] = (xs ++ [(⟨m, n, o, ⟨⟨a, b, c⟩, d, u⟩⟩ : Logged)]).flatMap eLogged := by simp [eLogged]
@[simp high] theorem eEvent_flen (xs : List Event) : (xs.flatMap eEvent).length = xs.length * 6 := flat_len eEvent_len xs
@[simp high] theorem eEvent_put {xs : List Event} {j : Nat} (h : j < xs.length) (m n : Int) (a : Int) (b c : List Int) (d : Bool) : putAt (xs.flatMap eEvent) (j * 6) [.sc (.int .i64 m), .sc (.int .i64 n), .sc (.int .i64 a), .sl 0 1 b.length (ints b), .sl 0 1 c.length (ints c), .sc (.bool d)] = (xs.set j ⟨m, n, ⟨a, b, c, d⟩⟩).flatMap eEvent := putAt_flat eEvent_len h ⟨m, n, ⟨a, b, c, d⟩⟩
@[simp] theorem eEvent_push (xs : List Event) (m n : Int) (a : Int) (b c : List Int) (d : Bool) : xs.flatMap eEvent ++ [.sc (.int .i64 m), .sc (.int .i64 n), .sc (.int .i64 a), .sl 0 1 b.length (ints b), .sl 0 1 c.length (ints c), .sc (.bool d)] = (xs ++ [(⟨m, n, ⟨a, b, c, d⟩⟩ : Event)]).flatMap eEvent := by simp [eEvent]

@[simp high] theorem eBox_c0 {xs : List Box} {j : Nat} (h : j < xs.length) : (xs.flatMap eBox)[j * 4]? = some (.sc (.int .i64 xs[j].limit)) := by
  have := getCell_flat (o := 0) eBox_len h (by omega)
  simpa [eBox] using this
@[simp high] theorem eBox_c1 {xs : List Box} {j : Nat} (h : j < xs.length) : (xs.flatMap eBox)[j * 4 + 1]? = some (.sl 0 1 xs[j].drops.length (ints xs[j].drops)) := by
  have := getCell_flat (o := 1) eBox_len h (by omega)
  simpa [eBox] using this
@[simp high] theorem eBox_c2 {xs : List Box} {j : Nat} (h : j < xs.length) : (xs.flatMap eBox)[j * 4 + 2]? = some (.sl 0 1 xs[j].strips.length (ints xs[j].strips)) := by
  have := getCell_flat (o := 2) eBox_len h (by omega)
  simpa [eBox] using this
@[simp high] theorem eBox_c3 {xs : List Box} {j : Nat} (h : j < xs.length) : (xs.flatMap eBox)[j * 4 + 3]? = some (.sc (.bool xs[j].lists)) := by
  have := getCell_flat (o := 3) eBox_len h (by omega)
  simpa [eBox] using this
@[simp high] theorem eDialed_c0 {xs : List Dialed} {j : Nat} (h : j < xs.length) : (xs.flatMap eDialed)[j * 5]? = some (.sc (.bool xs[j].deal.ok)) := by
  have := getCell_flat (o := 0) eDialed_len h (by omega)
  simpa [eDialed] using this
@[simp high] theorem eDialed_c1 {xs : List Dialed} {j : Nat} (h : j < xs.length) : (xs.flatMap eDialed)[j * 5 + 1]? = some (.sc (.int .i64 xs[j].deal.version)) := by
  have := getCell_flat (o := 1) eDialed_len h (by omega)
  simpa [eDialed] using this
@[simp high] theorem eDialed_c2 {xs : List Dialed} {j : Nat} (h : j < xs.length) : (xs.flatMap eDialed)[j * 5 + 2]? = some (.sl 0 1 xs[j].deal.tags.length (ints xs[j].deal.tags)) := by
  have := getCell_flat (o := 2) eDialed_len h (by omega)
  simpa [eDialed] using this
@[simp high] theorem eDialed_c3 {xs : List Dialed} {j : Nat} (h : j < xs.length) : (xs.flatMap eDialed)[j * 5 + 3]? = some (.sc (.int .i64 xs[j].tries)) := by
  have := getCell_flat (o := 3) eDialed_len h (by omega)
  simpa [eDialed] using this
@[simp high] theorem eDialed_c4 {xs : List Dialed} {j : Nat} (h : j < xs.length) : (xs.flatMap eDialed)[j * 5 + 4]? = some (.sl 0 1 xs[j].up.length (ints xs[j].up)) := by
  have := getCell_flat (o := 4) eDialed_len h (by omega)
  simpa [eDialed] using this
@[simp high] theorem eEndpoint_c0 {xs : List Endpoint} {j : Nat} (h : j < xs.length) : (xs.flatMap eEndpoint)[j * 4]? = some (.sl 0 1 xs[j].versions.length (ints xs[j].versions)) := by
  have := getCell_flat (o := 0) eEndpoint_len h (by omega)
  simpa [eEndpoint] using this
@[simp high] theorem eEndpoint_c1 {xs : List Endpoint} {j : Nat} (h : j < xs.length) : (xs.flatMap eEndpoint)[j * 4 + 1]? = some (.sl 0 1 xs[j].tags.length (ints xs[j].tags)) := by
  have := getCell_flat (o := 1) eEndpoint_len h (by omega)
  simpa [eEndpoint] using this
@[simp high] theorem eEndpoint_c2 {xs : List Endpoint} {j : Nat} (h : j < xs.length) : (xs.flatMap eEndpoint)[j * 4 + 2]? = some (.sl 0 4 xs[j].path.length (xs[j].path.flatMap eBox)) := by
  have := getCell_flat (o := 2) eEndpoint_len h (by omega)
  simpa [eEndpoint] using this
@[simp high] theorem eEndpoint_c3 {xs : List Endpoint} {j : Nat} (h : j < xs.length) : (xs.flatMap eEndpoint)[j * 4 + 3]? = some (.sc (.int .i64 xs[j].cls)) := by
  have := getCell_flat (o := 3) eEndpoint_len h (by omega)
  simpa [eEndpoint] using this
@[simp high] theorem eLogged_c0 {xs : List Logged} {j : Nat} (h : j < xs.length) : (xs.flatMap eLogged)[j * 8]? = some (.sc (.int .i64 xs[j].fin)) := by
  have := getCell_flat (o := 0) eLogged_len h (by omega)
  simpa [eLogged] using this
@[simp high] theorem eLogged_c1 {xs : List Logged} {j : Nat} (h : j < xs.length) : (xs.flatMap eLogged)[j * 8 + 1]? = some (.sc (.int .i64 xs[j].tick)) := by
  have := getCell_flat (o := 1) eLogged_len h (by omega)
  simpa [eLogged] using this
@[simp high] theorem eLogged_c2 {xs : List Logged} {j : Nat} (h : j < xs.length) : (xs.flatMap eLogged)[j * 8 + 2]? = some (.sc (.bool xs[j].on)) := by
  have := getCell_flat (o := 2) eLogged_len h (by omega)
  simpa [eLogged] using this
@[simp high] theorem eLogged_c3 {xs : List Logged} {j : Nat} (h : j < xs.length) : (xs.flatMap eLogged)[j * 8 + 3]? = some (.sc (.bool xs[j].dialed.deal.ok)) := by
  have := getCell_flat (o := 3) eLogged_len h (by omega)
  simpa [eLogged] using this
@[simp high] theorem eLogged_c4 {xs : List Logged} {j : Nat} (h : j < xs.length) : (xs.flatMap eLogged)[j * 8 + 4]? = some (.sc (.int .i64 xs[j].dialed.deal.version)) := by
  have := getCell_flat (o := 4) eLogged_len h (by omega)
  simpa [eLogged] using this
@[simp high] theorem eLogged_c5 {xs : List Logged} {j : Nat} (h : j < xs.length) : (xs.flatMap eLogged)[j * 8 + 5]? = some (.sl 0 1 xs[j].dialed.deal.tags.length (ints xs[j].dialed.deal.tags)) := by
  have := getCell_flat (o := 5) eLogged_len h (by omega)
  simpa [eLogged] using this
@[simp high] theorem eLogged_c6 {xs : List Logged} {j : Nat} (h : j < xs.length) : (xs.flatMap eLogged)[j * 8 + 6]? = some (.sc (.int .i64 xs[j].dialed.tries)) := by
  have := getCell_flat (o := 6) eLogged_len h (by omega)
  simpa [eLogged] using this
@[simp high] theorem eLogged_c7 {xs : List Logged} {j : Nat} (h : j < xs.length) : (xs.flatMap eLogged)[j * 8 + 7]? = some (.sl 0 1 xs[j].dialed.up.length (ints xs[j].dialed.up)) := by
  have := getCell_flat (o := 7) eLogged_len h (by omega)
  simpa [eLogged] using this
@[simp high] theorem eEvent_c0 {xs : List Event} {j : Nat} (h : j < xs.length) : (xs.flatMap eEvent)[j * 6]? = some (.sc (.int .i64 xs[j].kind)) := by
  have := getCell_flat (o := 0) eEvent_len h (by omega)
  simpa [eEvent] using this
@[simp high] theorem eEvent_c1 {xs : List Event} {j : Nat} (h : j < xs.length) : (xs.flatMap eEvent)[j * 6 + 1]? = some (.sc (.int .i64 xs[j].n)) := by
  have := getCell_flat (o := 1) eEvent_len h (by omega)
  simpa [eEvent] using this
@[simp high] theorem eEvent_c2 {xs : List Event} {j : Nat} (h : j < xs.length) : (xs.flatMap eEvent)[j * 6 + 2]? = some (.sc (.int .i64 xs[j].box.limit)) := by
  have := getCell_flat (o := 2) eEvent_len h (by omega)
  simpa [eEvent] using this
@[simp high] theorem eEvent_c3 {xs : List Event} {j : Nat} (h : j < xs.length) : (xs.flatMap eEvent)[j * 6 + 3]? = some (.sl 0 1 xs[j].box.drops.length (ints xs[j].box.drops)) := by
  have := getCell_flat (o := 3) eEvent_len h (by omega)
  simpa [eEvent] using this
@[simp high] theorem eEvent_c4 {xs : List Event} {j : Nat} (h : j < xs.length) : (xs.flatMap eEvent)[j * 6 + 4]? = some (.sl 0 1 xs[j].box.strips.length (ints xs[j].box.strips)) := by
  have := getCell_flat (o := 4) eEvent_len h (by omega)
  simpa [eEvent] using this
@[simp high] theorem eEvent_c5 {xs : List Event} {j : Nat} (h : j < xs.length) : (xs.flatMap eEvent)[j * 6 + 5]? = some (.sc (.bool xs[j].box.lists)) := by
  have := getCell_flat (o := 5) eEvent_len h (by omega)
  simpa [eEvent] using this

attribute [simp] Nat.add_one_le_iff eDeal eBox eDialed eRollout eEndpoint eLogged eWorld eEvent
end Go.Eng.T

namespace Go.Eng.T


abbrev InS (R : Rel) : Prop := ∀ a b c : Int, R [I a, I b, I c] [] (B (decide (b ≤ a ∧ a ≤ c))) []
def evNames : List (List UInt8) := [[], [100, 105, 97, 108], [115, 116, 97, 114, 116], [115, 116, 97, 103, 101], [114, 101, 116, 105, 114, 101], [114, 101, 118, 105, 118, 101], [98, 111, 120], [99, 108, 101, 97, 114], [116, 105, 99, 107]]
def evName (k : Int) : ByteArray := if 1 ≤ k ∧ k ≤ 8 then ⟨(evNames.getD k.toNat []).toArray⟩ else ⟨#[]⟩
theorem evCases {k : Int} (h : 1 ≤ k ∧ k ≤ 8) : k = 1 ∨ k = 2 ∨ k = 3 ∨ k = 4 ∨ k = 5 ∨ k = 6 ∨ k = 7 ∨ k = 8 := by omega
abbrev EventNameS (R : Rel) : Prop := ∀ k : Int, R [I k] [] (S (evName k)) []

abbrev FnExactEventNameS (R : Rel) : Prop := ∀ k : Int, R [I k] [] (B true) []
end Go.Eng.T

namespace Go.Eng.T

abbrev szIntSS (R : Rel) : Prop := ∀ (xs : List Int) (l : Int), 0 ≤ l → l ≤ 1048576 → lnInts xs → R [.sl 1 1 xs.length (ints xs), I l] [] (I (szl xs.length l)) []
theorem szIntS_b (D : Dn) : szIntSS (Body D slaws_szIntS) := by
  intro xs l h1 h2 h3
  have hw : IntKind.i64.wrap (l - (xs.length : Int)) = l - xs.length := by unfold lnInts maxLen at h3; exact wrap_id (by omega) (by omega)
  by_cases h : l < xs.length
  · have h' : l - (xs.length : Int) < 0 := by omega
    simp -implicitDefEqProofs [hw, h, h', szl]
  · have h' : ¬ l - (xs.length : Int) < 0 := by omega
    simp -implicitDefEqProofs [hw, h, h', szl]

abbrev toIntSS (R : Rel) : Prop := ∀ (xs : List Int), xs.length * 8 ≤ 2 ^ 40 → R [.sl 1 1 xs.length (ints xs)] [] (.sl 0 1 xs.length (ints xs)) []
theorem toIntS_b (D : Dn) : toIntSS (Body D slaws_toIntS) := by
  intro xs hl
  have h1 : ((xs.length : Nat) : Int) * 8 ≤ 1099511627776 := by omega
  simp -implicitDefEqProofs [h1]
  refine swp_loop (fun k s => ∃ j, j + k = xs.length ∧ s = ⟨[.sl 1 1 xs.length (ints xs), .undef, .arr 0, .sc (.int .i64 j), .undef], [.arr 1 0 xs.length (ints (mix 0 xs j))]⟩) ?_ xs.length _ ⟨0, by simp, by simp [mix_zero, ints]⟩
  intro k s ⟨j, hj, hs⟩
  subst hs
  by_cases hjn : j < xs.length
  · have hw : IntKind.i64.wrap ((j : Int) + 1) = (j + 1 : Nat) := by rw [wrap_id (by omega) (by omega)]; simp
    simp -implicitDefEqProofs [hjn, Nat.le_of_lt hjn, mix_set]
    exact ⟨k - 1, by omega, j + 1, by omega, by simp [hw], rfl⟩
  · have hje : mix 0 xs j = xs := mix_all (by omega)
    simp -implicitDefEqProofs [hjn, hje]

abbrev eqIntSS (R : Rel) : Prop := ∀ (xs ys : List Int), xs.length ≤ maxLen → ys.length ≤ maxLen → R [.sl 1 1 xs.length (ints xs), .sl 1 1 ys.length (ints ys)] [] (B (decide (xs = ys))) []
theorem eqIntS_b (D : Dn) : eqIntSS (Body D slaws_eqIntS) := by
  intro xs ys h1 h2
  unfold maxLen at h1 h2
  by_cases hl : xs.length = ys.length
  · have hl' : (xs.length : Int) = ys.length := by omega
    simp -implicitDefEqProofs [hl']
    refine swp_loop (fun k s => ∃ j, j + k = xs.length ∧ xs.take j = ys.take j ∧ s = ⟨[.sl 1 1 xs.length (ints xs), .sl 1 1 ys.length (ints ys), .undef, .sc (.int .i64 j), .undef, .undef, .undef], []⟩) ?_ xs.length _ ⟨0, by simp, by simp, by simp⟩
    intro k s ⟨j, hj, hp, hs⟩
    subst hs
    by_cases hjn : j < xs.length
    · have hw : IntKind.i64.wrap ((j : Int) + 1) = (j + 1 : Nat) := by rw [wrap_id (by omega) (by omega)]; simp
      have hy : j < ys.length := by omega
      by_cases he : xs[j] = ys[j]
      · simp -implicitDefEqProofs [hjn, hy, he]
        exact ⟨k - 1, by omega, j + 1, by omega, take_step hjn hy hp he, by simp [hw]⟩
      · have hne : xs ≠ ys := fun h => he (by simp [h])
        simp -implicitDefEqProofs [hjn, hy, he, hne]
    · obtain rfl : xs = ys := take_all (by omega) hl hp
      simp -implicitDefEqProofs [hjn]
  · have hl' : ¬ (xs.length : Int) = ys.length := by omega
    have : xs ≠ ys := fun h => hl (by rw [h])
    simp -implicitDefEqProofs [hl', this]
end Go.Eng.T

namespace Go.Eng.T
abbrev szBoxS (R : Rel) : Prop := ∀ (x : Box) (l : Int), 0 ≤ l → l ≤ 1048576 → lnBox x → R [arg (eBox x), I l] [] (I (szl (szBox x) l)) []
theorem szBox_b (D : Dn) (hszIntS : szIntSS (D 16)) : szBoxS (Body D slaws_szBox) := by
  intro x l hl1 hl2 hln
  simp only [lnBox] at hln
  simp -implicitDefEqProofs
  refine callQ_of (hszIntS x.drops (l) (by omega) (by omega) hln.1) ?_
  by_cases g0 : l < ((x.drops.length : Nat) : Int)
  · have gg : l < ((szBox x : Nat) : Int) := by simp only [szBox]; omega
    have e1 : szl (x.drops.length) (l) = -1 := by unfold szl; rw [if_pos g0]
    have e2 : szl (szBox x) l = -1 := by unfold szl; rw [if_pos gg]
    simp -implicitDefEqProofs [e1, e2]
  have e3 : szl (x.drops.length) (l) = l - ((x.drops.length : Nat) : Int) := by unfold szl; rw [if_neg g0]
  have p0 : ¬ l - ((x.drops.length : Nat) : Int) < 0 := by omega
  simp -implicitDefEqProofs [e3, p0]
  refine callQ_of (hszIntS x.strips (l - ((x.drops.length : Nat) : Int)) (by omega) (by omega) hln.2) ?_
  by_cases g1 : l - ((x.drops.length : Nat) : Int) < ((x.strips.length : Nat) : Int)
  · have gg : l < ((szBox x : Nat) : Int) := by simp only [szBox]; omega
    have e1 : szl (x.strips.length) (l - ((x.drops.length : Nat) : Int)) = -1 := by unfold szl; rw [if_pos g1]
    have e2 : szl (szBox x) l = -1 := by unfold szl; rw [if_pos gg]
    simp -implicitDefEqProofs [e1, e2]
  have e4 : szl (x.strips.length) (l - ((x.drops.length : Nat) : Int)) = l - ((x.drops.length : Nat) : Int) - ((x.strips.length : Nat) : Int) := by unfold szl; rw [if_neg g1]
  have p1 : ¬ l - ((x.drops.length : Nat) : Int) - ((x.strips.length : Nat) : Int) < 0 := by omega
  simp -implicitDefEqProofs [e4, p1]
  have gg : ¬ l < ((szBox x : Nat) : Int) := by simp only [szBox]; omega
  unfold szl; rw [if_neg gg]; simp only [szBox] <;> omega
abbrev toBoxS (R : Rel) : Prop := ∀ x : Box, szBox x ≤ 1048576 → R [arg (eBox x)] [] (.agg (eBox x)) []
theorem toBox_b (D : Dn) (htoIntS : toIntSS (D 31)) : toBoxS (Body D slaws_toBox) := by
  intro x h
  simp only [szBox] at h
  simp -implicitDefEqProofs
  refine callQ_of (htoIntS x.drops (by omega)) ?_
  simp -implicitDefEqProofs
  refine callQ_of (htoIntS x.strips (by omega)) ?_
  simp -implicitDefEqProofs
abbrev eqBoxS (R : Rel) : Prop := ∀ x y : Box, szBox x ≤ 2 ^ 40 → szBox y ≤ 2 ^ 40 → R [arg (eBox x), arg (eBox y)] [] (B (decide (x = y))) []
theorem eqBox_b (D : Dn) (heqIntS : eqIntSS (D 47)) : eqBoxS (Body D slaws_eqBox) := by
  intro x y h1 h2
  simp only [szBox] at h1 h2
  by_cases g_limit : x.limit = y.limit
  rotate_left
  · have hne : x ≠ y := fun h => g_limit (by rw [h])
    simp -implicitDefEqProofs [g_limit, hne]
  simp -implicitDefEqProofs [g_limit]
  refine callQ_of (heqIntS x.drops y.drops (by unfold maxLen; omega) (by unfold maxLen; omega)) ?_
  by_cases g_drops : x.drops = y.drops
  rotate_left
  · have hne : x ≠ y := fun h => g_drops (by rw [h])
    simp -implicitDefEqProofs [g_drops, hne]
  simp -implicitDefEqProofs [g_drops]
  refine callQ_of (heqIntS x.strips y.strips (by unfold maxLen; omega) (by unfold maxLen; omega)) ?_
  by_cases g_strips : x.strips = y.strips
  rotate_left
  · have hne : x ≠ y := fun h => g_strips (by rw [h])
    simp -implicitDefEqProofs [g_strips, hne]
  simp -implicitDefEqProofs [g_strips]
  by_cases g_lists : x.lists = y.lists
  rotate_left
  · have hne : x ≠ y := fun h => g_lists (by rw [h])
    simp -implicitDefEqProofs [g_lists, hne]
  simp -implicitDefEqProofs [g_lists]
  have hxy : x = y := by cases x; cases y; simp_all
  simp -implicitDefEqProofs [hxy]
abbrev szEventS (R : Rel) : Prop := ∀ (x : Event) (l : Int), 0 ≤ l → l ≤ 1048576 → lnEvent x → R [arg (eEvent x), I l] [] (I (szl (szEvent x) l)) []
theorem szEvent_b (D : Dn) (hszBox : szBoxS (D 206)) : szEventS (Body D slaws_szEvent) := by
  intro x l hl1 hl2 hln
  simp only [lnEvent] at hln
  simp -implicitDefEqProofs
  refine callQ_of (hszBox x.box (l) (by omega) (by omega) hln) ?_
  by_cases g0 : l < ((szBox x.box : Nat) : Int)
  · have gg : l < ((szEvent x : Nat) : Int) := by simp only [szEvent]; omega
    have e1 : szl (szBox x.box) (l) = -1 := by unfold szl; rw [if_pos g0]
    have e2 : szl (szEvent x) l = -1 := by unfold szl; rw [if_pos gg]
    simp -implicitDefEqProofs [e1, e2]
  have e3 : szl (szBox x.box) (l) = l - ((szBox x.box : Nat) : Int) := by unfold szl; rw [if_neg g0]
  have p0 : ¬ l - ((szBox x.box : Nat) : Int) < 0 := by omega
  simp -implicitDefEqProofs [e3, p0]
  have gg : ¬ l < ((szEvent x : Nat) : Int) := by simp only [szEvent]; omega
  unfold szl; rw [if_neg gg]; simp only [szEvent] <;> omega
abbrev toEventS (R : Rel) : Prop := ∀ x : Event, szEvent x ≤ 1048576 → R [arg (eEvent x)] [] (.agg (eEvent x)) []
theorem toEvent_b (D : Dn) (htoBox : toBoxS (D 226)) : toEventS (Body D slaws_toEvent) := by
  intro x h
  simp only [szEvent] at h
  simp -implicitDefEqProofs
  refine callQ_of (htoBox x.box (by omega)) ?_
  simp -implicitDefEqProofs
abbrev eqEventS (R : Rel) : Prop := ∀ x y : Event, szEvent x ≤ 2 ^ 40 → szEvent y ≤ 2 ^ 40 → R [arg (eEvent x), arg (eEvent y)] [] (B (decide (x = y))) []
theorem eqEvent_b (D : Dn) (heqBox : eqBoxS (D 249)) : eqEventS (Body D slaws_eqEvent) := by
  intro x y h1 h2
  simp only [szEvent] at h1 h2
  by_cases g_kind : x.kind = y.kind
  rotate_left
  · have hne : x ≠ y := fun h => g_kind (by rw [h])
    simp -implicitDefEqProofs [g_kind, hne]
  simp -implicitDefEqProofs [g_kind]
  by_cases g_n : x.n = y.n
  rotate_left
  · have hne : x ≠ y := fun h => g_n (by rw [h])
    simp -implicitDefEqProofs [g_n, hne]
  simp -implicitDefEqProofs [g_n]
  refine callQ_of (heqBox x.box y.box (by omega) (by omega)) ?_
  by_cases g_box : x.box = y.box
  rotate_left
  · have hne : x ≠ y := fun h => g_box (by rw [h])
    simp -implicitDefEqProofs [g_box, hne]
  simp -implicitDefEqProofs [g_box]
  have hxy : x = y := by cases x; cases y; simp_all
  simp -implicitDefEqProofs [hxy]
abbrev szEventSS (R : Rel) : Prop := ∀ (xs : List Event) (l : Int), 0 ≤ l → l ≤ 1048576 → lnS lnEvent xs → R [.sl 1 6 xs.length (xs.flatMap eEvent), I l] [] (I (szl (sumF szEvent xs) l)) []
theorem szEventS_b (D : Dn) (hsz : szEventS (D 386)) : szEventSS (Body D slaws_szEventS) := by
  intro xs l h1 h2 hln
  have h3 := hln.1
  unfold maxLen at h3
  have hw : IntKind.i64.wrap (l - (xs.length : Int)) = l - xs.length := wrap_id (by omega) (by omega)
  by_cases h : l < (xs.length : Int)
  · have h' : l - (xs.length : Int) < 0 := by omega
    have e2 : szl (sumF szEvent xs) l = -1 := by unfold szl sumF; rw [if_pos (by omega)]
    simp -implicitDefEqProofs [hw, h', e2]
  · have h' : ¬ l - (xs.length : Int) < 0 := by omega
    simp -implicitDefEqProofs [hw, h']
    refine swp_loop (fun k s => ∃ j, j + k = xs.length ∧ ((xs.take j).map szEvent).sum + xs.length ≤ l ∧ s = ⟨[.sl 1 6 xs.length (xs.flatMap eEvent), .sc (.int .i64 (l - xs.length - ((((xs.take j).map szEvent).sum : Nat) : Int))), .undef, .sc (.int .i64 j), .undef, .undef, .undef], []⟩) ?_ xs.length _ ⟨0, by simp, by simp; omega, by simp⟩
    intro k s ⟨j, hj, hp, hs⟩
    subst hs
    by_cases hjn : j < xs.length
    · have hw : IntKind.i64.wrap ((j : Int) + 1) = (j + 1 : Nat) := by rw [wrap_id (by omega) (by omega)]; simp
      have ht := sum_take (f := szEvent) hjn
      have htl := sum_take_le (f := szEvent) (xs := xs) (j := j + 1)
      simp -implicitDefEqProofs [hjn, -List.map_take]
      refine callQ_of (hsz xs[j] _ (by omega) (by omega) (hln.2 j hjn)) ?_
      by_cases he : l - xs.length - ((((xs.take j).map szEvent).sum : Nat) : Int) < szEvent xs[j]
      · have e1 : szl (szEvent xs[j]) (l - xs.length - ((((xs.take j).map szEvent).sum : Nat) : Int)) = -1 := by unfold szl; rw [if_pos he]
        have e2 : szl (sumF szEvent xs) l = -1 := by unfold szl sumF; rw [if_pos (by omega)]
        simp -implicitDefEqProofs [e1, e2, -List.map_take]
      · have e1 : szl (szEvent xs[j]) (l - xs.length - ((((xs.take j).map szEvent).sum : Nat) : Int)) = l - xs.length - ((((xs.take j).map szEvent).sum : Nat) : Int) - szEvent xs[j] := by unfold szl; rw [if_neg he]
        have e3 : ¬ l - xs.length - ((((xs.take j).map szEvent).sum : Nat) : Int) - szEvent xs[j] < 0 := by omega
        simp -implicitDefEqProofs [e1, e3, -List.map_take]
        refine ⟨k - 1, by omega, j + 1, by omega, by omega, ?_, by simp [hw]⟩
        rw [ht]; omega
    · have hsm := sum_all (f := szEvent) (xs := xs) (j := j) (by omega)
      have e2 : szl (sumF szEvent xs) l = l - xs.length - ((((xs.take j).map szEvent).sum : Nat) : Int) := by unfold szl sumF; rw [if_neg (by omega)]; omega
      simp -implicitDefEqProofs [hjn, e2, -List.map_take]
abbrev toEventSS (R : Rel) : Prop := ∀ xs : List Event, sumF szEvent xs ≤ 1048576 → R [.sl 1 6 xs.length (xs.flatMap eEvent)] [] (.sl 0 6 xs.length (xs.flatMap eEvent)) []
theorem toEventS_b (D : Dn) (hto : toEventS (D 387)) : toEventSS (Body D slaws_toEventS) := by
  intro xs h
  have hlen := size_len (f := szEvent) (xs := xs)
  have h1 : ((xs.length : Nat) : Int) * 80 ≤ 1099511627776 := by omega
  simp -implicitDefEqProofs [h1]
  refine swp_loop (fun k s => ∃ j o1 o2, j + k = xs.length ∧ s = ⟨[.sl 1 6 xs.length (xs.flatMap eEvent), .undef, .arr 0, .sc (.int .i64 j), .undef], [.arr 6 0 xs.length ((mix (⟨0, 0, ⟨0, [], [], false⟩⟩ : Event) xs j).flatMap eEvent), o1, o2]⟩) ?_ xs.length _ ⟨0, .free, .free, by simp, by simp [mix_zero]; exact rep_flat (f := eEvent) (⟨0, 0, ⟨0, [], [], false⟩⟩ : Event) _⟩
  intro k s ⟨j, o1, o2, hj, hs⟩
  subst hs
  by_cases hjn : j < xs.length
  · have hw : IntKind.i64.wrap ((j : Int) + 1) = (j + 1 : Nat) := by rw [wrap_id (by omega) (by omega)]; simp
    have hsz := size_at (f := szEvent) hjn
    have hfit : j * 6 + 6 ≤ xs.length * 6 := by omega
    have hjl : j ≤ xs.length := by omega
    simp -implicitDefEqProofs [hjn]
    refine callQ_of (hto xs[j] (by omega)) ?_
    simp -implicitDefEqProofs [hjn, hfit, hjl]
    exact ⟨k - 1, by omega, j + 1, by omega, by simp [hw], by rw [← mix_set hjn]⟩
  · have hje : mix (⟨0, 0, ⟨0, [], [], false⟩⟩ : Event) xs j = xs := mix_all (by omega)
    simp -implicitDefEqProofs [hjn, hje]
abbrev eqEventSS (R : Rel) : Prop := ∀ xs ys : List Event, sumF szEvent xs ≤ 2 ^ 40 → sumF szEvent ys ≤ 2 ^ 40 → R [.sl 1 6 xs.length (xs.flatMap eEvent), .sl 1 6 ys.length (ys.flatMap eEvent)] [] (B (decide (xs = ys))) []
theorem eqEventS_b (D : Dn) (heq : eqEventS (D 388)) : eqEventSS (Body D slaws_eqEventS) := by
  intro xs ys h1 h2
  have hlen := size_len (f := szEvent) (xs := xs)
  by_cases hl : xs.length = ys.length
  · have hl' : (xs.length : Int) = ys.length := by omega
    simp -implicitDefEqProofs [hl']
    refine swp_loop (fun k s => ∃ j, j + k = xs.length ∧ xs.take j = ys.take j ∧ s = ⟨[.sl 1 6 xs.length (xs.flatMap eEvent), .sl 1 6 ys.length (ys.flatMap eEvent), .undef, .sc (.int .i64 j), .undef, .undef, .undef], []⟩) ?_ xs.length _ ⟨0, by simp, by simp, by simp⟩
    intro k s ⟨j, hj, hp, hs⟩
    subst hs
    by_cases hjn : j < xs.length
    · have hw : IntKind.i64.wrap ((j : Int) + 1) = (j + 1 : Nat) := by rw [wrap_id (by omega) (by omega)]; simp
      have hy : j < ys.length := by omega
      have hsx := size_at (f := szEvent) hjn
      have hsy := size_at (f := szEvent) hy
      simp -implicitDefEqProofs [hjn, hy]
      refine callQ_of (heq xs[j] ys[j] (by omega) (by omega)) ?_
      by_cases he : xs[j] = ys[j]
      · simp -implicitDefEqProofs [he]
        exact ⟨k - 1, by omega, j + 1, by omega, take_step hjn hy hp he, by simp [hw]⟩
      · have hne : xs ≠ ys := fun h => he (by simp [h])
        simp -implicitDefEqProofs [he, hne]
    · obtain rfl : xs = ys := take_all (by omega) hl hp
      simp -implicitDefEqProofs [hjn]
  · have hl' : ¬ (xs.length : Int) = ys.length := by omega
    have : xs ≠ ys := fun h => hl (by rw [h])
    simp -implicitDefEqProofs [hl', this]
end Go.Eng.T

namespace Go.Eng.T

theorem not_mem_step {xs : List Int} {v : Int} {j : Nat} (h : j < xs.length) (hp : v ∉ xs.take j) (hv : ¬ xs[j] = v) : v ∉ xs.take (j + 1) := by
  rw [List.take_add_one, List.getElem?_eq_getElem h]
  intro hm
  rcases List.mem_append.1 hm with hm | hm
  · exact hp hm
  · simp at hm; exact hv hm.symm
theorem not_mem_all {xs : List Int} {v : Int} {j : Nat} (h : xs.length ≤ j) (hp : v ∉ xs.take j) : v ∉ xs := by rwa [List.take_of_length_le h] at hp
theorem mem_here {xs : List Int} {v : Int} {j : Nat} (h : j < xs.length) (hv : xs[j] = v) : v ∈ xs := by rw [← hv]; exact List.getElem_mem h

/-- where v stands first, or -1 -/
def idxI (xs : List Int) (v : Int) : Int := if v ∈ xs then (xs.idxOf v : Nat) else -1
theorem idxI_hit {xs : List Int} {v : Int} {j : Nat} (h : j < xs.length) (hp : v ∉ xs.take j) (hv : xs[j] = v) : idxI xs v = j := by
  unfold idxI
  rw [if_pos (mem_here h hv)]
  congr 1
  have e : xs = xs.take j ++ v :: xs.drop (j + 1) := by
    conv => lhs; rw [← List.take_append_drop j xs, List.drop_eq_getElem_cons h, hv]
  rw [e, List.idxOf_append, if_neg hp]
  simp
  omega
theorem idxI_ge {xs : List Int} {v : Int} : (0 ≤ idxI xs v) = (v ∈ xs) := by
  unfold idxI
  by_cases h : v ∈ xs <;> simp [h]

abbrev IndexS (R : Rel) : Prop := ∀ (xs : List Int) (v : Int), xs.length ≤ maxLen → R [.sl 1 1 xs.length (ints xs), I v] [] (I (idxI xs v)) []
abbrev HasS (R : Rel) : Prop := ∀ (xs : List Int) (v : Int), xs.length ≤ maxLen → R [.sl 1 1 xs.length (ints xs), I v] [] (B (decide (v ∈ xs))) []
/-- a dial that says that the version did not come through -/
def badD (v : Int) (d : Dialed) : Bool := !d.deal.ok || (decide (d.deal.version < v) && decide (v ∈ d.up))
def goodD (v : Int) (d : Dialed) : Bool := !badD v d && decide (v ≤ d.deal.version)
def cntF {α : Type} (f : α → Bool) (xs : List α) : Nat := (xs.filter f).length
theorem cnt_step {α : Type} {f : α → Bool} {xs : List α} {j : Nat} (h : j < xs.length) : cntF f (xs.take (j + 1)) = cntF f (xs.take j) + (if f xs[j] then 1 else 0) := by
  unfold cntF
  rw [List.take_add_one, List.getElem?_eq_getElem h, List.filter_append, List.length_append]
  congr 1
  by_cases hf : f xs[j] <;> simp [hf]
theorem cnt_le {α : Type} {f : α → Bool} {xs : List α} {j : Nat} (h : j ≤ xs.length) : cntF f (xs.take j) ≤ j := by
  unfold cntF
  have := List.length_filter_le f (xs.take j)
  simp at this
  omega
theorem cnt_all {α : Type} {f : α → Bool} {xs : List α} {j : Nat} (h : xs.length ≤ j) : cntF f (xs.take j) = cntF f xs := by rw [List.take_of_length_le h]

abbrev CountKindS (R : Rel) : Prop := ∀ (xs : List Event) (v : Int), xs.length ≤ maxLen → R [.sl 1 6 xs.length (xs.flatMap eEvent), I v] [] (I (cntF (fun e => decide (e.kind = v)) xs)) []
theorem sCountKind_b (D : Dn) : CountKindS (Body D sspec_CountKind) := by
  intro xs v hl
  unfold maxLen at hl
  simp -implicitDefEqProofs
  refine swp_loop (fun k s => ∃ j, j + k = xs.length ∧ s = ⟨[.sl 1 6 xs.length (xs.flatMap eEvent), .sc (.int .i64 v), .undef, .sc (.int .i64 (cntF (fun e => decide (e.kind = v)) (xs.take j))), .sc (.int .i64 j), .undef, .undef], []⟩) ?_ xs.length _ ⟨0, by simp, by simp [cntF]⟩
  intro k s ⟨j, hj, hs⟩
  subst hs
  by_cases hjn : j < xs.length
  · have hw : IntKind.i64.wrap ((j : Int) + 1) = (j + 1 : Nat) := by rw [wrap_id (by omega) (by omega)]; simp
    have hc := cnt_step (f := fun e : Event => decide (e.kind = v)) hjn
    have hcl := cnt_le (f := fun e : Event => decide (e.kind = v)) (xs := xs) (j := j) (by omega)
    have hw2 : IntKind.i64.wrap ((cntF (fun e => decide (e.kind = v)) (xs.take j) : Int) + 1) = (cntF (fun e => decide (e.kind = v)) (xs.take j) + 1 : Nat) := by rw [wrap_id (by omega) (by omega)]; simp
    by_cases he : xs[j].kind = v
    · simp -implicitDefEqProofs [hjn, he]
      exact ⟨k - 1, by omega, j + 1, by omega, by rw [hc, hw2]; simp [he], by simp [hw]⟩
    · simp -implicitDefEqProofs [hjn, he]
      exact ⟨k - 1, by omega, j + 1, by omega, by rw [hc]; simp [he], by simp [hw]⟩
  · have hx := cnt_all (f := fun e : Event => decide (e.kind = v)) (xs := xs) (j := j) (by omega)
    simp -implicitDefEqProofs [hjn, hx]
theorem iCountKind_b (D : Dn) : CountKindS (Body D simpl_CountKind) := by
  intro xs v hl
  unfold maxLen at hl
  simp -implicitDefEqProofs
  refine swp_loop (fun k s => ∃ j o0, j + k = xs.length ∧ s = ⟨[.undef, .sc (.int .i64 v), .undef, .sc (.int .i64 (cntF (fun e => decide (e.kind = v)) (xs.take j))), .undef, .sl 1 6 xs.length (xs.flatMap eEvent), .sc (.int .i64 xs.length), .sc (.int .i64 j), .undef, .undef], [o0]⟩) ?_ xs.length _ ⟨0, .free, by simp, by simp [cntF]⟩
  intro k s ⟨j, o0, hj, hs⟩
  subst hs
  by_cases hjn : j < xs.length
  · have hw : IntKind.i64.wrap ((j : Int) + 1) = (j + 1 : Nat) := by rw [wrap_id (by omega) (by omega)]; simp
    have hc := cnt_step (f := fun e : Event => decide (e.kind = v)) hjn
    have hcl := cnt_le (f := fun e : Event => decide (e.kind = v)) (xs := xs) (j := j) (by omega)
    have hw2 : IntKind.i64.wrap ((cntF (fun e => decide (e.kind = v)) (xs.take j) : Int) + 1) = (cntF (fun e => decide (e.kind = v)) (xs.take j) + 1 : Nat) := by rw [wrap_id (by omega) (by omega)]; simp
    by_cases he : xs[j].kind = v
    · simp -implicitDefEqProofs [hjn, he]
      exact ⟨k - 1, by omega, j + 1, by omega, by rw [hc, hw2]; simp [he], by simp [hw]⟩
    · simp -implicitDefEqProofs [hjn, he]
      exact ⟨k - 1, by omega, j + 1, by omega, by rw [hc]; simp [he], by simp [hw]⟩
  · have hx := cnt_all (f := fun e : Event => decide (e.kind = v)) (xs := xs) (j := j) (by omega)
    simp -implicitDefEqProofs [hjn, hx]
end Go.Eng.T

namespace Go.Eng.T

abbrev MaskedByS (R : Rel) : Prop := ∀ (xs : List Dialed) (v : Int), xs.length ≤ maxLen → (∀ (j : Nat) (h : j < xs.length), xs[j].up.length ≤ maxLen) →
  R [.sl 1 5 xs.length (xs.flatMap eDialed), I v] [] (.tup [I (cntF (goodD v) xs), I (cntF (badD v) xs)]) []
abbrev IsBadDialS (R : Rel) : Prop := ∀ (d : Dialed) (v : Int), d.up.length ≤ maxLen → R [arg (eDialed d), I v] [] (B (badD v d)) []
end Go.Eng.T

namespace Go.Eng.T
abbrev szDealS (R : Rel) : Prop := ∀ (x : Deal) (l : Int), 0 ≤ l → l ≤ 1048576 → lnDeal x → R [arg (eDeal x), I l] [] (I (szl (szDeal x) l)) []
abbrev toDealS (R : Rel) : Prop := ∀ x : Deal, szDeal x ≤ 1048576 → R [arg (eDeal x)] [] (.agg (eDeal x)) []
abbrev eqDealS (R : Rel) : Prop := ∀ x y : Deal, szDeal x ≤ 2 ^ 40 → szDeal y ≤ 2 ^ 40 → R [arg (eDeal x), arg (eDeal y)] [] (B (decide (x = y))) []
abbrev szDialedS (R : Rel) : Prop := ∀ (x : Dialed) (l : Int), 0 ≤ l → l ≤ 1048576 → lnDialed x → R [arg (eDialed x), I l] [] (I (szl (szDialed x) l)) []
abbrev toDialedS (R : Rel) : Prop := ∀ x : Dialed, szDialed x ≤ 1048576 → R [arg (eDialed x)] [] (.agg (eDialed x)) []
abbrev eqDialedS (R : Rel) : Prop := ∀ x y : Dialed, szDialed x ≤ 2 ^ 40 → szDialed y ≤ 2 ^ 40 → R [arg (eDialed x), arg (eDialed y)] [] (B (decide (x = y))) []
end Go.Eng.T

namespace Go.Eng.T

theorem szl_lt {n : Nat} {l : Int} (h : l < n) : szl n l = -1 := by unfold szl; rw [if_pos h]
theorem szl_ge {n : Nat} {l : Int} (h : ¬ l < n) : szl n l = l - n := by unfold szl; rw [if_neg h]

abbrev FnExactIsBadDialS (R : Rel) : Prop := ∀ (d : Dialed) (v : Int), lnDialed d → R [arg (eDialed d), I v] [] (B true) []
abbrev FnExactCountKindS (R : Rel) : Prop := ∀ (xs : List Event) (v : Int), lnS lnEvent xs → R [.sl 1 6 xs.length (xs.flatMap eEvent), I v] [] (B true) []
theorem FnExactCountKind_b (D : Dn) (hsz : szEventSS (D glaws_szEventS)) (hto : toEventSS (D glaws_toEventS)) (hs : CountKindS (D gspec_CountKind)) (hi : CountKindS (D gimpl_CountKind)) (heq : eqEventSS (D glaws_eqEventS)) : FnExactCountKindS (Body D slaws_FnExactCountKind) := by
  intro xs v hl
  simp -implicitDefEqProofs
  refine callQ_of (hsz xs 1048576 (by omega) (by omega) hl) ?_
  by_cases h : (1048576 : Int) < (sumF szEvent xs : Nat)
  · simp -implicitDefEqProofs [szl_lt h]
  · have h1 : ¬ (1048576 : Int) - (sumF szEvent xs : Nat) < 0 := by omega
    have h2 : sumF szEvent xs ≤ 1048576 := by omega
    have h3 : xs.length ≤ maxLen := by have := size_len (f := szEvent) (xs := xs); unfold maxLen; omega
    simp -implicitDefEqProofs [szl_ge h, h1]
    refine callQ_of (hto xs h2) ?_
    simp -implicitDefEqProofs
    refine callQ_of (hs xs v h3) ?_
    simp -implicitDefEqProofs
    refine callQ_of (hto xs h2) ?_
    simp -implicitDefEqProofs
    refine callQ_of (hi xs v h3) ?_
    simp -implicitDefEqProofs
    refine callQ_of (hto xs h2) ?_
    simp -implicitDefEqProofs
    refine callQ_of (heq xs xs (by omega) (by omega)) ?_
    simp -implicitDefEqProofs
end Go.Eng.T

namespace Go.Eng.T
theorem datL_cons {y : Ty} {ys : List Ty} {cs : List V} (h : DatL (y :: ys) cs) : ∃ a b, Dat y a ∧ DatL ys b ∧ cs = a ++ b := by simp only [DatL] at h; exact h
theorem datL_nil {cs : List V} (h : DatL [] cs) : cs = [] := by simp only [DatL] at h; exact h
theorem dat_st {ys : List Ty} {cs : List V} (h : Dat (.st ys) cs) : DatL ys cs := by simp only [Dat] at h; exact h
def rgI (n : Int) : Prop := -9223372036854775808 ≤ n ∧ n ≤ 9223372036854775807
theorem rg_of {n : Int} (h : (Lit.int .i64 n).wf = true) : rgI n := by
  simp only [Lit.wf, IntKind.min, IntKind.max, IntKind.bits, IntKind.signed, Bool.and_eq_true, decide_eq_true_eq] at h
  exact ⟨h.1, h.2⟩
theorem datI {cs : List V} (h : Dat (.int .i64) cs) : ∃ n, cs = [.sc (.int .i64 n)] ∧ rgI n := by
  simp only [Dat] at h
  obtain ⟨n, h1, h2⟩ := h
  exact ⟨n, h2, rg_of h1⟩
theorem datB {cs : List V} (h : Dat .bool cs) : ∃ b, cs = [.sc (.bool b)] := by simp only [Dat] at h; exact h
theorem datS {cs : List V} (h : Dat .str cs) : ∃ s : ByteArray, cs = [.sc (.string s)] ∧ s.size ≤ maxLen := by
  simp only [Dat] at h
  obtain ⟨n, h1, h2⟩ := h
  exact ⟨n, h2, h1⟩
theorem choose_row {α : Type} {f : α → List V} {p : α → Prop} : ∀ {xs : List (List V)}, (∀ x, x ∈ xs → ∃ d, x = f d ∧ p d) → ∃ ds : List α, xs = ds.map f ∧ ∀ d, d ∈ ds → p d
  | [], _ => ⟨[], rfl, by simp⟩
  | x :: xs, h => by
    obtain ⟨d, rfl, hd⟩ := h x (by simp)
    obtain ⟨ds, rfl, hds⟩ := choose_row (xs := xs) fun y hy => h y (by simp [hy])
    exact ⟨d :: ds, rfl, by intro y hy; rcases List.mem_cons.1 hy with rfl | hy; exact hd; exact hds y hy⟩
theorem datRow {α : Type} {y : Ty} {f : α → List V} {p : α → Prop} (hf : ∀ cs, Dat y cs → ∃ d, cs = f d ∧ p d) {cs : List V} (h : Dat (.sl y) cs) :
    ∃ ds : List α, cs = [.sl 0 y.cells ds.length (ds.flatMap f)] ∧ ds.length ≤ maxLen ∧ ∀ d, d ∈ ds → p d := by
  simp only [Dat] at h
  obtain ⟨xs, h1, h2, rfl⟩ := h
  obtain ⟨ds, rfl, h3⟩ := choose_row (f := f) (p := p) (xs := xs) fun x hx => hf x (h2 x hx)
  exact ⟨ds, by simp [List.flatMap_def], by simpa using h1, h3⟩
def rgInts (xs : List Int) : Prop := ∀ x, x ∈ xs → rgI x
def rgS {α : Type} (f : α → Prop) (xs : List α) : Prop := ∀ x, x ∈ xs → f x
theorem datInts {cs : List V} (h : Dat (.sl (.int .i64)) cs) : ∃ xs : List Int, cs = [.sl 0 1 xs.length (ints xs)] ∧ lnInts xs ∧ rgInts xs := by
  obtain ⟨ds, h1, h2, h3⟩ := datRow (f := fun n => [V.sc (.int .i64 n)]) (p := rgI) (fun cs h => datI h) h
  refine ⟨ds, ?_, h2, h3⟩
  have e : ds.flatMap (fun n => [V.sc (.int .i64 n)]) = ints ds := by
    clear h1 h2 h3
    induction ds with
    | nil => rfl
    | cons a ds ih => rw [List.flatMap_cons, ih]; rfl
  rw [h1, e]
  rfl
def tyDeal : Ty := .st [.bool, .int .i64, .sl (.int .i64)]
def rgDeal (d : Deal) : Prop := rgI d.version ∧ rgInts d.tags
theorem datDeal {cs : List V} (h : Dat tyDeal cs) : ∃ x : Deal, cs = eDeal x ∧ lnDeal x ∧ rgDeal x := by
  have h0 := dat_st h
  obtain ⟨a0, r0, g0, h1, e0⟩ := datL_cons h0
  obtain ⟨x0, rfl⟩ := datB g0
  obtain ⟨a1, r1, g1, h2, e1⟩ := datL_cons h1
  obtain ⟨x1, rfl, w1⟩ := datI g1
  obtain ⟨a2, r2, g2, h3, e2⟩ := datL_cons h2
  obtain ⟨x2, rfl, l2, w2⟩ := datInts g2
  have z := datL_nil h3
  subst z; subst e2; subst e1; subst e0
  exact ⟨⟨x0, x1, x2⟩, rfl, l2, ⟨w1, w2⟩⟩
def tyBox : Ty := .st [.int .i64, .sl (.int .i64), .sl (.int .i64), .bool]
def rgBox (d : Box) : Prop := rgI d.limit ∧ rgInts d.drops ∧ rgInts d.strips
theorem datBox {cs : List V} (h : Dat tyBox cs) : ∃ x : Box, cs = eBox x ∧ lnBox x ∧ rgBox x := by
  have h0 := dat_st h
  obtain ⟨a0, r0, g0, h1, e0⟩ := datL_cons h0
  obtain ⟨x0, rfl, w0⟩ := datI g0
  obtain ⟨a1, r1, g1, h2, e1⟩ := datL_cons h1
  obtain ⟨x1, rfl, l1, w1⟩ := datInts g1
  obtain ⟨a2, r2, g2, h3, e2⟩ := datL_cons h2
  obtain ⟨x2, rfl, l2, w2⟩ := datInts g2
  obtain ⟨a3, r3, g3, h4, e3⟩ := datL_cons h3
  obtain ⟨x3, rfl⟩ := datB g3
  have z := datL_nil h4
  subst z; subst e3; subst e2; subst e1; subst e0
  exact ⟨⟨x0, x1, x2, x3⟩, rfl, ⟨l1, l2⟩, ⟨w0, w1, w2⟩⟩
theorem datBoxS {cs : List V} (h : Dat (.sl tyBox) cs) : ∃ xs : List Box, cs = [.sl 0 4 xs.length (xs.flatMap eBox)] ∧ lnS lnBox xs ∧ rgS rgBox xs := by
  obtain ⟨ds, h1, h2, h3⟩ := datRow (f := eBox) (p := fun x => lnBox x ∧ rgBox x) (fun cs h => datBox h) h
  exact ⟨ds, h1, ⟨h2, fun j hj => (h3 _ (List.getElem_mem hj)).1⟩, fun x hx => (h3 x hx).2⟩
def tyDialed : Ty := .st [tyDeal, .int .i64, .sl (.int .i64)]
def rgDialed (d : Dialed) : Prop := rgDeal d.deal ∧ rgI d.tries ∧ rgInts d.up
theorem datDialed {cs : List V} (h : Dat tyDialed cs) : ∃ x : Dialed, cs = eDialed x ∧ lnDialed x ∧ rgDialed x := by
  have h0 := dat_st h
  obtain ⟨a0, r0, g0, h1, e0⟩ := datL_cons h0
  obtain ⟨x0, rfl, l0, w0⟩ := datDeal g0
  obtain ⟨a1, r1, g1, h2, e1⟩ := datL_cons h1
  obtain ⟨x1, rfl, w1⟩ := datI g1
  obtain ⟨a2, r2, g2, h3, e2⟩ := datL_cons h2
  obtain ⟨x2, rfl, l2, w2⟩ := datInts g2
  have z := datL_nil h3
  subst z; subst e2; subst e1; subst e0
  exact ⟨⟨x0, x1, x2⟩, rfl, ⟨l0, l2⟩, ⟨w0, w1, w2⟩⟩
theorem datDialedS {cs : List V} (h : Dat (.sl tyDialed) cs) : ∃ xs : List Dialed, cs = [.sl 0 5 xs.length (xs.flatMap eDialed)] ∧ lnS lnDialed xs ∧ rgS rgDialed xs := by
  obtain ⟨ds, h1, h2, h3⟩ := datRow (f := eDialed) (p := fun x => lnDialed x ∧ rgDialed x) (fun cs h => datDialed h) h
  exact ⟨ds, h1, ⟨h2, fun j hj => (h3 _ (List.getElem_mem hj)).1⟩, fun x hx => (h3 x hx).2⟩
def tyRollout : Ty := .st [.int .i64, .sl (.int .i64), .int .i64, .bool]
def rgRollout (d : Rollout) : Prop := rgI d.version ∧ rgInts d.stages ∧ rgI d.pos
theorem datRollout {cs : List V} (h : Dat tyRollout cs) : ∃ x : Rollout, cs = eRollout x ∧ lnRollout x ∧ rgRollout x := by
  have h0 := dat_st h
  obtain ⟨a0, r0, g0, h1, e0⟩ := datL_cons h0
  obtain ⟨x0, rfl, w0⟩ := datI g0
  obtain ⟨a1, r1, g1, h2, e1⟩ := datL_cons h1
  obtain ⟨x1, rfl, l1, w1⟩ := datInts g1
  obtain ⟨a2, r2, g2, h3, e2⟩ := datL_cons h2
  obtain ⟨x2, rfl, w2⟩ := datI g2
  obtain ⟨a3, r3, g3, h4, e3⟩ := datL_cons h3
  obtain ⟨x3, rfl⟩ := datB g3
  have z := datL_nil h4
  subst z; subst e3; subst e2; subst e1; subst e0
  exact ⟨⟨x0, x1, x2, x3⟩, rfl, l1, ⟨w0, w1, w2⟩⟩
def tyEndpoint : Ty := .st [.sl (.int .i64), .sl (.int .i64), .sl tyBox, .int .i64]
def rgEndpoint (d : Endpoint) : Prop := rgInts d.versions ∧ rgInts d.tags ∧ rgS rgBox d.path ∧ rgI d.cls
theorem datEndpoint {cs : List V} (h : Dat tyEndpoint cs) : ∃ x : Endpoint, cs = eEndpoint x ∧ lnEndpoint x ∧ rgEndpoint x := by
  have h0 := dat_st h
  obtain ⟨a0, r0, g0, h1, e0⟩ := datL_cons h0
  obtain ⟨x0, rfl, l0, w0⟩ := datInts g0
  obtain ⟨a1, r1, g1, h2, e1⟩ := datL_cons h1
  obtain ⟨x1, rfl, l1, w1⟩ := datInts g1
  obtain ⟨a2, r2, g2, h3, e2⟩ := datL_cons h2
  obtain ⟨x2, rfl, l2, w2⟩ := datBoxS g2
  obtain ⟨a3, r3, g3, h4, e3⟩ := datL_cons h3
  obtain ⟨x3, rfl, w3⟩ := datI g3
  have z := datL_nil h4
  subst z; subst e3; subst e2; subst e1; subst e0
  exact ⟨⟨x0, x1, x2, x3⟩, rfl, ⟨l0, l1, l2⟩, ⟨w0, w1, w2, w3⟩⟩
theorem datEndpointS {cs : List V} (h : Dat (.sl tyEndpoint) cs) : ∃ xs : List Endpoint, cs = [.sl 0 4 xs.length (xs.flatMap eEndpoint)] ∧ lnS lnEndpoint xs ∧ rgS rgEndpoint xs := by
  obtain ⟨ds, h1, h2, h3⟩ := datRow (f := eEndpoint) (p := fun x => lnEndpoint x ∧ rgEndpoint x) (fun cs h => datEndpoint h) h
  exact ⟨ds, h1, ⟨h2, fun j hj => (h3 _ (List.getElem_mem hj)).1⟩, fun x hx => (h3 x hx).2⟩
def tyLogged : Ty := .st [.int .i64, .int .i64, .bool, tyDialed]
def rgLogged (d : Logged) : Prop := rgI d.fin ∧ rgI d.tick ∧ rgDialed d.dialed
theorem datLogged {cs : List V} (h : Dat tyLogged cs) : ∃ x : Logged, cs = eLogged x ∧ lnLogged x ∧ rgLogged x := by
  have h0 := dat_st h
  obtain ⟨a0, r0, g0, h1, e0⟩ := datL_cons h0
  obtain ⟨x0, rfl, w0⟩ := datI g0
  obtain ⟨a1, r1, g1, h2, e1⟩ := datL_cons h1
  obtain ⟨x1, rfl, w1⟩ := datI g1
  obtain ⟨a2, r2, g2, h3, e2⟩ := datL_cons h2
  obtain ⟨x2, rfl⟩ := datB g2
  obtain ⟨a3, r3, g3, h4, e3⟩ := datL_cons h3
  obtain ⟨x3, rfl, l3, w3⟩ := datDialed g3
  have z := datL_nil h4
  subst z; subst e3; subst e2; subst e1; subst e0
  exact ⟨⟨x0, x1, x2, x3⟩, rfl, l3, ⟨w0, w1, w3⟩⟩
theorem datLoggedS {cs : List V} (h : Dat (.sl tyLogged) cs) : ∃ xs : List Logged, cs = [.sl 0 8 xs.length (xs.flatMap eLogged)] ∧ lnS lnLogged xs ∧ rgS rgLogged xs := by
  obtain ⟨ds, h1, h2, h3⟩ := datRow (f := eLogged) (p := fun x => lnLogged x ∧ rgLogged x) (fun cs h => datLogged h) h
  exact ⟨ds, h1, ⟨h2, fun j hj => (h3 _ (List.getElem_mem hj)).1⟩, fun x hx => (h3 x hx).2⟩
def tyWorld : Ty := .st [.sl (.int .i64), .sl (.int .i64), .int .i64, .sl tyEndpoint, tyRollout, .int .i64, .int .i64, .sl tyDialed, .sl tyLogged, .int .i64, .int .i64, .int .i64]
def rgWorld (d : World) : Prop := rgInts d.server ∧ rgInts d.tags ∧ rgI d.key ∧ rgS rgEndpoint d.ends ∧ rgRollout d.rollout ∧ rgI d.least ∧ rgI d.percent ∧ rgS rgDialed d.stage ∧ rgS rgLogged d.log ∧ rgI d.now ∧ rgI d.hurt ∧ rgI d.reached
theorem datWorld {cs : List V} (h : Dat tyWorld cs) : ∃ x : World, cs = eWorld x ∧ lnWorld x ∧ rgWorld x := by
  have h0 := dat_st h
  obtain ⟨a0, r0, g0, h1, e0⟩ := datL_cons h0
  obtain ⟨x0, rfl, l0, w0⟩ := datInts g0
  obtain ⟨a1, r1, g1, h2, e1⟩ := datL_cons h1
  obtain ⟨x1, rfl, l1, w1⟩ := datInts g1
  obtain ⟨a2, r2, g2, h3, e2⟩ := datL_cons h2
  obtain ⟨x2, rfl, w2⟩ := datI g2
  obtain ⟨a3, r3, g3, h4, e3⟩ := datL_cons h3
  obtain ⟨x3, rfl, l3, w3⟩ := datEndpointS g3
  obtain ⟨a4, r4, g4, h5, e4⟩ := datL_cons h4
  obtain ⟨x4, rfl, l4, w4⟩ := datRollout g4
  obtain ⟨a5, r5, g5, h6, e5⟩ := datL_cons h5
  obtain ⟨x5, rfl, w5⟩ := datI g5
  obtain ⟨a6, r6, g6, h7, e6⟩ := datL_cons h6
  obtain ⟨x6, rfl, w6⟩ := datI g6
  obtain ⟨a7, r7, g7, h8, e7⟩ := datL_cons h7
  obtain ⟨x7, rfl, l7, w7⟩ := datDialedS g7
  obtain ⟨a8, r8, g8, h9, e8⟩ := datL_cons h8
  obtain ⟨x8, rfl, l8, w8⟩ := datLoggedS g8
  obtain ⟨a9, r9, g9, h10, e9⟩ := datL_cons h9
  obtain ⟨x9, rfl, w9⟩ := datI g9
  obtain ⟨a10, r10, g10, h11, e10⟩ := datL_cons h10
  obtain ⟨x10, rfl, w10⟩ := datI g10
  obtain ⟨a11, r11, g11, h12, e11⟩ := datL_cons h11
  obtain ⟨x11, rfl, w11⟩ := datI g11
  have z := datL_nil h12
  subst z; subst e11; subst e10; subst e9; subst e8; subst e7; subst e6; subst e5; subst e4; subst e3; subst e2; subst e1; subst e0
  exact ⟨⟨x0, x1, x2, x3, x4, x5, x6, x7, x8, x9, x10, x11⟩, rfl, ⟨l0, l1, l3, l4, l7, l8⟩, ⟨w0, w1, w2, w3, w4, w5, w6, w7, w8, w9, w10, w11⟩⟩
def tyEvent : Ty := .st [.int .i64, .int .i64, tyBox]
def rgEvent (d : Event) : Prop := rgI d.kind ∧ rgI d.n ∧ rgBox d.box
theorem datEvent {cs : List V} (h : Dat tyEvent cs) : ∃ x : Event, cs = eEvent x ∧ lnEvent x ∧ rgEvent x := by
  have h0 := dat_st h
  obtain ⟨a0, r0, g0, h1, e0⟩ := datL_cons h0
  obtain ⟨x0, rfl, w0⟩ := datI g0
  obtain ⟨a1, r1, g1, h2, e1⟩ := datL_cons h1
  obtain ⟨x1, rfl, w1⟩ := datI g1
  obtain ⟨a2, r2, g2, h3, e2⟩ := datL_cons h2
  obtain ⟨x2, rfl, l2, w2⟩ := datBox g2
  have z := datL_nil h3
  subst z; subst e2; subst e1; subst e0
  exact ⟨⟨x0, x1, x2⟩, rfl, l2, ⟨w0, w1, w2⟩⟩
theorem datEventS {cs : List V} (h : Dat (.sl tyEvent) cs) : ∃ xs : List Event, cs = [.sl 0 6 xs.length (xs.flatMap eEvent)] ∧ lnS lnEvent xs ∧ rgS rgEvent xs := by
  obtain ⟨ds, h1, h2, h3⟩ := datRow (f := eEvent) (p := fun x => lnEvent x ∧ rgEvent x) (fun cs h => datEvent h) h
  exact ⟨ds, h1, ⟨h2, fun j hj => (h3 _ (List.getElem_mem hj)).1⟩, fun x hx => (h3 x hx).2⟩

theorem argI {v : V} (h : ArgV (.int .i64) v) : ∃ n, v = I n ∧ rgI n := by
  obtain ⟨c, hd, rfl⟩ := h
  obtain ⟨n, e, w⟩ := datI hd
  cases e
  exact ⟨n, rfl, w⟩
theorem argB {v : V} (h : ArgV .bool v) : ∃ b, v = B b := by
  obtain ⟨c, hd, rfl⟩ := h
  obtain ⟨n, e⟩ := datB hd
  cases e
  exact ⟨n, rfl⟩
theorem argS {v : V} (h : ArgV .str v) : ∃ s : ByteArray, v = S s ∧ s.size ≤ maxLen := by
  obtain ⟨c, hd, rfl⟩ := h
  obtain ⟨n, e, w⟩ := datS hd
  cases e
  exact ⟨n, rfl, w⟩
theorem argInts {v : V} (h : ArgV (.sl (.int .i64)) v) : ∃ xs : List Int, v = .sl 1 1 xs.length (ints xs) ∧ lnInts xs ∧ rgInts xs := by
  obtain ⟨c, hd, rfl⟩ := h
  obtain ⟨xs, e, w⟩ := datInts hd
  cases e
  exact ⟨xs, rfl, w⟩
theorem argDeal {v : V} (h : ArgV tyDeal v) : ∃ x : Deal, v = arg (eDeal x) ∧ lnDeal x ∧ rgDeal x := by
  obtain ⟨cs, hd, rfl⟩ := h
  obtain ⟨x, rfl, w⟩ := datDeal hd
  exact ⟨x, rfl, w⟩
theorem argBox {v : V} (h : ArgV tyBox v) : ∃ x : Box, v = arg (eBox x) ∧ lnBox x ∧ rgBox x := by
  obtain ⟨cs, hd, rfl⟩ := h
  obtain ⟨x, rfl, w⟩ := datBox hd
  exact ⟨x, rfl, w⟩
theorem argBoxS {v : V} (h : ArgV (.sl tyBox) v) : ∃ xs : List Box, v = .sl 1 4 xs.length (xs.flatMap eBox) ∧ lnS lnBox xs ∧ rgS rgBox xs := by
  obtain ⟨c, hd, rfl⟩ := h
  obtain ⟨xs, e, w⟩ := datBoxS hd
  cases e
  exact ⟨xs, rfl, w⟩
theorem argDialed {v : V} (h : ArgV tyDialed v) : ∃ x : Dialed, v = arg (eDialed x) ∧ lnDialed x ∧ rgDialed x := by
  obtain ⟨cs, hd, rfl⟩ := h
  obtain ⟨x, rfl, w⟩ := datDialed hd
  exact ⟨x, rfl, w⟩
theorem argDialedS {v : V} (h : ArgV (.sl tyDialed) v) : ∃ xs : List Dialed, v = .sl 1 5 xs.length (xs.flatMap eDialed) ∧ lnS lnDialed xs ∧ rgS rgDialed xs := by
  obtain ⟨c, hd, rfl⟩ := h
  obtain ⟨xs, e, w⟩ := datDialedS hd
  cases e
  exact ⟨xs, rfl, w⟩
theorem argRollout {v : V} (h : ArgV tyRollout v) : ∃ x : Rollout, v = arg (eRollout x) ∧ lnRollout x ∧ rgRollout x := by
  obtain ⟨cs, hd, rfl⟩ := h
  obtain ⟨x, rfl, w⟩ := datRollout hd
  exact ⟨x, rfl, w⟩
theorem argEndpoint {v : V} (h : ArgV tyEndpoint v) : ∃ x : Endpoint, v = arg (eEndpoint x) ∧ lnEndpoint x ∧ rgEndpoint x := by
  obtain ⟨cs, hd, rfl⟩ := h
  obtain ⟨x, rfl, w⟩ := datEndpoint hd
  exact ⟨x, rfl, w⟩
theorem argEndpointS {v : V} (h : ArgV (.sl tyEndpoint) v) : ∃ xs : List Endpoint, v = .sl 1 4 xs.length (xs.flatMap eEndpoint) ∧ lnS lnEndpoint xs ∧ rgS rgEndpoint xs := by
  obtain ⟨c, hd, rfl⟩ := h
  obtain ⟨xs, e, w⟩ := datEndpointS hd
  cases e
  exact ⟨xs, rfl, w⟩
theorem argLogged {v : V} (h : ArgV tyLogged v) : ∃ x : Logged, v = arg (eLogged x) ∧ lnLogged x ∧ rgLogged x := by
  obtain ⟨cs, hd, rfl⟩ := h
  obtain ⟨x, rfl, w⟩ := datLogged hd
  exact ⟨x, rfl, w⟩
theorem argLoggedS {v : V} (h : ArgV (.sl tyLogged) v) : ∃ xs : List Logged, v = .sl 1 8 xs.length (xs.flatMap eLogged) ∧ lnS lnLogged xs ∧ rgS rgLogged xs := by
  obtain ⟨c, hd, rfl⟩ := h
  obtain ⟨xs, e, w⟩ := datLoggedS hd
  cases e
  exact ⟨xs, rfl, w⟩
theorem argWorld {v : V} (h : ArgV tyWorld v) : ∃ x : World, v = arg (eWorld x) ∧ lnWorld x ∧ rgWorld x := by
  obtain ⟨cs, hd, rfl⟩ := h
  obtain ⟨x, rfl, w⟩ := datWorld hd
  exact ⟨x, rfl, w⟩
theorem argEvent {v : V} (h : ArgV tyEvent v) : ∃ x : Event, v = arg (eEvent x) ∧ lnEvent x ∧ rgEvent x := by
  obtain ⟨cs, hd, rfl⟩ := h
  obtain ⟨x, rfl, w⟩ := datEvent hd
  exact ⟨x, rfl, w⟩
theorem argEventS {v : V} (h : ArgV (.sl tyEvent) v) : ∃ xs : List Event, v = .sl 1 6 xs.length (xs.flatMap eEvent) ∧ lnS lnEvent xs ∧ rgS rgEvent xs := by
  obtain ⟨c, hd, rfl⟩ := h
  obtain ⟨xs, e, w⟩ := datEventS hd
  cases e
  exact ⟨xs, rfl, w⟩
end Go.Eng.T

