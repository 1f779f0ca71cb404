import Derived.Test.YtlleegglgebhbaaEngAP
namespace Go.Eng.T
def slaws_FnExactEventName_r0 : Reg :=
  { id := 0, ops := [{ op := .mv (.con (.sc (.bool false))) }], clr := [1] }
def slaws_FnExactEventName_r1 : Reg :=
  { id := 1, ops := [{ op := .mv (.slot 0) },
      { op := .call 73 [(false, .loc 0)] [] },
      { op := .mv (.loc 1) }], sets := [(2, 2)] }
def slaws_FnExactEventName_r2 : Reg :=
  { id := 2, ops := [{ op := .mv (.slot 0) },
      { op := .call 377 [(false, .loc 0)] [] },
      { op := .mv (.loc 1) }], sets := [(3, 2)], clr := [0] }
def slaws_FnExactEventName_r3 : Reg :=
  { id := 3, ops := [{ op := .mv (.slot 3) },
      { op := .mv (.slot 2) },
      { op := .bin .neq (.loc 0) (.loc 1) }], sets := [(4, 2)], clr := [2, 3] }
def slaws_FnExactEventName_r4 : Reg :=
  { id := 4, ops := [{ op := .mv (.con (.sc (.bool false))) }], sets := [(1, 0)] }
def slaws_FnExactEventName_r5 : Reg :=
  { id := 5, ops := [{ op := .mv (.con (.sc (.bool true))) }], sets := [(1, 0)] }
def slaws_FnExactEventName_b : SC := .seq (.reg slaws_FnExactEventName_r0) (.seq (.reg slaws_FnExactEventName_r1) (.seq (.reg slaws_FnExactEventName_r2) (.seq (.seq (.reg slaws_FnExactEventName_r3) (.cond 4 (.seq (.reg slaws_FnExactEventName_r4) (.ret)) (.skip))) (.seq (.reg slaws_FnExactEventName_r5) (.ret)))))
def slaws_FnExactEventName : SFn := { nslots := 5, nobjs := 0, params := [0], ngiven := 0, bor := false, takes := [], body := slaws_FnExactEventName_b, results := [.slot 1] }
def slaws_FnExactEventName_t : List Tmp := [0, 2, 3, 4, 11]
attribute [simp] slaws_FnExactEventName_r0 slaws_FnExactEventName_r1 slaws_FnExactEventName_r2 slaws_FnExactEventName_r3 slaws_FnExactEventName_r4 slaws_FnExactEventName_r5 slaws_FnExactEventName_b slaws_FnExactEventName
def slaws_FnExactIsBadDial_r0 : Reg :=
  { id := 0, ops := [{ op := .box 0 (.slot 0) },
      { op := .mv (.con (.sc (.bool false))) }], sets := [(2, 0)], clr := [0, 3] }
def slaws_FnExactIsBadDial_r1 : Reg :=
  { id := 1, ops := [{ op := .mv (.con (.sc (.int .i64 1048576))) }], sets := [(4, 0)] }
def slaws_FnExactIsBadDial_r2 : Reg :=
  { id := 2, ops := [{ op := .load (some 5) (.slot 2) },
      { op := .mv (.slot 4) },
      { op := .call 63 [(false, .loc 0), (false, .loc 1)] [] },
      { op := .mv (.loc 2) }], sets := [(4, 3)] }
def slaws_FnExactIsBadDial_r3 : Reg :=
  { id := 3, ops := [{ op := .mv (.slot 4) },
      { op := .bin .lss (.loc 0) (.con (.sc (.int .i64 0))) }], sets := [(8, 1)], clr := [4] }
def slaws_FnExactIsBadDial_r4 : Reg :=
  { id := 4, ops := [{ op := .mv (.con (.sc (.bool true))) }], sets := [(3, 0)], clr := [1, 2] }
def slaws_FnExactIsBadDial_r5 : Reg :=
  { id := 5, ops := [{ op := .load (some 5) (.slot 2) },
      { op := .call 99 [(false, .loc 0)] [1, 2] },
      { op := .mv (.slot 1) },
      { op := .call 144 [(false, .loc 1), (false, .loc 2)] [] },
      { op := .mv (.loc 3) }], sets := [(5, 4)] }
def slaws_FnExactIsBadDial_r6 : Reg :=
  { id := 6, ops := [{ op := .load (some 5) (.slot 2) },
      { op := .call 99 [(false, .loc 0)] [3, 4] },
      { op := .alloc 5 [.sc (.bool false), .sc (.int .i64 0), .nil 1, .sc (.int .i64 0), .nil 1] },
      { op := .store 5 (.loc 2) (.loc 1) }], sets := [(6, 2)] }
def slaws_FnExactIsBadDial_r7 : Reg :=
  { id := 7, ops := [{ op := .load (some 5) (.slot 6) },
      { op := .mv (.slot 1) },
      { op := .call 175 [(false, .loc 0), (false, .loc 1)] [] },
      { op := .mv (.loc 2) }], sets := [(7, 3)], clr := [1] }
def slaws_FnExactIsBadDial_r8 : Reg :=
  { id := 8, ops := [{ op := .mv (.slot 7) },
      { op := .mv (.slot 5) },
      { op := .beq true (.loc 0) (.loc 1) }], sets := [(9, 2)], clr := [5, 7] }
def slaws_FnExactIsBadDial_r9 : Reg :=
  { id := 9, ops := [{ op := .mv (.con (.sc (.bool false))) }], sets := [(3, 0)], clr := [2, 6] }
def slaws_FnExactIsBadDial_r10 : Reg :=
  { id := 10, draw := true, ops := [{ op := .load (some 5) (.slot 6), tau := some [5], om := [] },
      { op := .load (some 5) (.slot 2), tau := some [0], om := [] },
      { op := .call 99 [(false, .loc 1)] [6, 7], tau := some [6, 7], om := [6, 7] },
      { op := .call 135 [(false, .loc 0), (false, .loc 2)] [], tau := some [3, 4, 6, 7], om := [] },
      { op := .un .not (.loc 3), tau := some [], om := [] }], sets := [(10, 4)], clr := [2, 6] }
def slaws_FnExactIsBadDial_r11 : Reg :=
  { id := 11, ops := [{ op := .mv (.con (.sc (.bool false))) }], sets := [(3, 0)] }
def slaws_FnExactIsBadDial_r12 : Reg :=
  { id := 12, ops := [{ op := .mv (.con (.sc (.bool true))) }], sets := [(3, 0)] }
def slaws_FnExactIsBadDial_b : SC := .seq (.reg slaws_FnExactIsBadDial_r0) (.seq (.reg slaws_FnExactIsBadDial_r1) (.seq (.reg slaws_FnExactIsBadDial_r2) (.seq (.seq (.reg slaws_FnExactIsBadDial_r3) (.cond 8 (.seq (.reg slaws_FnExactIsBadDial_r4) (.ret)) (.skip))) (.seq (.reg slaws_FnExactIsBadDial_r5) (.seq (.reg slaws_FnExactIsBadDial_r6) (.seq (.reg slaws_FnExactIsBadDial_r7) (.seq (.seq (.reg slaws_FnExactIsBadDial_r8) (.cond 9 (.seq (.reg slaws_FnExactIsBadDial_r9) (.ret)) (.skip))) (.seq (.seq (.reg slaws_FnExactIsBadDial_r10) (.cond 10 (.seq (.reg slaws_FnExactIsBadDial_r11) (.ret)) (.skip))) (.seq (.reg slaws_FnExactIsBadDial_r12) (.ret))))))))))
def slaws_FnExactIsBadDial : SFn := { nslots := 11, nobjs := 8, params := [0, 1], ngiven := 0, bor := false, takes := [], body := slaws_FnExactIsBadDial_b, results := [.slot 3] }
def slaws_FnExactIsBadDial_t : List Tmp := [0, 1, 2, 4, 5, 6, 7, 8, 13, 25, 30]
attribute [simp] slaws_FnExactIsBadDial_r0 slaws_FnExactIsBadDial_r1 slaws_FnExactIsBadDial_r2 slaws_FnExactIsBadDial_r3 slaws_FnExactIsBadDial_r4 slaws_FnExactIsBadDial_r5 slaws_FnExactIsBadDial_r6 slaws_FnExactIsBadDial_r7 slaws_FnExactIsBadDial_r8 slaws_FnExactIsBadDial_r9 slaws_FnExactIsBadDial_r10 slaws_FnExactIsBadDial_r11 slaws_FnExactIsBadDial_r12 slaws_FnExactIsBadDial_b slaws_FnExactIsBadDial
def slaws_FnExactCountKind_r0 : Reg :=
  { id := 0, ops := [{ op := .mv (.con (.sc (.bool false))) }], clr := [2] }
def slaws_FnExactCountKind_r1 : Reg :=
  { id := 1, ops := [{ op := .mv (.con (.sc (.int .i64 1048576))) }], sets := [(3, 0)] }
def slaws_FnExactCountKind_r2 : Reg :=
  { id := 2, ops := [{ op := .mv (.slot 0) },
      { op := .mv (.slot 3) },
      { op := .call 380 [(false, .loc 0), (false, .loc 1)] [] },
      { op := .mv (.loc 2) }], sets := [(3, 3)] }
def slaws_FnExactCountKind_r3 : Reg :=
  { id := 3, ops := [{ op := .mv (.slot 3) },
      { op := .bin .lss (.loc 0) (.con (.sc (.int .i64 0))) }], sets := [(7, 1)], clr := [3] }
def slaws_FnExactCountKind_r4 : Reg :=
  { id := 4, ops := [{ op := .mv (.con (.sc (.bool true))) }], sets := [(2, 0)], clr := [0, 1] }
def slaws_FnExactCountKind_r5 : Reg :=
  { id := 5, ops := [{ op := .mv (.slot 0) },
      { op := .call 381 [(false, .loc 0)] [0] },
      { op := .mv (.slot 1) },
      { op := .call 382 [(false, .loc 1), (false, .loc 2)] [] },
      { op := .mv (.loc 3) }], sets := [(4, 4)] }
def slaws_FnExactCountKind_r6 : Reg :=
  { id := 6, ops := [{ op := .mv (.slot 0) },
      { op := .call 381 [(false, .loc 0)] [1] },
      { op := .mv (.loc 1) }], sets := [(5, 2)] }
def slaws_FnExactCountKind_r7 : Reg :=
  { id := 7, ops := [{ op := .mv (.slot 5) },
      { op := .mv (.slot 1) },
      { op := .call 383 [(false, .loc 0), (false, .loc 1)] [] },
      { op := .mv (.loc 2) }], sets := [(6, 3)], clr := [1] }
def slaws_FnExactCountKind_r8 : Reg :=
  { id := 8, ops := [{ op := .mv (.slot 6) },
      { op := .mv (.slot 4) },
      { op := .bin .neq (.loc 0) (.loc 1) }], sets := [(8, 2)], clr := [4, 6] }
def slaws_FnExactCountKind_r9 : Reg :=
  { id := 9, ops := [{ op := .mv (.con (.sc (.bool false))) }], sets := [(2, 0)], clr := [0, 5] }
def slaws_FnExactCountKind_r10 : Reg :=
  { id := 10, ops := [{ op := .mv (.slot 5) },
      { op := .mv (.slot 0) },
      { op := .call 381 [(false, .loc 1)] [2] },
      { op := .call 384 [(false, .loc 0), (false, .loc 2)] [] },
      { op := .un .not (.loc 3) }], sets := [(9, 4)], clr := [0, 5] }
def slaws_FnExactCountKind_r11 : Reg :=
  { id := 11, ops := [{ op := .mv (.con (.sc (.bool false))) }], sets := [(2, 0)] }
def slaws_FnExactCountKind_r12 : Reg :=
  { id := 12, ops := [{ op := .mv (.con (.sc (.bool true))) }], sets := [(2, 0)] }
def slaws_FnExactCountKind_b : SC := .seq (.reg slaws_FnExactCountKind_r0) (.seq (.reg slaws_FnExactCountKind_r1) (.seq (.reg slaws_FnExactCountKind_r2) (.seq (.seq (.reg slaws_FnExactCountKind_r3) (.cond 7 (.seq (.reg slaws_FnExactCountKind_r4) (.ret)) (.skip))) (.seq (.reg slaws_FnExactCountKind_r5) (.seq (.reg slaws_FnExactCountKind_r6) (.seq (.reg slaws_FnExactCountKind_r7) (.seq (.seq (.reg slaws_FnExactCountKind_r8) (.cond 8 (.seq (.reg slaws_FnExactCountKind_r9) (.ret)) (.skip))) (.seq (.seq (.reg slaws_FnExactCountKind_r10) (.cond 9 (.seq (.reg slaws_FnExactCountKind_r11) (.ret)) (.skip))) (.seq (.reg slaws_FnExactCountKind_r12) (.ret))))))))))
def slaws_FnExactCountKind : SFn := { nslots := 10, nobjs := 3, params := [0, 1], ngiven := 0, bor := false, takes := [], body := slaws_FnExactCountKind_b, results := [.slot 2] }
def slaws_FnExactCountKind_t : List Tmp := [0, 1, 4, 5, 6, 7, 8, 13, 25, 30]
attribute [simp] slaws_FnExactCountKind_r0 slaws_FnExactCountKind_r1 slaws_FnExactCountKind_r2 slaws_FnExactCountKind_r3 slaws_FnExactCountKind_r4 slaws_FnExactCountKind_r5 slaws_FnExactCountKind_r6 slaws_FnExactCountKind_r7 slaws_FnExactCountKind_r8 slaws_FnExactCountKind_r9 slaws_FnExactCountKind_r10 slaws_FnExactCountKind_r11 slaws_FnExactCountKind_r12 slaws_FnExactCountKind_b slaws_FnExactCountKind
def slaws_FnExactExampleEnds_r0 : Reg :=
  { id := 0, ops := [{ op := .mv (.con (.sc (.bool false))) }], clr := [1] }
def slaws_FnExactExampleEnds_r1 : Reg :=
  { id := 1, ops := [{ op := .mv (.slot 0) },
      { op := .call 69 [(false, .loc 0)] [0] },
      { op := .mv (.loc 1) }], sets := [(2, 2)] }
def slaws_FnExactExampleEnds_r2 : Reg :=
  { id := 2, ops := [{ op := .mv (.slot 0) },
      { op := .call 115 [(false, .loc 0)] [1] },
      { op := .mv (.loc 1) }], sets := [(3, 2)] }
def slaws_FnExactExampleEnds_r3 : Reg :=
  { id := 3, ops := [{ op := .mv (.slot 3) },
      { op := .mv (.slot 2) },
      { op := .call 48 [(false, .loc 0), (false, .loc 1)] [] },
      { op := .un .not (.loc 2) }], sets := [(7, 3)] }
def slaws_FnExactExampleEnds_r4 : Reg :=
  { id := 4, ops := [{ op := .mv (.con (.sc (.bool false))) }], sets := [(1, 0)], clr := [0, 2, 3] }
def slaws_FnExactExampleEnds_r5 : Reg :=
  { id := 5, ops := [{ op := .mv (.con (.sc (.int .i64 1))) }], sets := [(4, 0)] }
def slaws_FnExactExampleEnds_r6 : Reg :=
  { id := 6, ops := [{ op := .mv (.slot 3) },
      { op := .mv (.slot 4) },
      { op := .call 53 [(true, .loc 0), (false, .loc 1)] [] },
      { op := .mv (.loc 2) }], sets := [(4, 3)] }
def slaws_FnExactExampleEnds_r7 : Reg :=
  { id := 7, ops := [{ op := .mv (.con (.sc (.int .i64 1))) }], sets := [(5, 0)] }
def slaws_FnExactExampleEnds_r8 : Reg :=
  { id := 8, ops := [{ op := .mv (.slot 3) },
      { op := .mv (.slot 5) },
      { op := .call 58 [(false, .loc 0), (false, .loc 1)] [] },
      { op := .mv (.loc 2) }], sets := [(5, 3)] }
def slaws_FnExactExampleEnds_r9 : Reg :=
  { id := 9, ops := [{ op := .mv (.slot 5) },
      { op := .bin .lss (.loc 0) (.con (.sc (.int .i64 0))) }], sets := [(8, 1)] }
def slaws_FnExactExampleEnds_r10 : Reg :=
  { id := 10, ops := [{ op := .mv (.con (.sc (.bool false))) }], sets := [(1, 0)], clr := [0, 2, 3, 4, 5] }
def slaws_FnExactExampleEnds_r11 : Reg :=
  { id := 11, ops := [{ op := .mv (.slot 5) },
      { op := .mv (.slot 4) },
      { op := .bin .neq (.loc 0) (.loc 1) }], sets := [(9, 2)], clr := [5] }
def slaws_FnExactExampleEnds_r12 : Reg :=
  { id := 12, ops := [{ op := .mv (.con (.sc (.bool false))) }], sets := [(1, 0)], clr := [0, 2, 3, 4] }
def slaws_FnExactExampleEnds_r13 : Reg :=
  { id := 13, ops := [{ op := .mv (.slot 0) },
      { op := .call 115 [(false, .loc 0)] [2] },
      { op := .mv (.loc 1) }], sets := [(6, 2)], clr := [0] }
def slaws_FnExactExampleEnds_r14 : Reg :=
  { id := 14, ops := [{ op := .mv (.slot 6) },
      { op := .mv (.slot 2) },
      { op := .call 48 [(false, .loc 0), (false, .loc 1)] [] },
      { op := .un .not (.loc 2) }], sets := [(10, 3)], clr := [2, 6] }
def slaws_FnExactExampleEnds_r15 : Reg :=
  { id := 15, ops := [{ op := .mv (.con (.sc (.bool false))) }], sets := [(1, 0)], clr := [3, 4] }
def slaws_FnExactExampleEnds_r16 : Reg :=
  { id := 16, ops := [{ op := .mv (.con (.sc (.int .i64 1))) }], sets := [(5, 0)] }
def slaws_FnExactExampleEnds_r17 : Reg :=
  { id := 17, ops := [{ op := .mv (.slot 3) },
      { op := .mv (.slot 5) },
      { op := .call 58 [(false, .loc 0), (false, .loc 1)] [] },
      { op := .mv (.loc 2) }], sets := [(5, 3)], clr := [3] }
def slaws_FnExactExampleEnds_r18 : Reg :=
  { id := 18, ops := [{ op := .mv (.slot 5) },
      { op := .bin .lss (.loc 0) (.con (.sc (.int .i64 0))) }], sets := [(11, 1)] }
def slaws_FnExactExampleEnds_r19 : Reg :=
  { id := 19, ops := [{ op := .mv (.con (.sc (.bool false))) }], sets := [(1, 0)], clr := [4, 5] }
def slaws_FnExactExampleEnds_r20 : Reg :=
  { id := 20, ops := [{ op := .mv (.slot 5) },
      { op := .mv (.slot 4) },
      { op := .bin .neq (.loc 0) (.loc 1) }], sets := [(12, 2)], clr := [4, 5] }
def slaws_FnExactExampleEnds_r21 : Reg :=
  { id := 21, ops := [{ op := .mv (.con (.sc (.bool false))) }], sets := [(1, 0)] }
def slaws_FnExactExampleEnds_r22 : Reg :=
  { id := 22, ops := [{ op := .mv (.con (.sc (.bool true))) }], sets := [(1, 0)] }
def slaws_FnExactExampleEnds_b : SC := .seq (.reg slaws_FnExactExampleEnds_r0) (.seq (.reg slaws_FnExactExampleEnds_r1) (.seq (.reg slaws_FnExactExampleEnds_r2) (.seq (.seq (.reg slaws_FnExactExampleEnds_r3) (.cond 7 (.seq (.reg slaws_FnExactExampleEnds_r4) (.ret)) (.skip))) (.seq (.reg slaws_FnExactExampleEnds_r5) (.seq (.reg slaws_FnExactExampleEnds_r6) (.seq (.reg slaws_FnExactExampleEnds_r7) (.seq (.reg slaws_FnExactExampleEnds_r8) (.seq (.seq (.reg slaws_FnExactExampleEnds_r9) (.cond 8 (.seq (.reg slaws_FnExactExampleEnds_r10) (.ret)) (.skip))) (.seq (.seq (.reg slaws_FnExactExampleEnds_r11) (.cond 9 (.seq (.reg slaws_FnExactExampleEnds_r12) (.ret)) (.skip))) (.seq (.reg slaws_FnExactExampleEnds_r13) (.seq (.seq (.reg slaws_FnExactExampleEnds_r14) (.cond 10 (.seq (.reg slaws_FnExactExampleEnds_r15) (.ret)) (.skip))) (.seq (.reg slaws_FnExactExampleEnds_r16) (.seq (.reg slaws_FnExactExampleEnds_r17) (.seq (.seq (.reg slaws_FnExactExampleEnds_r18) (.cond 11 (.seq (.reg slaws_FnExactExampleEnds_r19) (.ret)) (.skip))) (.seq (.seq (.reg slaws_FnExactExampleEnds_r20) (.cond 12 (.seq (.reg slaws_FnExactExampleEnds_r21) (.ret)) (.skip))) (.seq (.reg slaws_FnExactExampleEnds_r22) (.ret)))))))))))))))))
def slaws_FnExactExampleEnds : SFn := { nslots := 13, nobjs := 3, params := [0], ngiven := 0, bor := false, takes := [], body := slaws_FnExactExampleEnds_b, results := [.slot 1] }
def slaws_FnExactExampleEnds_t : List Tmp := [0, 2, 3, 4, 5, 6, 7, 15, 23, 26, 32, 37, 40]
attribute [simp] slaws_FnExactExampleEnds_r0 slaws_FnExactExampleEnds_r1 slaws_FnExactExampleEnds_r2 slaws_FnExactExampleEnds_r3 slaws_FnExactExampleEnds_r4 slaws_FnExactExampleEnds_r5 slaws_FnExactExampleEnds_r6 slaws_FnExactExampleEnds_r7 slaws_FnExactExampleEnds_r8 slaws_FnExactExampleEnds_r9 slaws_FnExactExampleEnds_r10 slaws_FnExactExampleEnds_r11 slaws_FnExactExampleEnds_r12 slaws_FnExactExampleEnds_r13 slaws_FnExactExampleEnds_r14 slaws_FnExactExampleEnds_r15 slaws_FnExactExampleEnds_r16 slaws_FnExactExampleEnds_r17 slaws_FnExactExampleEnds_r18 slaws_FnExactExampleEnds_r19 slaws_FnExactExampleEnds_r20 slaws_FnExactExampleEnds_r21 slaws_FnExactExampleEnds_r22 slaws_FnExactExampleEnds_b slaws_FnExactExampleEnds
def sspec_EventName_r0 : Reg :=
  { id := 0, ops := [{ op := .mv (.con (.sc (.string ⟨#[]⟩))) }], clr := [1] }
def sspec_EventName_r1 : Reg :=
  { id := 1, ops := [{ op := .mv (.slot 0) },
      { op := .call 71 [(false, .loc 0), (false, .con (.sc (.int .i64 1))), (false, .con (.sc (.int .i64 8)))] [] },
      { op := .un .not (.loc 1) }], sets := [(2, 2)] }
def sspec_EventName_r2 : Reg :=
  { id := 2, ops := [{ op := .mv (.con (.sc (.string ⟨#[]⟩))) }], sets := [(1, 0)], clr := [0] }
def sspec_EventName_r3 : Reg :=
  { id := 3, ops := [{ op := .buildSlice 0 1 9 [.con (.sc (.string ⟨#[]⟩)), .con (.sc (.string ⟨#[100, 105, 97, 108]⟩)), .con (.sc (.string ⟨#[115, 116, 97, 114, 116]⟩)), .con (.sc (.string ⟨#[115, 116, 97, 103, 101]⟩)), .con (.sc (.string ⟨#[114, 101, 116, 105, 114, 101]⟩)), .con (.sc (.string ⟨#[114, 101, 118, 105, 118, 101]⟩)), .con (.sc (.string ⟨#[98, 111, 120]⟩)), .con (.sc (.string ⟨#[99, 108, 101, 97, 114]⟩)), .con (.sc (.string ⟨#[116, 105, 99, 107]⟩))] },
      { op := .mv (.slot 0) },
      { op := .indexAddr 1 (.loc 0) (.loc 1) },
      { op := .load none (.loc 2) },
      { op := .mv (.loc 3) }], sets := [(1, 4)], clr := [0] }
def sspec_EventName_b : SC := .seq (.reg sspec_EventName_r0) (.seq (.seq (.reg sspec_EventName_r1) (.cond 2 (.seq (.reg sspec_EventName_r2) (.ret)) (.skip))) (.seq (.reg sspec_EventName_r3) (.ret)))
def sspec_EventName : SFn := { nslots := 3, nobjs := 1, params := [0], ngiven := 0, bor := false, takes := [], body := sspec_EventName_b, results := [.slot 1] }
def sspec_EventName_t : List Tmp := [0, 2, 5]
attribute [simp] sspec_EventName_r0 sspec_EventName_r1 sspec_EventName_r2 sspec_EventName_r3 sspec_EventName_b sspec_EventName
def simpl_EventName_r0 : Reg :=
  { id := 0, ops := [{ op := .mv (.con (.sc (.string ⟨#[]⟩))) }], clr := [1] }
def simpl_EventName_r1 : Reg :=
  { id := 1, ops := [{ op := .mv (.slot 0) },
      { op := .call 114 [(false, .loc 0), (false, .con (.sc (.int .i64 1))), (false, .con (.sc (.int .i64 8)))] [] },
      { op := .un .not (.loc 1) }], sets := [(2, 2)] }
def simpl_EventName_r2 : Reg :=
  { id := 2, ops := [{ op := .mv (.con (.sc (.string ⟨#[]⟩))) }], sets := [(1, 0)], clr := [0] }
def simpl_EventName_r3 : Reg :=
  { id := 3, ops := [{ op := .build [.sc (.string ⟨#[]⟩), .sc (.string ⟨#[]⟩), .sc (.string ⟨#[]⟩), .sc (.string ⟨#[]⟩), .sc (.string ⟨#[]⟩), .sc (.string ⟨#[]⟩), .sc (.string ⟨#[]⟩), .sc (.string ⟨#[]⟩), .sc (.string ⟨#[]⟩)] [(0, 1, .con (.sc (.string ⟨#[]⟩))), (1, 1, .con (.sc (.string ⟨#[100, 105, 97, 108]⟩))), (2, 1, .con (.sc (.string ⟨#[115, 116, 97, 114, 116]⟩))), (3, 1, .con (.sc (.string ⟨#[115, 116, 97, 103, 101]⟩))), (4, 1, .con (.sc (.string ⟨#[114, 101, 116, 105, 114, 101]⟩))), (5, 1, .con (.sc (.string ⟨#[114, 101, 118, 105, 118, 101]⟩))), (6, 1, .con (.sc (.string ⟨#[98, 111, 120]⟩))), (7, 1, .con (.sc (.string ⟨#[99, 108, 101, 97, 114]⟩))), (8, 1, .con (.sc (.string ⟨#[116, 105, 99, 107]⟩)))] },
      { op := .mv (.slot 0) },
      { op := .indexA 9 1 (.loc 0) (.loc 1) },
      { op := .mv (.loc 2) }], sets := [(1, 3)], clr := [0] }
def simpl_EventName_b : SC := .seq (.reg simpl_EventName_r0) (.seq (.seq (.reg simpl_EventName_r1) (.cond 2 (.seq (.reg simpl_EventName_r2) (.ret)) (.skip))) (.seq (.reg simpl_EventName_r3) (.ret)))
def simpl_EventName : SFn := { nslots := 3, nobjs := 0, params := [0], ngiven := 0, bor := false, takes := [], body := simpl_EventName_b, results := [.slot 1] }
def simpl_EventName_t : List Tmp := [0, 2, 5]
attribute [simp] simpl_EventName_r0 simpl_EventName_r1 simpl_EventName_r2 simpl_EventName_r3 simpl_EventName_b simpl_EventName
def slaws_szDialed_r0 : Reg :=
  { id := 0, ops := [{ op := .box 0 (.slot 0) },
      { op := .mv (.con (.sc (.int .i64 0))) }], sets := [(2, 0)], clr := [0, 3] }
def slaws_szDialed_r1 : Reg :=
  { id := 1, ops := [{ op := .fieldAddr (.slot 2) 0 },
      { op := .load (some 3) (.loc 0) },
      { op := .mv (.slot 1) },
      { op := .call 140 [(false, .loc 1), (false, .loc 2)] [] },
      { op := .mv (.loc 3) }], sets := [(1, 4)] }
def slaws_szDialed_r2 : Reg :=
  { id := 2, ops := [{ op := .mv (.slot 1) },
      { op := .bin .lss (.loc 0) (.con (.sc (.int .i64 0))) }], sets := [(4, 1)] }
def slaws_szDialed_r3 : Reg :=
  { id := 3, ops := [{ op := .mv (.con (.sc (.int .i64 (-1)))) }], sets := [(3, 0)], clr := [1, 2] }
def slaws_szDialed_r4 : Reg :=
  { id := 4, ops := [{ op := .fieldAddr (.slot 2) 4 },
      { op := .load none (.loc 0) },
      { op := .mv (.slot 1) },
      { op := .call 16 [(false, .loc 1), (false, .loc 2)] [] },
      { op := .mv (.loc 3) }], sets := [(1, 4)], clr := [2] }
def slaws_szDialed_r5 : Reg :=
  { id := 5, ops := [{ op := .mv (.slot 1) },
      { op := .bin .lss (.loc 0) (.con (.sc (.int .i64 0))) }], sets := [(5, 1)] }
def slaws_szDialed_r6 : Reg :=
  { id := 6, ops := [{ op := .mv (.con (.sc (.int .i64 (-1)))) }], sets := [(3, 0)], clr := [1] }
def slaws_szDialed_r7 : Reg :=
  { id := 7, ops := [{ op := .mv (.slot 1) },
      { op := .mv (.loc 0) }], sets := [(3, 1)], clr := [1] }
def slaws_szDialed_b : SC := .seq (.reg slaws_szDialed_r0) (.seq (.reg slaws_szDialed_r1) (.seq (.seq (.reg slaws_szDialed_r2) (.cond 4 (.seq (.reg slaws_szDialed_r3) (.ret)) (.skip))) (.seq (.reg slaws_szDialed_r4) (.seq (.seq (.reg slaws_szDialed_r5) (.cond 5 (.seq (.reg slaws_szDialed_r6) (.ret)) (.skip))) (.seq (.reg slaws_szDialed_r7) (.ret))))))
def slaws_szDialed : SFn := { nslots := 6, nobjs := 1, params := [0, 1], ngiven := 0, bor := false, takes := [], body := slaws_szDialed_b, results := [.slot 3] }
def slaws_szDialed_t : List Tmp := [0, 1, 2, 4, 10, 16]
attribute [simp] slaws_szDialed_r0 slaws_szDialed_r1 slaws_szDialed_r2 slaws_szDialed_r3 slaws_szDialed_r4 slaws_szDialed_r5 slaws_szDialed_r6 slaws_szDialed_r7 slaws_szDialed_b slaws_szDialed
def sspec_IsBadDial_r0 : Reg :=
  { id := 0, ops := [{ op := .box 0 (.slot 0) },
      { op := .mv (.con (.sc (.bool false))) }], sets := [(2, 0)], clr := [0, 3] }
def sspec_IsBadDial_r1 : Reg :=
  { id := 1, ops := [{ op := .load (some 5) (.slot 2) },
      { op := .buildSlice 1 5 1 [.loc 0] },
      { op := .mv (.slot 1) },
      { op := .call 155 [(false, .loc 1), (false, .loc 2)] [] },
      { op := .mv (.loc 3) },
      { op := .extract (.loc 4) 0 },
      { op := .extract (.loc 4) 1 },
      { op := .mv (.loc 5) },
      { op := .mv (.loc 6) }], sets := [(4, 8)], clr := [1, 2] }
def sspec_IsBadDial_r2 : Reg :=
  { id := 2, ops := [{ op := .mv (.slot 4) },
      { op := .bin .gtr (.loc 0) (.con (.sc (.int .i64 0))) },
      { op := .mv (.loc 1) }], sets := [(3, 2)], clr := [4] }
def sspec_IsBadDial_b : SC := .seq (.reg sspec_IsBadDial_r0) (.seq (.reg sspec_IsBadDial_r1) (.seq (.reg sspec_IsBadDial_r2) (.ret)))
def sspec_IsBadDial : SFn := { nslots := 5, nobjs := 2, params := [0, 1], ngiven := 0, bor := false, takes := [], body := sspec_IsBadDial_b, results := [.slot 3] }
def sspec_IsBadDial_t : List Tmp := [0, 1, 2, 4, 6]
attribute [simp] sspec_IsBadDial_r0 sspec_IsBadDial_r1 sspec_IsBadDial_r2 sspec_IsBadDial_b sspec_IsBadDial
def slaws_toDialed_r0 : Reg :=
  { id := 0, ops := [{ op := .box 0 (.slot 0) },
      { op := .alloc 1 [.sc (.bool false), .sc (.int .i64 0), .nil 1, .sc (.int .i64 0), .nil 1] }], sets := [(1, 0), (2, 1)], clr := [0] }
def slaws_toDialed_r1 : Reg :=
  { id := 1, ops := [{ op := .alloc 2 [.sc (.bool false), .sc (.int .i64 0), .nil 1, .sc (.int .i64 0), .nil 1] }], sets := [(3, 0)] }
def slaws_toDialed_r2 : Reg :=
  { id := 2, ops := [{ op := .fieldAddr (.slot 1) 0 },
      { op := .load (some 3) (.loc 0) },
      { op := .call 171 [(false, .loc 1)] [3] },
      { op := .fieldAddr (.slot 3) 0 },
      { op := .store 3 (.loc 3) (.loc 2) }] }
def slaws_toDialed_r3 : Reg :=
  { id := 3, ops := [{ op := .fieldAddr (.slot 1) 3 },
      { op := .load none (.loc 0) },
      { op := .fieldAddr (.slot 3) 3 },
      { op := .store 1 (.loc 2) (.loc 1) }] }
def slaws_toDialed_r4 : Reg :=
  { id := 4, ops := [{ op := .fieldAddr (.slot 1) 4 },
      { op := .load none (.loc 0) },
      { op := .call 31 [(false, .loc 1)] [4] },
      { op := .fieldAddr (.slot 3) 4 },
      { op := .store 1 (.loc 3) (.loc 2) }], clr := [1] }
def slaws_toDialed_r5 : Reg :=
  { id := 5, ops := [{ op := .load (some 5) (.slot 3) },
      { op := .store 5 (.slot 2) (.loc 0) }], clr := [3] }
def slaws_toDialed_b : SC := .seq (.reg slaws_toDialed_r0) (.seq (.reg slaws_toDialed_r1) (.seq (.reg slaws_toDialed_r2) (.seq (.reg slaws_toDialed_r3) (.seq (.reg slaws_toDialed_r4) (.seq (.reg slaws_toDialed_r5) (.ret))))))
def slaws_toDialed : SFn := { nslots := 4, nobjs := 5, params := [0], ngiven := 0, bor := false, takes := [], body := slaws_toDialed_b, results := [.cell 2 (some 5)] }
def slaws_toDialed_t : List Tmp := [0, 1, 2, 3]
attribute [simp] slaws_toDialed_r0 slaws_toDialed_r1 slaws_toDialed_r2 slaws_toDialed_r3 slaws_toDialed_r4 slaws_toDialed_r5 slaws_toDialed_b slaws_toDialed
def simpl_IsBadDial_r0 : Reg :=
  { id := 0, ops := [{ op := .box 0 (.slot 0) },
      { op := .mv (.con (.sc (.bool false))) }], sets := [(2, 0)], clr := [0, 3] }
def simpl_IsBadDial_r1 : Reg :=
  { id := 1, ops := [{ op := .load (some 5) (.slot 2) },
      { op := .mv (.slot 1) },
      { op := .call 229 [(false, .loc 0), (false, .loc 1)] [] },
      { op := .mv (.loc 2) }], sets := [(3, 3)], clr := [1, 2] }
def simpl_IsBadDial_b : SC := .seq (.reg simpl_IsBadDial_r0) (.seq (.reg simpl_IsBadDial_r1) (.ret))
def simpl_IsBadDial : SFn := { nslots := 4, nobjs := 1, params := [0, 1], ngiven := 0, bor := false, takes := [], body := simpl_IsBadDial_b, results := [.slot 3] }
def simpl_IsBadDial_t : List Tmp := [0, 1, 2, 4]
attribute [simp] simpl_IsBadDial_r0 simpl_IsBadDial_r1 simpl_IsBadDial_b simpl_IsBadDial
def slaws_eqDialed_r0 : Reg :=
  { id := 0, ops := [{ op := .box 0 (.slot 0) },
      { op := .box 1 (.slot 1) },
      { op := .mv (.con (.sc (.bool false))) }], sets := [(2, 0), (3, 1)], clr := [0, 1, 4] }
def slaws_eqDialed_r1 : Reg :=
  { id := 1, ops := [{ op := .fieldAddr (.slot 2) 0 },
      { op := .load (some 3) (.loc 0) },
      { op := .fieldAddr (.slot 3) 0 },
      { op := .load (some 3) (.loc 2) },
      { op := .call 205 [(false, .loc 1), (false, .loc 3)] [] },
      { op := .un .not (.loc 4) }], sets := [(5, 5)] }
def slaws_eqDialed_r2 : Reg :=
  { id := 2, ops := [{ op := .mv (.con (.sc (.bool false))) }], sets := [(4, 0)], clr := [2, 3] }
def slaws_eqDialed_r3 : Reg :=
  { id := 3, ops := [{ op := .fieldAddr (.slot 2) 3 },
      { op := .load none (.loc 0) },
      { op := .fieldAddr (.slot 3) 3 },
      { op := .load none (.loc 2) },
      { op := .bin .neq (.loc 1) (.loc 3) }], sets := [(6, 4)] }
def slaws_eqDialed_r4 : Reg :=
  { id := 4, ops := [{ op := .mv (.con (.sc (.bool false))) }], sets := [(4, 0)], clr := [2, 3] }
def slaws_eqDialed_r5 : Reg :=
  { id := 5, ops := [{ op := .fieldAddr (.slot 2) 4 },
      { op := .load none (.loc 0) },
      { op := .fieldAddr (.slot 3) 4 },
      { op := .load none (.loc 2) },
      { op := .call 47 [(false, .loc 1), (false, .loc 3)] [] },
      { op := .un .not (.loc 4) }], sets := [(7, 5)], clr := [2, 3] }
def slaws_eqDialed_r6 : Reg :=
  { id := 6, ops := [{ op := .mv (.con (.sc (.bool false))) }], sets := [(4, 0)] }
def slaws_eqDialed_r7 : Reg :=
  { id := 7, ops := [{ op := .mv (.con (.sc (.bool true))) }], sets := [(4, 0)] }
def slaws_eqDialed_b : SC := .seq (.reg slaws_eqDialed_r0) (.seq (.seq (.reg slaws_eqDialed_r1) (.cond 5 (.seq (.reg slaws_eqDialed_r2) (.ret)) (.skip))) (.seq (.seq (.reg slaws_eqDialed_r3) (.cond 6 (.seq (.reg slaws_eqDialed_r4) (.ret)) (.skip))) (.seq (.seq (.reg slaws_eqDialed_r5) (.cond 7 (.seq (.reg slaws_eqDialed_r6) (.ret)) (.skip))) (.seq (.reg slaws_eqDialed_r7) (.ret)))))
def slaws_eqDialed : SFn := { nslots := 8, nobjs := 2, params := [0, 1], ngiven := 0, bor := false, takes := [], body := slaws_eqDialed_b, results := [.slot 4] }
def slaws_eqDialed_t : List Tmp := [0, 1, 2, 3, 4, 10, 15, 21]
attribute [simp] slaws_eqDialed_r0 slaws_eqDialed_r1 slaws_eqDialed_r2 slaws_eqDialed_r3 slaws_eqDialed_r4 slaws_eqDialed_r5 slaws_eqDialed_r6 slaws_eqDialed_r7 slaws_eqDialed_b slaws_eqDialed
def slaws_szEventS_r0 : Reg :=
  { id := 0, ops := [{ op := .mv (.con (.sc (.int .i64 0))) }], clr := [2] }
def slaws_szEventS_r1 : Reg :=
  { id := 1, ops := [{ op := .mv (.slot 1) },
      { op := .mv (.slot 0) },
      { op := .len false (.loc 1) },
      { op := .bin .sub (.loc 0) (.loc 2) },
      { op := .mv (.loc 3) }], sets := [(1, 4)] }
def slaws_szEventS_r2 : Reg :=
  { id := 2, ops := [{ op := .mv (.slot 1) },
      { op := .bin .lss (.loc 0) (.con (.sc (.int .i64 0))) }], sets := [(4, 1)] }
def slaws_szEventS_r3 : Reg :=
  { id := 3, ops := [{ op := .mv (.con (.sc (.int .i64 (-1)))) }], sets := [(2, 0)], clr := [0, 1] }
def slaws_szEventS_r4 : Reg :=
  { id := 4, ops := [{ op := .mv (.con (.sc (.int .i64 0))) }], sets := [(3, 0)] }
def slaws_szEventS_r5 : Reg :=
  { id := 5, ops := [{ op := .mv (.slot 3) },
      { op := .mv (.slot 0) },
      { op := .len false (.loc 1) },
      { op := .bin .lss (.loc 0) (.loc 2) }], sets := [(5, 3)] }
def slaws_szEventS_r6 : Reg :=
  { id := 7, ops := [{ op := .mv (.slot 0) },
      { op := .mv (.slot 3) },
      { op := .indexAddr 6 (.loc 0) (.loc 1) },
      { op := .load (some 6) (.loc 2) },
      { op := .mv (.slot 1) },
      { op := .call 386 [(false, .loc 3), (false, .loc 4)] [] },
      { op := .mv (.loc 5) }], sets := [(1, 6)] }
def slaws_szEventS_r7 : Reg :=
  { id := 8, ops := [{ op := .mv (.slot 1) },
      { op := .bin .lss (.loc 0) (.con (.sc (.int .i64 0))) }], sets := [(6, 1)] }
def slaws_szEventS_r8 : Reg :=
  { id := 9, ops := [{ op := .mv (.con (.sc (.int .i64 (-1)))) }], sets := [(2, 0)], clr := [0, 1, 3] }
def slaws_szEventS_r9 : Reg :=
  { id := 6, ops := [{ op := .mv (.slot 3) },
      { op := .bin .add (.loc 0) (.con (.sc (.int .i64 1))) },
      { op := .mv (.loc 1) }], sets := [(3, 2)] }
def slaws_szEventS_r10 : Reg :=
  { id := 10, ops := [{ op := .mv (.slot 1) },
      { op := .mv (.loc 0) }], sets := [(2, 1)], clr := [0, 1, 3] }
def slaws_szEventS_b : SC := .seq (.reg slaws_szEventS_r0) (.seq (.reg slaws_szEventS_r1) (.seq (.seq (.reg slaws_szEventS_r2) (.cond 4 (.seq (.reg slaws_szEventS_r3) (.ret)) (.skip))) (.seq (.seq (.reg slaws_szEventS_r4) (.block 0 (.loop (.seq (.seq (.reg slaws_szEventS_r5) (.cond 5 (.skip) (.exit 0))) (.seq (.block 1 (.seq (.reg slaws_szEventS_r6) (.seq (.reg slaws_szEventS_r7) (.cond 6 (.seq (.reg slaws_szEventS_r8) (.ret)) (.skip))))) (.reg slaws_szEventS_r9)))))) (.seq (.reg slaws_szEventS_r10) (.ret)))))
def slaws_szEventS : SFn := { nslots := 7, nobjs := 0, params := [0, 1], ngiven := 0, bor := false, takes := [], body := slaws_szEventS_b, results := [.slot 2] }
def slaws_szEventS_t : List Tmp := [0, 1, 4, 5, 11, 15, 25]
attribute [simp] slaws_szEventS_r0 slaws_szEventS_r1 slaws_szEventS_r2 slaws_szEventS_r3 slaws_szEventS_r4 slaws_szEventS_r5 slaws_szEventS_r6 slaws_szEventS_r7 slaws_szEventS_r8 slaws_szEventS_r9 slaws_szEventS_r10 slaws_szEventS_b slaws_szEventS
def sspec_CountKind_r0 : Reg :=
  { id := 0, ops := [{ op := .mv (.con (.sc (.int .i64 0))) }], clr := [2] }
def sspec_CountKind_r1 : Reg :=
  { id := 1, ops := [{ op := .mv (.con (.sc (.int .i64 0))) }], sets := [(3, 0)] }
def sspec_CountKind_r2 : Reg :=
  { id := 2, ops := [{ op := .mv (.con (.sc (.int .i64 0))) }], sets := [(4, 0)] }
def sspec_CountKind_r3 : Reg :=
  { id := 3, ops := [{ op := .mv (.slot 4) },
      { op := .mv (.slot 0) },
      { op := .len false (.loc 1) },
      { op := .bin .lss (.loc 0) (.loc 2) }], sets := [(5, 3)] }
def sspec_CountKind_r4 : Reg :=
  { id := 5, ops := [{ op := .mv (.slot 0) },
      { op := .mv (.slot 4) },
      { op := .indexAddr 6 (.loc 0) (.loc 1) },
      { op := .fieldAddr (.loc 2) 0 },
      { op := .load none (.loc 3) },
      { op := .mv (.slot 1) },
      { op := .bin .eql (.loc 4) (.loc 5) }], sets := [(6, 6)] }
def sspec_CountKind_r5 : Reg :=
  { id := 6, ops := [{ op := .mv (.slot 3) },
      { op := .bin .add (.loc 0) (.con (.sc (.int .i64 1))) },
      { op := .mv (.loc 1) }], sets := [(3, 2)] }
def sspec_CountKind_r6 : Reg :=
  { id := 4, ops := [{ op := .mv (.slot 4) },
      { op := .bin .add (.loc 0) (.con (.sc (.int .i64 1))) },
      { op := .mv (.loc 1) }], sets := [(4, 2)] }
def sspec_CountKind_r7 : Reg :=
  { id := 7, ops := [{ op := .mv (.slot 3) },
      { op := .mv (.loc 0) }], sets := [(2, 1)], clr := [0, 1, 3, 4] }
def sspec_CountKind_b : SC := .seq (.reg sspec_CountKind_r0) (.seq (.reg sspec_CountKind_r1) (.seq (.seq (.reg sspec_CountKind_r2) (.block 0 (.loop (.seq (.seq (.reg sspec_CountKind_r3) (.cond 5 (.skip) (.exit 0))) (.seq (.block 1 (.seq (.reg sspec_CountKind_r4) (.cond 6 (.reg sspec_CountKind_r5) (.skip)))) (.reg sspec_CountKind_r6)))))) (.seq (.reg sspec_CountKind_r7) (.ret))))
def sspec_CountKind : SFn := { nslots := 7, nobjs := 0, params := [0, 1], ngiven := 0, bor := false, takes := [], body := sspec_CountKind_b, results := [.slot 2] }
def sspec_CountKind_t : List Tmp := [0, 1, 4, 5, 6, 10, 19]
attribute [simp] sspec_CountKind_r0 sspec_CountKind_r1 sspec_CountKind_r2 sspec_CountKind_r3 sspec_CountKind_r4 sspec_CountKind_r5 sspec_CountKind_r6 sspec_CountKind_r7 sspec_CountKind_b sspec_CountKind
def slaws_toEventS_r0 : Reg :=
  { id := 0, ops := [{ op := .mv (.con (.nil 6)) }], clr := [1] }
def slaws_toEventS_r1 : Reg :=
  { id := 1, ops := [{ op := .mv (.slot 0) },
      { op := .len false (.loc 0) },
      { op := .makeSlice 0 6 80 [.sc (.int .i64 0), .sc (.int .i64 0), .sc (.int .i64 0), .sl 0 1 0 [], .sl 0 1 0 [], .sc (.bool false)] (.loc 1) },
      { op := .mv (.loc 2) }], sets := [(2, 3)] }
def slaws_toEventS_r2 : Reg :=
  { id := 2, ops := [{ op := .mv (.con (.sc (.int .i64 0))) }], sets := [(3, 0)] }
def slaws_toEventS_r3 : Reg :=
  { id := 3, ops := [{ op := .mv (.slot 3) },
      { op := .mv (.slot 0) },
      { op := .len false (.loc 1) },
      { op := .bin .lss (.loc 0) (.loc 2) }], sets := [(4, 3)] }
def slaws_toEventS_r4 : Reg :=
  { id := 5, fresh := [1, 2], ops := [{ op := .mv (.slot 2) },
      { op := .mv (.slot 3) },
      { op := .mv (.slot 0) },
      { op := .mv (.slot 3) },
      { op := .indexAddr 6 (.loc 2) (.loc 3) },
      { op := .load (some 6) (.loc 4) },
      { op := .call 387 [(false, .loc 5)] [1, 2] },
      { op := .indexAddr 6 (.loc 0) (.loc 1) },
      { op := .store 6 (.loc 7) (.loc 6) }] }
def slaws_toEventS_r5 : Reg :=
  { id := 4, ops := [{ op := .mv (.slot 3) },
      { op := .bin .add (.loc 0) (.con (.sc (.int .i64 1))) },
      { op := .mv (.loc 1) }], sets := [(3, 2)] }
def slaws_toEventS_r6 : Reg :=
  { id := 6, ops := [{ op := .mv (.slot 2) },
      { op := .mv (.loc 0) }], sets := [(1, 1)], clr := [0, 2, 3] }
def slaws_toEventS_b : SC := .seq (.reg slaws_toEventS_r0) (.seq (.reg slaws_toEventS_r1) (.seq (.seq (.reg slaws_toEventS_r2) (.block 0 (.loop (.seq (.seq (.reg slaws_toEventS_r3) (.cond 4 (.skip) (.exit 0))) (.seq (.block 1 (.reg slaws_toEventS_r4)) (.reg slaws_toEventS_r5)))))) (.seq (.reg slaws_toEventS_r6) (.ret))))
def slaws_toEventS : SFn := { nslots := 5, nobjs := 3, params := [0], ngiven := 0, bor := false, takes := [], body := slaws_toEventS_b, results := [.slot 1] }
def slaws_toEventS_t : List Tmp := [0, 2, 3, 4, 11]
attribute [simp] slaws_toEventS_r0 slaws_toEventS_r1 slaws_toEventS_r2 slaws_toEventS_r3 slaws_toEventS_r4 slaws_toEventS_r5 slaws_toEventS_r6 slaws_toEventS_b slaws_toEventS
def simpl_CountKind_r0 : Reg :=
  { id := 0, ops := [{ op := .mv (.con (.sc (.int .i64 0))) }], clr := [2] }
def simpl_CountKind_r1 : Reg :=
  { id := 1, ops := [{ op := .mv (.con (.sc (.int .i64 0))) }], sets := [(3, 0)] }
def simpl_CountKind_r2 : Reg :=
  { id := 2, ops := [{ op := .mv (.slot 0) },
      { op := .len false (.loc 0) },
      { op := .mv (.con (.sc (.int .i64 0))) }], sets := [(5, 0), (6, 1), (7, 2)], clr := [0] }
def simpl_CountKind_r3 : Reg :=
  { id := 3, ops := [{ op := .bin .lss (.slot 7) (.slot 6) }], sets := [(8, 0)] }
def simpl_CountKind_r4 : Reg :=
  { id := 4, fresh := [0], ops := [{ op := .indexAddr 6 (.slot 5) (.slot 7) },
      { op := .load (some 6) (.loc 0) },
      { op := .alloc 0 [.sc (.int .i64 0), .sc (.int .i64 0), .sc (.int .i64 0), .nil 1, .nil 1, .sc (.bool false)] },
      { op := .store 6 (.loc 2) (.loc 1) }], sets := [(4, 2)] }
def simpl_CountKind_r5 : Reg :=
  { id := 5, ops := [{ op := .fieldAddr (.slot 4) 0 },
      { op := .load none (.loc 0) },
      { op := .mv (.slot 1) },
      { op := .bin .eql (.loc 1) (.loc 2) }], sets := [(9, 3)], clr := [4] }
def simpl_CountKind_r6 : Reg :=
  { id := 6, ops := [{ op := .mv (.slot 3) },
      { op := .bin .add (.loc 0) (.con (.sc (.int .i64 1))) },
      { op := .mv (.loc 1) }], sets := [(3, 2)] }
def simpl_CountKind_r7 : Reg :=
  { id := 7, ops := [{ op := .bin .add (.slot 7) (.con (.sc (.int .i64 1))) },
      { op := .mv (.loc 0) }], sets := [(7, 1)] }
def simpl_CountKind_r8 : Reg :=
  { id := 8, ops := [{ op := .mv (.slot 3) },
      { op := .mv (.loc 0) }], sets := [(2, 1)], clr := [1, 3, 5, 6, 7] }
def simpl_CountKind_b : SC := .seq (.reg simpl_CountKind_r0) (.seq (.reg simpl_CountKind_r1) (.seq (.seq (.reg simpl_CountKind_r2) (.block 0 (.loop (.seq (.reg simpl_CountKind_r3) (.seq (.cond 8 (.skip) (.exit 0)) (.seq (.block 1 (.seq (.reg simpl_CountKind_r4) (.seq (.reg simpl_CountKind_r5) (.cond 9 (.reg simpl_CountKind_r6) (.skip))))) (.reg simpl_CountKind_r7))))))) (.seq (.reg simpl_CountKind_r8) (.ret))))
def simpl_CountKind : SFn := { nslots := 10, nobjs := 1, params := [0, 1], ngiven := 0, bor := false, takes := [], body := simpl_CountKind_b, results := [.slot 2] }
def simpl_CountKind_t : List Tmp := [0, 1, 4, 5, 7, 8, 9, 10, 11, 17]
attribute [simp] simpl_CountKind_r0 simpl_CountKind_r1 simpl_CountKind_r2 simpl_CountKind_r3 simpl_CountKind_r4 simpl_CountKind_r5 simpl_CountKind_r6 simpl_CountKind_r7 simpl_CountKind_r8 simpl_CountKind_b simpl_CountKind
def slaws_eqEventS_r0 : Reg :=
  { id := 0, ops := [{ op := .mv (.con (.sc (.bool false))) }], clr := [2] }
def slaws_eqEventS_r1 : Reg :=
  { id := 1, ops := [{ op := .mv (.slot 0) },
      { op := .len false (.loc 0) },
      { op := .mv (.slot 1) },
      { op := .len false (.loc 2) },
      { op := .bin .neq (.loc 1) (.loc 3) }], sets := [(4, 4)] }
def slaws_eqEventS_r2 : Reg :=
  { id := 2, ops := [{ op := .mv (.con (.sc (.bool false))) }], sets := [(2, 0)], clr := [0, 1] }
def slaws_eqEventS_r3 : Reg :=
  { id := 3, ops := [{ op := .mv (.con (.sc (.int .i64 0))) }], sets := [(3, 0)] }
def slaws_eqEventS_r4 : Reg :=
  { id := 4, ops := [{ op := .mv (.slot 3) },
      { op := .mv (.slot 0) },
      { op := .len false (.loc 1) },
      { op := .bin .lss (.loc 0) (.loc 2) }], sets := [(5, 3)] }
def slaws_eqEventS_r5 : Reg :=
  { id := 6, draw := true, ops := [{ op := .mv (.slot 0), tau := some [], om := [] },
      { op := .mv (.slot 3), tau := some [], om := [] },
      { op := .indexAddr 6 (.loc 0) (.loc 1), tau := some [], om := [] },
      { op := .load (some 6) (.loc 2), tau := some [], om := [] },
      { op := .mv (.slot 1), tau := some [], om := [] },
      { op := .mv (.slot 3), tau := some [], om := [] },
      { op := .indexAddr 6 (.loc 4) (.loc 5), tau := some [], om := [] },
      { op := .load (some 6) (.loc 6), tau := some [], om := [] },
      { op := .call 388 [(false, .loc 3), (false, .loc 7)] [], tau := some [], om := [] },
      { op := .un .not (.loc 8), tau := some [], om := [] }], sets := [(6, 9)] }
def slaws_eqEventS_r6 : Reg :=
  { id := 7, ops := [{ op := .mv (.con (.sc (.bool false))) }], sets := [(2, 0)], clr := [0, 1, 3] }
def slaws_eqEventS_r7 : Reg :=
  { id := 5, ops := [{ op := .mv (.slot 3) },
      { op := .bin .add (.loc 0) (.con (.sc (.int .i64 1))) },
      { op := .mv (.loc 1) }], sets := [(3, 2)] }
def slaws_eqEventS_r8 : Reg :=
  { id := 8, ops := [{ op := .mv (.con (.sc (.bool true))) }], sets := [(2, 0)], clr := [0, 1, 3] }
def slaws_eqEventS_b : SC := .seq (.reg slaws_eqEventS_r0) (.seq (.seq (.reg slaws_eqEventS_r1) (.cond 4 (.seq (.reg slaws_eqEventS_r2) (.ret)) (.skip))) (.seq (.seq (.reg slaws_eqEventS_r3) (.block 0 (.loop (.seq (.seq (.reg slaws_eqEventS_r4) (.cond 5 (.skip) (.exit 0))) (.seq (.block 1 (.seq (.reg slaws_eqEventS_r5) (.cond 6 (.seq (.reg slaws_eqEventS_r6) (.ret)) (.skip)))) (.reg slaws_eqEventS_r7)))))) (.seq (.reg slaws_eqEventS_r8) (.ret))))
def slaws_eqEventS : SFn := { nslots := 7, nobjs := 0, params := [0, 1], ngiven := 0, bor := false, takes := [], body := slaws_eqEventS_b, results := [.slot 2] }
def slaws_eqEventS_t : List Tmp := [0, 1, 4, 5, 10, 14, 26]
attribute [simp] slaws_eqEventS_r0 slaws_eqEventS_r1 slaws_eqEventS_r2 slaws_eqEventS_r3 slaws_eqEventS_r4 slaws_eqEventS_r5 slaws_eqEventS_r6 slaws_eqEventS_r7 slaws_eqEventS_r8 slaws_eqEventS_b slaws_eqEventS
def sspec_ExampleEnds_r0 : Reg :=
  { id := 0, ops := [{ op := .mv (.con (.nil 4)) }], clr := [1] }
def sspec_ExampleEnds_r1 : Reg :=
  { id := 1, ops := [{ op := .buildSlice 0 4 0 [] },
      { op := .mv (.loc 0) }], sets := [(2, 1)], ghosts := [.ren 0 9] }
def sspec_ExampleEnds_r2 : Reg :=
  { id := 2, ops := [{ op := .mv (.con (.sc (.int .i64 0))) }], sets := [(3, 0)] }
def sspec_ExampleEnds_r3 : Reg :=
  { id := 3, ops := [{ op := .mv (.slot 3) },
      { op := .mv (.slot 0) },
      { op := .bin .lss (.loc 0) (.loc 1) },
      { op := .mv (.loc 2) },
      { op := .mv (.slot 0), guard := some (3, true) },
      { op := .bin .leq (.loc 4) (.con (.sc (.int .i64 6))), guard := some (3, true) },
      { op := .pick (.loc 3) (.loc 5) (.con (.sc (.bool false))) }], sets := [(5, 6)] }
def sspec_ExampleEnds_r4 : Reg :=
  { id := 5, fresh := [1, 2, 3], ops := [{ op := .buildSlice 1 1 2 [.con (.sc (.int .i64 1)), .con (.sc (.int .i64 2))] },
      { op := .buildSlice 2 1 2 [.con (.sc (.int .i64 1)), .con (.sc (.int .i64 40))] },
      { op := .mv (.slot 3) },
      { op := .bin .rem (.loc 2) (.con (.sc (.int .i64 6))) },
      { op := .build [.nil 1, .nil 1, .nil 4, .sc (.int .i64 0)] [(0, 1, .loc 0), (1, 1, .loc 1), (3, 1, .loc 3)] },
      { op := .alloc 3 [.nil 1, .nil 1, .nil 4, .sc (.int .i64 0)] },
      { op := .store 4 (.loc 5) (.loc 4) }], sets := [(4, 5)], ghosts := [.ownc 3 2 8] }
def sspec_ExampleEnds_r5 : Reg :=
  { id := 6, ops := [{ op := .mv (.slot 3) }], sets := [(6, 0)] }
def sspec_ExampleEnds_r6 : Reg :=
  { id := 7, ops := [{ op := .bin .eql (.slot 6) (.con (.sc (.int .i64 1))) },
      { op := .mv (.loc 0) }], sets := [(7, 1)] }
def sspec_ExampleEnds_r7 : Reg :=
  { id := 8, fresh := [4], ops := [{ op := .build [.sc (.int .i64 0), .nil 1, .nil 1, .sc (.bool false)] [(0, 1, .con (.sc (.int .i64 2)))] },
      { op := .buildSlice 4 4 1 [.loc 0] },
      { op := .fieldAddr (.slot 4) 2 },
      { op := .store 1 (.loc 2) (.loc 1) }], ghosts := [.ren 4 8], clr := [6] }
def sspec_ExampleEnds_r8 : Reg :=
  { id := 9, ops := [{ op := .bin .eql (.slot 6) (.con (.sc (.int .i64 2))) },
      { op := .mv (.loc 0) }], sets := [(8, 1)], clr := [6] }
def sspec_ExampleEnds_r9 : Reg :=
  { id := 10, fresh := [5], ops := [{ op := .build [.sc (.int .i64 0), .nil 1, .nil 1, .sc (.bool false)] [(3, 1, .con (.sc (.bool true)))] },
      { op := .buildSlice 5 4 1 [.loc 0] },
      { op := .fieldAddr (.slot 4) 2 },
      { op := .store 1 (.loc 2) (.loc 1) }], ghosts := [.ren 5 8] }
def sspec_ExampleEnds_r10 : Reg :=
  { id := 11, fresh := [6, 7], ops := [{ op := .mv (.slot 2) },
      { op := .load (some 4) (.slot 4) },
      { op := .buildSlice 6 4 1 [.loc 1] },
      { op := .append 7 4 80 true (.loc 0) (.loc 2) },
      { op := .mv (.loc 3) }], sets := [(2, 4)], ghosts := [.ren 7 9], clr := [4] }
def sspec_ExampleEnds_r11 : Reg :=
  { id := 4, ops := [{ op := .mv (.slot 3) },
      { op := .bin .add (.loc 0) (.con (.sc (.int .i64 1))) },
      { op := .mv (.loc 1) }], sets := [(3, 2)] }
def sspec_ExampleEnds_r12 : Reg :=
  { id := 12, ops := [{ op := .mv (.slot 2) },
      { op := .mv (.loc 0) }], sets := [(1, 1)], clr := [0, 2, 3] }
def sspec_ExampleEnds_b : SC := .seq (.reg sspec_ExampleEnds_r0) (.seq (.reg sspec_ExampleEnds_r1) (.seq (.seq (.reg sspec_ExampleEnds_r2) (.block 0 (.loop (.seq (.seq (.reg sspec_ExampleEnds_r3) (.cond 5 (.skip) (.exit 0))) (.seq (.block 1 (.seq (.reg sspec_ExampleEnds_r4) (.seq (.seq (.reg sspec_ExampleEnds_r5) (.block 2 (.seq (.reg sspec_ExampleEnds_r6) (.cond 7 (.reg sspec_ExampleEnds_r7) (.seq (.reg sspec_ExampleEnds_r8) (.cond 8 (.reg sspec_ExampleEnds_r9) (.skip))))))) (.reg sspec_ExampleEnds_r10)))) (.reg sspec_ExampleEnds_r11)))))) (.seq (.reg sspec_ExampleEnds_r12) (.ret))))
def sspec_ExampleEnds : SFn := { nslots := 9, nobjs := 10, params := [0], ngiven := 0, bor := false, takes := [], body := sspec_ExampleEnds_b, results := [.slot 1] }
def sspec_ExampleEnds_t : List Tmp := [0, 2, 3, 4, 5, 13, 21, 22, 27]
attribute [simp] sspec_ExampleEnds_r0 sspec_ExampleEnds_r1 sspec_ExampleEnds_r2 sspec_ExampleEnds_r3 sspec_ExampleEnds_r4 sspec_ExampleEnds_r5 sspec_ExampleEnds_r6 sspec_ExampleEnds_r7 sspec_ExampleEnds_r8 sspec_ExampleEnds_r9 sspec_ExampleEnds_r10 sspec_ExampleEnds_r11 sspec_ExampleEnds_r12 sspec_ExampleEnds_b sspec_ExampleEnds
def simpl_ExampleEnds_r0 : Reg :=
  { id := 0, ops := [{ op := .mv (.con (.nil 4)) }], clr := [1] }
def simpl_ExampleEnds_r1 : Reg :=
  { id := 1, ops := [{ op := .buildSlice 0 4 0 [] },
      { op := .mv (.loc 0) }], sets := [(2, 1)], ghosts := [.ren 0 9] }
def simpl_ExampleEnds_r2 : Reg :=
  { id := 2, ops := [{ op := .mv (.slot 0) },
      { op := .call 114 [(false, .loc 0), (false, .con (.sc (.int .i64 1))), (false, .con (.sc (.int .i64 6)))] [] },
      { op := .un .not (.loc 1) }], sets := [(5, 2)] }
def simpl_ExampleEnds_r3 : Reg :=
  { id := 3, ops := [{ op := .mv (.slot 2) },
      { op := .mv (.loc 0) }], sets := [(1, 1)], clr := [0, 2] }
def simpl_ExampleEnds_r4 : Reg :=
  { id := 4, ops := [{ op := .mv (.slot 0) },
      { op := .mv (.con (.sc (.int .i64 0))) }], sets := [(6, 0), (7, 1)], clr := [0] }
def simpl_ExampleEnds_r5 : Reg :=
  { id := 5, ops := [{ op := .bin .lss (.slot 7) (.slot 6) }], sets := [(8, 0)] }
def simpl_ExampleEnds_r6 : Reg :=
  { id := 6, ops := [{ op := .mv (.slot 7) },
      { op := .mv (.loc 0) }], sets := [(3, 1)] }
def simpl_ExampleEnds_r7 : Reg :=
  { id := 7, fresh := [1, 2, 3], ops := [{ op := .buildSlice 1 1 2 [.con (.sc (.int .i64 1)), .con (.sc (.int .i64 2))] },
      { op := .buildSlice 2 1 2 [.con (.sc (.int .i64 1)), .con (.sc (.int .i64 40))] },
      { op := .mv (.slot 3) },
      { op := .bin .rem (.loc 2) (.con (.sc (.int .i64 6))) },
      { op := .build [.nil 1, .nil 1, .nil 4, .sc (.int .i64 0)] [(0, 1, .loc 0), (1, 1, .loc 1), (3, 1, .loc 3)] },
      { op := .alloc 3 [.nil 1, .nil 1, .nil 4, .sc (.int .i64 0)] },
      { op := .store 4 (.loc 5) (.loc 4) }], sets := [(4, 5)], ghosts := [.ownc 3 2 8] }
def simpl_ExampleEnds_r8 : Reg :=
  { id := 8, ops := [{ op := .mv (.slot 3) }], sets := [(9, 0)], clr := [3] }
def simpl_ExampleEnds_r9 : Reg :=
  { id := 9, ops := [{ op := .bin .eql (.slot 9) (.con (.sc (.int .i64 1))) },
      { op := .mv (.loc 0) }], sets := [(10, 1)] }
def simpl_ExampleEnds_r10 : Reg :=
  { id := 10, fresh := [4], ops := [{ op := .build [.sc (.int .i64 0), .nil 1, .nil 1, .sc (.bool false)] [(0, 1, .con (.sc (.int .i64 2)))] },
      { op := .buildSlice 4 4 1 [.loc 0] },
      { op := .fieldAddr (.slot 4) 2 },
      { op := .store 1 (.loc 2) (.loc 1) }], ghosts := [.ren 4 8], clr := [9] }
def simpl_ExampleEnds_r11 : Reg :=
  { id := 11, ops := [{ op := .bin .eql (.slot 9) (.con (.sc (.int .i64 2))) },
      { op := .mv (.loc 0) }], sets := [(11, 1)], clr := [9] }
def simpl_ExampleEnds_r12 : Reg :=
  { id := 12, fresh := [5], ops := [{ op := .build [.sc (.int .i64 0), .nil 1, .nil 1, .sc (.bool false)] [(3, 1, .con (.sc (.bool true)))] },
      { op := .buildSlice 5 4 1 [.loc 0] },
      { op := .fieldAddr (.slot 4) 2 },
      { op := .store 1 (.loc 2) (.loc 1) }], ghosts := [.ren 5 8] }
def simpl_ExampleEnds_r13 : Reg :=
  { id := 13, fresh := [6, 7], ops := [{ op := .mv (.slot 2) },
      { op := .load (some 4) (.slot 4) },
      { op := .buildSlice 6 4 1 [.loc 1] },
      { op := .append 7 4 80 true (.loc 0) (.loc 2) },
      { op := .mv (.loc 3) }], sets := [(2, 4)], ghosts := [.ren 7 9], clr := [4] }
def simpl_ExampleEnds_r14 : Reg :=
  { id := 14, ops := [{ op := .bin .add (.slot 7) (.con (.sc (.int .i64 1))) },
      { op := .mv (.loc 0) }], sets := [(7, 1)] }
def simpl_ExampleEnds_r15 : Reg :=
  { id := 15, ops := [{ op := .mv (.slot 2) },
      { op := .mv (.loc 0) }], sets := [(1, 1)], clr := [2, 6, 7] }
def simpl_ExampleEnds_b : SC := .seq (.reg simpl_ExampleEnds_r0) (.seq (.reg simpl_ExampleEnds_r1) (.seq (.seq (.reg simpl_ExampleEnds_r2) (.cond 5 (.seq (.reg simpl_ExampleEnds_r3) (.ret)) (.skip))) (.seq (.seq (.reg simpl_ExampleEnds_r4) (.block 0 (.loop (.seq (.reg simpl_ExampleEnds_r5) (.seq (.cond 8 (.skip) (.exit 0)) (.seq (.block 1 (.seq (.reg simpl_ExampleEnds_r6) (.seq (.reg simpl_ExampleEnds_r7) (.seq (.seq (.reg simpl_ExampleEnds_r8) (.block 2 (.seq (.reg simpl_ExampleEnds_r9) (.cond 10 (.reg simpl_ExampleEnds_r10) (.seq (.reg simpl_ExampleEnds_r11) (.cond 11 (.reg simpl_ExampleEnds_r12) (.skip))))))) (.reg simpl_ExampleEnds_r13))))) (.reg simpl_ExampleEnds_r14))))))) (.seq (.reg simpl_ExampleEnds_r15) (.ret)))))
def simpl_ExampleEnds : SFn := { nslots := 12, nobjs := 10, params := [0], ngiven := 0, bor := false, takes := [], body := simpl_ExampleEnds_b, results := [.slot 1] }
def simpl_ExampleEnds_t : List Tmp := [0, 2, 3, 4, 5, 9, 11, 12, 13, 20, 21, 26]
attribute [simp] simpl_ExampleEnds_r0 simpl_ExampleEnds_r1 simpl_ExampleEnds_r2 simpl_ExampleEnds_r3 simpl_ExampleEnds_r4 simpl_ExampleEnds_r5 simpl_ExampleEnds_r6 simpl_ExampleEnds_r7 simpl_ExampleEnds_r8 simpl_ExampleEnds_r9 simpl_ExampleEnds_r10 simpl_ExampleEnds_r11 simpl_ExampleEnds_r12 simpl_ExampleEnds_r13 simpl_ExampleEnds_r14 simpl_ExampleEnds_r15 simpl_ExampleEnds_b simpl_ExampleEnds
def slaws_eqEndpointS_r0 : Reg :=
  { id := 0, ops := [{ op := .mv (.con (.sc (.bool false))) }], clr := [2] }
def slaws_eqEndpointS_r1 : Reg :=
  { id := 1, ops := [{ op := .mv (.slot 0) },
      { op := .len false (.loc 0) },
      { op := .mv (.slot 1) },
      { op := .len false (.loc 2) },
      { op := .bin .neq (.loc 1) (.loc 3) }], sets := [(4, 4)] }
def slaws_eqEndpointS_r2 : Reg :=
  { id := 2, ops := [{ op := .mv (.con (.sc (.bool false))) }], sets := [(2, 0)], clr := [0, 1] }
def slaws_eqEndpointS_r3 : Reg :=
  { id := 3, ops := [{ op := .mv (.con (.sc (.int .i64 0))) }], sets := [(3, 0)] }
def slaws_eqEndpointS_r4 : Reg :=
  { id := 4, ops := [{ op := .mv (.slot 3) },
      { op := .mv (.slot 0) },
      { op := .len false (.loc 1) },
      { op := .bin .lss (.loc 0) (.loc 2) }], sets := [(5, 3)] }
def slaws_eqEndpointS_r5 : Reg :=
  { id := 6, draw := true, ops := [{ op := .mv (.slot 0), tau := some [], om := [] },
      { op := .mv (.slot 3), tau := some [], om := [] },
      { op := .indexAddr 4 (.loc 0) (.loc 1), tau := some [], om := [] },
      { op := .load (some 4) (.loc 2), tau := some [], om := [] },
      { op := .mv (.slot 1), tau := some [], om := [] },
      { op := .mv (.slot 3), tau := some [], om := [] },
      { op := .indexAddr 4 (.loc 4) (.loc 5), tau := some [], om := [] },
      { op := .load (some 4) (.loc 6), tau := some [], om := [] },
      { op := .call 134 [(false, .loc 3), (false, .loc 7)] [], tau := some [], om := [] },
      { op := .un .not (.loc 8), tau := some [], om := [] }], sets := [(6, 9)] }
def slaws_eqEndpointS_r6 : Reg :=
  { id := 7, ops := [{ op := .mv (.con (.sc (.bool false))) }], sets := [(2, 0)], clr := [0, 1, 3] }
def slaws_eqEndpointS_r7 : Reg :=
  { id := 5, ops := [{ op := .mv (.slot 3) },
      { op := .bin .add (.loc 0) (.con (.sc (.int .i64 1))) },
      { op := .mv (.loc 1) }], sets := [(3, 2)] }
def slaws_eqEndpointS_r8 : Reg :=
  { id := 8, ops := [{ op := .mv (.con (.sc (.bool true))) }], sets := [(2, 0)], clr := [0, 1, 3] }
def slaws_eqEndpointS_b : SC := .seq (.reg slaws_eqEndpointS_r0) (.seq (.seq (.reg slaws_eqEndpointS_r1) (.cond 4 (.seq (.reg slaws_eqEndpointS_r2) (.ret)) (.skip))) (.seq (.seq (.reg slaws_eqEndpointS_r3) (.block 0 (.loop (.seq (.seq (.reg slaws_eqEndpointS_r4) (.cond 5 (.skip) (.exit 0))) (.seq (.block 1 (.seq (.reg slaws_eqEndpointS_r5) (.cond 6 (.seq (.reg slaws_eqEndpointS_r6) (.ret)) (.skip)))) (.reg slaws_eqEndpointS_r7)))))) (.seq (.reg slaws_eqEndpointS_r8) (.ret))))
def slaws_eqEndpointS : SFn := { nslots := 7, nobjs := 0, params := [0, 1], ngiven := 0, bor := false, takes := [], body := slaws_eqEndpointS_b, results := [.slot 2] }
def slaws_eqEndpointS_t : List Tmp := [0, 1, 4, 5, 10, 14, 26]
attribute [simp] slaws_eqEndpointS_r0 slaws_eqEndpointS_r1 slaws_eqEndpointS_r2 slaws_eqEndpointS_r3 slaws_eqEndpointS_r4 slaws_eqEndpointS_r5 slaws_eqEndpointS_r6 slaws_eqEndpointS_r7 slaws_eqEndpointS_r8 slaws_eqEndpointS_b slaws_eqEndpointS
def slaws_markEndpointS_r0 : Reg :=
  { id := 0, ops := [{ op := .mv (.con (.sc (.int .i64 0))) }], clr := [2] }
def slaws_markEndpointS_r1 : Reg :=
  { id := 1, ops := [{ op := .mv (.con (.sc (.int .i64 0))) }], sets := [(3, 0)] }
def slaws_markEndpointS_r2 : Reg :=
  { id := 2, ops := [{ op := .mv (.slot 3) },
      { op := .mv (.slot 0) },
      { op := .len false (.loc 1) },
      { op := .bin .lss (.loc 0) (.loc 2) }], sets := [(4, 3)] }
def slaws_markEndpointS_r3 : Reg :=
  { id := 4, fresh := [1], ops := [{ op := .mv (.slot 0) },
      { op := .mv (.slot 3) },
      { op := .indexAddr 4 (.loc 0) (.loc 1) },
      { op := .fieldAddr (.loc 2) 0 },
      { op := .take 1 (.loc 3) },
      { op := .mv (.slot 1) },
      { op := .call 52 [(true, .loc 4), (false, .loc 5)] [] },
      { op := .mv (.loc 6) }], sets := [(1, 7)], ghosts := [.untake 1] }
def slaws_markEndpointS_r4 : Reg :=
  { id := 5, fresh := [2], ops := [{ op := .mv (.slot 0) },
      { op := .mv (.slot 3) },
      { op := .indexAddr 4 (.loc 0) (.loc 1) },
      { op := .fieldAddr (.loc 2) 1 },
      { op := .take 2 (.loc 3) },
      { op := .mv (.slot 1) },
      { op := .call 52 [(true, .loc 4), (false, .loc 5)] [] },
      { op := .mv (.loc 6) }], sets := [(1, 7)], ghosts := [.untake 2] }
def slaws_markEndpointS_r5 : Reg :=
  { id := 6, fresh := [3], ops := [{ op := .mv (.slot 0) },
      { op := .mv (.slot 3) },
      { op := .indexAddr 4 (.loc 0) (.loc 1) },
      { op := .fieldAddr (.loc 2) 2 },
      { op := .take 3 (.loc 3) },
      { op := .mv (.slot 1) },
      { op := .call 137 [(true, .loc 4), (false, .loc 5)] [] },
      { op := .mv (.loc 6) }], sets := [(1, 7)], ghosts := [.untake 3] }
def slaws_markEndpointS_r6 : Reg :=
  { id := 7, ops := [{ op := .mv (.slot 0) },
      { op := .mv (.slot 3) },
      { op := .mv (.slot 1) },
      { op := .indexAddr 4 (.loc 0) (.loc 1) },
      { op := .fieldAddr (.loc 3) 3 },
      { op := .store 1 (.loc 4) (.loc 2) }] }
def slaws_markEndpointS_r7 : Reg :=
  { id := 8, ops := [{ op := .mv (.slot 1) },
      { op := .bin .add (.loc 0) (.con (.sc (.int .i64 1))) },
      { op := .mv (.loc 1) }], sets := [(1, 2)] }
def slaws_markEndpointS_r8 : Reg :=
  { id := 3, ops := [{ op := .mv (.slot 3) },
      { op := .bin .add (.loc 0) (.con (.sc (.int .i64 1))) },
      { op := .mv (.loc 1) }], sets := [(3, 2)] }
def slaws_markEndpointS_r9 : Reg :=
  { id := 9, ops := [{ op := .mv (.slot 1) },
      { op := .mv (.loc 0) }], sets := [(2, 1)], clr := [0, 1, 3] }
def slaws_markEndpointS_b : SC := .seq (.reg slaws_markEndpointS_r0) (.seq (.seq (.reg slaws_markEndpointS_r1) (.block 0 (.loop (.seq (.seq (.reg slaws_markEndpointS_r2) (.cond 4 (.skip) (.exit 0))) (.seq (.block 1 (.seq (.reg slaws_markEndpointS_r3) (.seq (.reg slaws_markEndpointS_r4) (.seq (.reg slaws_markEndpointS_r5) (.seq (.reg slaws_markEndpointS_r6) (.reg slaws_markEndpointS_r7)))))) (.reg slaws_markEndpointS_r8)))))) (.seq (.reg slaws_markEndpointS_r9) (.ret)))
def slaws_markEndpointS : SFn := { nslots := 5, nobjs := 4, params := [0, 1], ngiven := 1, bor := true, takes := [1, 2, 3], body := slaws_markEndpointS_b, results := [.slot 2] }
def slaws_markEndpointS_t : List Tmp := [0, 1, 4, 5, 9]
attribute [simp] slaws_markEndpointS_r0 slaws_markEndpointS_r1 slaws_markEndpointS_r2 slaws_markEndpointS_r3 slaws_markEndpointS_r4 slaws_markEndpointS_r5 slaws_markEndpointS_r6 slaws_markEndpointS_r7 slaws_markEndpointS_r8 slaws_markEndpointS_r9 slaws_markEndpointS_b slaws_markEndpointS
def slaws_heldEndpointS_r0 : Reg :=
  { id := 0, ops := [{ op := .mv (.con (.sc (.int .i64 0))) }], clr := [2] }
def slaws_heldEndpointS_r1 : Reg :=
  { id := 1, ops := [{ op := .mv (.con (.sc (.int .i64 0))) }], sets := [(3, 0)] }
def slaws_heldEndpointS_r2 : Reg :=
  { id := 2, ops := [{ op := .mv (.slot 3) },
      { op := .mv (.slot 0) },
      { op := .len false (.loc 1) },
      { op := .bin .lss (.loc 0) (.loc 2) }], sets := [(4, 3)] }
def slaws_heldEndpointS_r3 : Reg :=
  { id := 4, ops := [{ op := .mv (.slot 0) },
      { op := .mv (.slot 3) },
      { op := .indexAddr 4 (.loc 0) (.loc 1) },
      { op := .fieldAddr (.loc 2) 0 },
      { op := .load none (.loc 3) },
      { op := .mv (.slot 1) },
      { op := .call 57 [(false, .loc 4), (false, .loc 5)] [] },
      { op := .mv (.loc 6) }], sets := [(1, 7)] }
def slaws_heldEndpointS_r4 : Reg :=
  { id := 5, ops := [{ op := .mv (.slot 1) },
      { op := .bin .lss (.loc 0) (.con (.sc (.int .i64 0))) }], sets := [(5, 1)] }
def slaws_heldEndpointS_r5 : Reg :=
  { id := 6, ops := [{ op := .mv (.con (.sc (.int .i64 (-1)))) }], sets := [(2, 0)], clr := [0, 1, 3] }
def slaws_heldEndpointS_r6 : Reg :=
  { id := 7, ops := [{ op := .mv (.slot 0) },
      { op := .mv (.slot 3) },
      { op := .indexAddr 4 (.loc 0) (.loc 1) },
      { op := .fieldAddr (.loc 2) 1 },
      { op := .load none (.loc 3) },
      { op := .mv (.slot 1) },
      { op := .call 57 [(false, .loc 4), (false, .loc 5)] [] },
      { op := .mv (.loc 6) }], sets := [(1, 7)] }
def slaws_heldEndpointS_r7 : Reg :=
  { id := 8, ops := [{ op := .mv (.slot 1) },
      { op := .bin .lss (.loc 0) (.con (.sc (.int .i64 0))) }], sets := [(6, 1)] }
def slaws_heldEndpointS_r8 : Reg :=
  { id := 9, ops := [{ op := .mv (.con (.sc (.int .i64 (-1)))) }], sets := [(2, 0)], clr := [0, 1, 3] }
def slaws_heldEndpointS_r9 : Reg :=
  { id := 10, ops := [{ op := .mv (.slot 0) },
      { op := .mv (.slot 3) },
      { op := .indexAddr 4 (.loc 0) (.loc 1) },
      { op := .fieldAddr (.loc 2) 2 },
      { op := .load none (.loc 3) },
      { op := .mv (.slot 1) },
      { op := .call 138 [(false, .loc 4), (false, .loc 5)] [] },
      { op := .mv (.loc 6) }], sets := [(1, 7)] }
def slaws_heldEndpointS_r10 : Reg :=
  { id := 11, ops := [{ op := .mv (.slot 1) },
      { op := .bin .lss (.loc 0) (.con (.sc (.int .i64 0))) }], sets := [(7, 1)] }
def slaws_heldEndpointS_r11 : Reg :=
  { id := 12, ops := [{ op := .mv (.con (.sc (.int .i64 (-1)))) }], sets := [(2, 0)], clr := [0, 1, 3] }
def slaws_heldEndpointS_r12 : Reg :=
  { id := 13, ops := [{ op := .mv (.slot 0) },
      { op := .mv (.slot 3) },
      { op := .indexAddr 4 (.loc 0) (.loc 1) },
      { op := .fieldAddr (.loc 2) 3 },
      { op := .load none (.loc 3) },
      { op := .mv (.slot 1) },
      { op := .bin .neq (.loc 4) (.loc 5) }], sets := [(8, 6)] }
def slaws_heldEndpointS_r13 : Reg :=
  { id := 14, ops := [{ op := .mv (.con (.sc (.int .i64 (-1)))) }], sets := [(2, 0)], clr := [0, 1, 3] }
def slaws_heldEndpointS_r14 : Reg :=
  { id := 15, ops := [{ op := .mv (.slot 1) },
      { op := .bin .add (.loc 0) (.con (.sc (.int .i64 1))) },
      { op := .mv (.loc 1) }], sets := [(1, 2)] }
def slaws_heldEndpointS_r15 : Reg :=
  { id := 3, ops := [{ op := .mv (.slot 3) },
      { op := .bin .add (.loc 0) (.con (.sc (.int .i64 1))) },
      { op := .mv (.loc 1) }], sets := [(3, 2)] }
def slaws_heldEndpointS_r16 : Reg :=
  { id := 16, ops := [{ op := .mv (.slot 1) },
      { op := .mv (.loc 0) }], sets := [(2, 1)], clr := [0, 1, 3] }
def slaws_heldEndpointS_b : SC := .seq (.reg slaws_heldEndpointS_r0) (.seq (.seq (.reg slaws_heldEndpointS_r1) (.block 0 (.loop (.seq (.seq (.reg slaws_heldEndpointS_r2) (.cond 4 (.skip) (.exit 0))) (.seq (.block 1 (.seq (.reg slaws_heldEndpointS_r3) (.seq (.seq (.reg slaws_heldEndpointS_r4) (.cond 5 (.seq (.reg slaws_heldEndpointS_r5) (.ret)) (.skip))) (.seq (.reg slaws_heldEndpointS_r6) (.seq (.seq (.reg slaws_heldEndpointS_r7) (.cond 6 (.seq (.reg slaws_heldEndpointS_r8) (.ret)) (.skip))) (.seq (.reg slaws_heldEndpointS_r9) (.seq (.seq (.reg slaws_heldEndpointS_r10) (.cond 7 (.seq (.reg slaws_heldEndpointS_r11) (.ret)) (.skip))) (.seq (.seq (.reg slaws_heldEndpointS_r12) (.cond 8 (.seq (.reg slaws_heldEndpointS_r13) (.ret)) (.skip))) (.reg slaws_heldEndpointS_r14))))))))) (.reg slaws_heldEndpointS_r15)))))) (.seq (.reg slaws_heldEndpointS_r16) (.ret)))
def slaws_heldEndpointS : SFn := { nslots := 9, nobjs := 0, params := [0, 1], ngiven := 0, bor := false, takes := [], body := slaws_heldEndpointS_b, results := [.slot 2] }
def slaws_heldEndpointS_t : List Tmp := [0, 1, 4, 5, 9, 20, 29, 38, 45]
attribute [simp] slaws_heldEndpointS_r0 slaws_heldEndpointS_r1 slaws_heldEndpointS_r2 slaws_heldEndpointS_r3 slaws_heldEndpointS_r4 slaws_heldEndpointS_r5 slaws_heldEndpointS_r6 slaws_heldEndpointS_r7 slaws_heldEndpointS_r8 slaws_heldEndpointS_r9 slaws_heldEndpointS_r10 slaws_heldEndpointS_r11 slaws_heldEndpointS_r12 slaws_heldEndpointS_r13 slaws_heldEndpointS_r14 slaws_heldEndpointS_r15 slaws_heldEndpointS_r16 slaws_heldEndpointS_b slaws_heldEndpointS
def sspec_l1In_r0 : Reg :=
  { id := 0, ops := [{ op := .mv (.con (.sc (.bool false))) }], clr := [3] }
def sspec_l1In_r1 : Reg :=
  { id := 1, ops := [{ op := .mv (.slot 0) },
      { op := .mv (.slot 1) },
      { op := .bin .geq (.loc 0) (.loc 1) },
      { op := .mv (.loc 2) },
      { op := .mv (.slot 0), guard := some (3, true) },
      { op := .mv (.slot 2), guard := some (3, true) },
      { op := .bin .leq (.loc 4) (.loc 5), guard := some (3, true) },
      { op := .pick (.loc 3) (.loc 6) (.con (.sc (.bool false))) },
      { op := .mv (.loc 7) }], sets := [(3, 8)], clr := [0, 1, 2] }
def sspec_l1In_b : SC := .seq (.reg sspec_l1In_r0) (.seq (.reg sspec_l1In_r1) (.ret))
def sspec_l1In : SFn := { nslots := 4, nobjs := 0, params := [0, 1, 2], ngiven := 0, bor := false, takes := [], body := sspec_l1In_b, results := [.slot 3] }
def sspec_l1In_t : List Tmp := [0, 1, 2, 6]
attribute [simp] sspec_l1In_r0 sspec_l1In_r1 sspec_l1In_b sspec_l1In
def simpl_InRange_r0 : Reg :=
  { id := 0, ops := [{ op := .mv (.con (.sc (.bool false))) }], clr := [3] }
def simpl_InRange_r1 : Reg :=
  { id := 1, ops := [{ op := .mv (.slot 1) },
      { op := .mv (.slot 0) },
      { op := .bin .leq (.loc 0) (.loc 1) },
      { op := .mv (.loc 2) },
      { op := .mv (.slot 0), guard := some (3, true) },
      { op := .mv (.slot 2), guard := some (3, true) },
      { op := .bin .leq (.loc 4) (.loc 5), guard := some (3, true) },
      { op := .pick (.loc 3) (.loc 6) (.con (.sc (.bool false))) },
      { op := .mv (.loc 7) }], sets := [(3, 8)], clr := [0, 1, 2] }
def simpl_InRange_b : SC := .seq (.reg simpl_InRange_r0) (.seq (.reg simpl_InRange_r1) (.ret))
def simpl_InRange : SFn := { nslots := 4, nobjs := 0, params := [0, 1, 2], ngiven := 0, bor := false, takes := [], body := simpl_InRange_b, results := [.slot 3] }
def simpl_InRange_t : List Tmp := [0, 1, 2, 6]
attribute [simp] simpl_InRange_r0 simpl_InRange_r1 simpl_InRange_b simpl_InRange
def slaws_szDeal_r0 : Reg :=
  { id := 0, ops := [{ op := .box 0 (.slot 0) },
      { op := .mv (.con (.sc (.int .i64 0))) }], sets := [(2, 0)], clr := [0, 3] }
def slaws_szDeal_r1 : Reg :=
  { id := 1, ops := [{ op := .fieldAddr (.slot 2) 2 },
      { op := .load none (.loc 0) },
      { op := .mv (.slot 1) },
      { op := .call 16 [(false, .loc 1), (false, .loc 2)] [] },
      { op := .mv (.loc 3) }], sets := [(1, 4)], clr := [2] }
def slaws_szDeal_r2 : Reg :=
  { id := 2, ops := [{ op := .mv (.slot 1) },
      { op := .bin .lss (.loc 0) (.con (.sc (.int .i64 0))) }], sets := [(4, 1)] }
def slaws_szDeal_r3 : Reg :=
  { id := 3, ops := [{ op := .mv (.con (.sc (.int .i64 (-1)))) }], sets := [(3, 0)], clr := [1] }
def slaws_szDeal_r4 : Reg :=
  { id := 4, ops := [{ op := .mv (.slot 1) },
      { op := .mv (.loc 0) }], sets := [(3, 1)], clr := [1] }
def slaws_szDeal_b : SC := .seq (.reg slaws_szDeal_r0) (.seq (.reg slaws_szDeal_r1) (.seq (.seq (.reg slaws_szDeal_r2) (.cond 4 (.seq (.reg slaws_szDeal_r3) (.ret)) (.skip))) (.seq (.reg slaws_szDeal_r4) (.ret))))
def slaws_szDeal : SFn := { nslots := 5, nobjs := 1, params := [0, 1], ngiven := 0, bor := false, takes := [], body := slaws_szDeal_b, results := [.slot 3] }
def slaws_szDeal_t : List Tmp := [0, 1, 2, 4, 10]
attribute [simp] slaws_szDeal_r0 slaws_szDeal_r1 slaws_szDeal_r2 slaws_szDeal_r3 slaws_szDeal_r4 slaws_szDeal_b slaws_szDeal
def slaws_szIntS_r0 : Reg :=
  { id := 0, ops := [{ op := .mv (.con (.sc (.int .i64 0))) }], clr := [2] }
def slaws_szIntS_r1 : Reg :=
  { id := 1, ops := [{ op := .mv (.slot 1) },
      { op := .mv (.slot 0) },
      { op := .len false (.loc 1) },
      { op := .bin .sub (.loc 0) (.loc 2) },
      { op := .mv (.loc 3) }], sets := [(1, 4)], clr := [0] }
def slaws_szIntS_r2 : Reg :=
  { id := 2, ops := [{ op := .mv (.slot 1) },
      { op := .bin .lss (.loc 0) (.con (.sc (.int .i64 0))) }], sets := [(3, 1)] }
def slaws_szIntS_r3 : Reg :=
  { id := 3, ops := [{ op := .mv (.con (.sc (.int .i64 (-1)))) }], sets := [(2, 0)], clr := [1] }
def slaws_szIntS_r4 : Reg :=
  { id := 4, ops := [{ op := .mv (.slot 1) },
      { op := .mv (.loc 0) }], sets := [(2, 1)], clr := [1] }
def slaws_szIntS_b : SC := .seq (.reg slaws_szIntS_r0) (.seq (.reg slaws_szIntS_r1) (.seq (.seq (.reg slaws_szIntS_r2) (.cond 3 (.seq (.reg slaws_szIntS_r3) (.ret)) (.skip))) (.seq (.reg slaws_szIntS_r4) (.ret))))
def slaws_szIntS : SFn := { nslots := 4, nobjs := 0, params := [0, 1], ngiven := 0, bor := false, takes := [], body := slaws_szIntS_b, results := [.slot 2] }
def slaws_szIntS_t : List Tmp := [0, 1, 4, 10]
attribute [simp] slaws_szIntS_r0 slaws_szIntS_r1 slaws_szIntS_r2 slaws_szIntS_r3 slaws_szIntS_r4 slaws_szIntS_b slaws_szIntS
def sspec_MaskedBy_r0 : Reg :=
  { id := 0, ops := [{ op := .mv (.con (.sc (.int .i64 0))) },
      { op := .mv (.con (.sc (.int .i64 0))) }], clr := [2, 3] }
def sspec_MaskedBy_r1 : Reg :=
  { id := 1, ops := [{ op := .mv (.con (.sc (.int .i64 0))) }], sets := [(4, 0)] }
def sspec_MaskedBy_r2 : Reg :=
  { id := 2, ops := [{ op := .mv (.con (.sc (.int .i64 0))) }], sets := [(5, 0)] }
def sspec_MaskedBy_r3 : Reg :=
  { id := 3, ops := [{ op := .mv (.con (.sc (.int .i64 0))) }], sets := [(6, 0)] }
def sspec_MaskedBy_r4 : Reg :=
  { id := 4, ops := [{ op := .mv (.slot 6) },
      { op := .mv (.slot 0) },
      { op := .len false (.loc 1) },
      { op := .bin .lss (.loc 0) (.loc 2) }], sets := [(8, 3)] }
def sspec_MaskedBy_r5 : Reg :=
  { id := 6, fresh := [0], ops := [{ op := .mv (.slot 0) },
      { op := .mv (.slot 6) },
      { op := .indexAddr 5 (.loc 0) (.loc 1) },
      { op := .load (some 5) (.loc 2) },
      { op := .alloc 0 [.sc (.bool false), .sc (.int .i64 0), .nil 1, .sc (.int .i64 0), .nil 1] },
      { op := .store 5 (.loc 4) (.loc 3) }], sets := [(7, 4)] }
def sspec_MaskedBy_r6 : Reg :=
  { id := 7, ops := [{ op := .fieldAddr (.slot 7) 0 },
      { op := .fieldAddr (.loc 0) 0 },
      { op := .load none (.loc 1) },
      { op := .un .not (.loc 2) },
      { op := .mv (.loc 3) },
      { op := .fieldAddr (.slot 7) 0, guard := some (4, false) },
      { op := .fieldAddr (.loc 5) 1, guard := some (4, false) },
      { op := .load none (.loc 6), guard := some (4, false) },
      { op := .mv (.slot 1), guard := some (4, false) },
      { op := .bin .lss (.loc 7) (.loc 8), guard := some (4, false) },
      { op := .mv (.loc 9), guard := some (4, false) },
      { op := .fieldAddr (.slot 7) 4, guard := some (10, true) },
      { op := .load none (.loc 11), guard := some (10, true) },
      { op := .mv (.slot 1), guard := some (10, true) },
      { op := .call 166 [(false, .loc 12), (false, .loc 13)] [], guard := some (10, true) },
      { op := .pick (.loc 10) (.loc 14) (.con (.sc (.bool false))), guard := some (4, false) },
      { op := .pick (.loc 4) (.con (.sc (.bool true))) (.loc 15) },
      { op := .mv (.loc 16) }], sets := [(9, 17)] }
def sspec_MaskedBy_r7 : Reg :=
  { id := 8, ops := [{ op := .mv (.slot 5) },
      { op := .bin .add (.loc 0) (.con (.sc (.int .i64 1))) },
      { op := .mv (.loc 1) }], sets := [(5, 2)], clr := [7] }
def sspec_MaskedBy_r8 : Reg :=
  { id := 9, ops := [{ op := .fieldAddr (.slot 7) 0 },
      { op := .fieldAddr (.loc 0) 1 },
      { op := .load none (.loc 1) },
      { op := .mv (.slot 1) },
      { op := .bin .geq (.loc 2) (.loc 3) },
      { op := .mv (.loc 4) }], sets := [(10, 5)], clr := [7] }
def sspec_MaskedBy_r9 : Reg :=
  { id := 10, ops := [{ op := .mv (.slot 4) },
      { op := .bin .add (.loc 0) (.con (.sc (.int .i64 1))) },
      { op := .mv (.loc 1) }], sets := [(4, 2)] }
def sspec_MaskedBy_r10 : Reg :=
  { id := 5, ops := [{ op := .mv (.slot 6) },
      { op := .bin .add (.loc 0) (.con (.sc (.int .i64 1))) },
      { op := .mv (.loc 1) }], sets := [(6, 2)] }
def sspec_MaskedBy_r11 : Reg :=
  { id := 11, ops := [{ op := .mv (.slot 4) },
      { op := .mv (.slot 5) },
      { op := .mv (.loc 0) },
      { op := .mv (.loc 1) }], sets := [(2, 2), (3, 3)], clr := [0, 1, 4, 5, 6] }
def sspec_MaskedBy_b : SC := .seq (.reg sspec_MaskedBy_r0) (.seq (.reg sspec_MaskedBy_r1) (.seq (.reg sspec_MaskedBy_r2) (.seq (.seq (.reg sspec_MaskedBy_r3) (.block 0 (.loop (.seq (.seq (.reg sspec_MaskedBy_r4) (.cond 8 (.skip) (.exit 0))) (.seq (.block 1 (.seq (.reg sspec_MaskedBy_r5) (.block 2 (.seq (.reg sspec_MaskedBy_r6) (.cond 9 (.reg sspec_MaskedBy_r7) (.seq (.reg sspec_MaskedBy_r8) (.cond 10 (.reg sspec_MaskedBy_r9) (.skip)))))))) (.reg sspec_MaskedBy_r10)))))) (.seq (.reg sspec_MaskedBy_r11) (.ret)))))
def sspec_MaskedBy : SFn := { nslots := 11, nobjs := 1, params := [0, 1], ngiven := 0, bor := false, takes := [], body := sspec_MaskedBy_b, results := [.slot 2, .slot 3] }
def sspec_MaskedBy_t : List Tmp := [0, 1, 4, 5, 6, 7, 8, 9, 13, 20, 40]
attribute [simp] sspec_MaskedBy_r0 sspec_MaskedBy_r1 sspec_MaskedBy_r2 sspec_MaskedBy_r3 sspec_MaskedBy_r4 sspec_MaskedBy_r5 sspec_MaskedBy_r6 sspec_MaskedBy_r7 sspec_MaskedBy_r8 sspec_MaskedBy_r9 sspec_MaskedBy_r10 sspec_MaskedBy_r11 sspec_MaskedBy_b sspec_MaskedBy
def slaws_toDeal_r0 : Reg :=
  { id := 0, ops := [{ op := .box 0 (.slot 0) },
      { op := .alloc 1 [.sc (.bool false), .sc (.int .i64 0), .nil 1] }], sets := [(1, 0), (2, 1)], clr := [0] }
def slaws_toDeal_r1 : Reg :=
  { id := 1, ops := [{ op := .alloc 2 [.sc (.bool false), .sc (.int .i64 0), .nil 1] }], sets := [(3, 0)] }
def slaws_toDeal_r2 : Reg :=
  { id := 2, ops := [{ op := .fieldAddr (.slot 1) 0 },
      { op := .load none (.loc 0) },
      { op := .fieldAddr (.slot 3) 0 },
      { op := .store 1 (.loc 2) (.loc 1) }] }
def slaws_toDeal_r3 : Reg :=
  { id := 3, ops := [{ op := .fieldAddr (.slot 1) 1 },
      { op := .load none (.loc 0) },
      { op := .fieldAddr (.slot 3) 1 },
      { op := .store 1 (.loc 2) (.loc 1) }] }
def slaws_toDeal_r4 : Reg :=
  { id := 4, ops := [{ op := .fieldAddr (.slot 1) 2 },
      { op := .load none (.loc 0) },
      { op := .call 31 [(false, .loc 1)] [3] },
      { op := .fieldAddr (.slot 3) 2 },
      { op := .store 1 (.loc 3) (.loc 2) }], clr := [1] }
def slaws_toDeal_r5 : Reg :=
  { id := 5, ops := [{ op := .load (some 3) (.slot 3) },
      { op := .store 3 (.slot 2) (.loc 0) }], clr := [3] }
def slaws_toDeal_b : SC := .seq (.reg slaws_toDeal_r0) (.seq (.reg slaws_toDeal_r1) (.seq (.reg slaws_toDeal_r2) (.seq (.reg slaws_toDeal_r3) (.seq (.reg slaws_toDeal_r4) (.seq (.reg slaws_toDeal_r5) (.ret))))))
def slaws_toDeal : SFn := { nslots := 4, nobjs := 4, params := [0], ngiven := 0, bor := false, takes := [], body := slaws_toDeal_b, results := [.cell 2 (some 3)] }
def slaws_toDeal_t : List Tmp := [0, 1, 2, 3]
attribute [simp] slaws_toDeal_r0 slaws_toDeal_r1 slaws_toDeal_r2 slaws_toDeal_r3 slaws_toDeal_r4 slaws_toDeal_r5 slaws_toDeal_b slaws_toDeal
def slaws_toIntS_r0 : Reg :=
  { id := 0, ops := [{ op := .mv (.con (.nil 1)) }], clr := [1] }
def slaws_toIntS_r1 : Reg :=
  { id := 1, ops := [{ op := .mv (.slot 0) },
      { op := .len false (.loc 0) },
      { op := .makeSlice 0 1 8 [.sc (.int .i64 0)] (.loc 1) },
      { op := .mv (.loc 2) }], sets := [(2, 3)] }
def slaws_toIntS_r2 : Reg :=
  { id := 2, ops := [{ op := .mv (.con (.sc (.int .i64 0))) }], sets := [(3, 0)] }
def slaws_toIntS_r3 : Reg :=
  { id := 3, ops := [{ op := .mv (.slot 3) },
      { op := .mv (.slot 0) },
      { op := .len false (.loc 1) },
      { op := .bin .lss (.loc 0) (.loc 2) }], sets := [(4, 3)] }
def slaws_toIntS_r4 : Reg :=
  { id := 5, ops := [{ op := .mv (.slot 2) },
      { op := .mv (.slot 3) },
      { op := .mv (.slot 0) },
      { op := .mv (.slot 3) },
      { op := .indexAddr 1 (.loc 2) (.loc 3) },
      { op := .load none (.loc 4) },
      { op := .indexAddr 1 (.loc 0) (.loc 1) },
      { op := .store 1 (.loc 6) (.loc 5) }] }
def slaws_toIntS_r5 : Reg :=
  { id := 4, ops := [{ op := .mv (.slot 3) },
      { op := .bin .add (.loc 0) (.con (.sc (.int .i64 1))) },
      { op := .mv (.loc 1) }], sets := [(3, 2)] }
def slaws_toIntS_r6 : Reg :=
  { id := 6, ops := [{ op := .mv (.slot 2) },
      { op := .mv (.loc 0) }], sets := [(1, 1)], clr := [0, 2, 3] }
def slaws_toIntS_b : SC := .seq (.reg slaws_toIntS_r0) (.seq (.reg slaws_toIntS_r1) (.seq (.seq (.reg slaws_toIntS_r2) (.block 0 (.loop (.seq (.seq (.reg slaws_toIntS_r3) (.cond 4 (.skip) (.exit 0))) (.seq (.block 1 (.reg slaws_toIntS_r4)) (.reg slaws_toIntS_r5)))))) (.seq (.reg slaws_toIntS_r6) (.ret))))
def slaws_toIntS : SFn := { nslots := 5, nobjs := 1, params := [0], ngiven := 0, bor := false, takes := [], body := slaws_toIntS_b, results := [.slot 1] }
def slaws_toIntS_t : List Tmp := [0, 2, 3, 4, 11]
attribute [simp] slaws_toIntS_r0 slaws_toIntS_r1 slaws_toIntS_r2 slaws_toIntS_r3 slaws_toIntS_r4 slaws_toIntS_r5 slaws_toIntS_r6 slaws_toIntS_b slaws_toIntS
def simpl_isBad_r0 : Reg :=
  { id := 0, ops := [{ op := .box 0 (.slot 0) },
      { op := .mv (.con (.sc (.bool false))) }], sets := [(2, 0)], clr := [0, 3] }
def simpl_isBad_r1 : Reg :=
  { id := 1, ops := [{ op := .fieldAddr (.slot 2) 0 },
      { op := .fieldAddr (.loc 0) 0 },
      { op := .load none (.loc 1) },
      { op := .un .not (.loc 2) },
      { op := .mv (.loc 3) },
      { op := .fieldAddr (.slot 2) 0, guard := some (4, false) },
      { op := .fieldAddr (.loc 5) 1, guard := some (4, false) },
      { op := .load none (.loc 6), guard := some (4, false) },
      { op := .mv (.slot 1), guard := some (4, false) },
      { op := .bin .lss (.loc 7) (.loc 8), guard := some (4, false) },
      { op := .mv (.loc 9), guard := some (4, false) },
      { op := .fieldAddr (.slot 2) 4, guard := some (10, true) },
      { op := .load none (.loc 11), guard := some (10, true) },
      { op := .mv (.slot 1), guard := some (10, true) },
      { op := .call 188 [(false, .loc 12), (false, .loc 13)] [], guard := some (10, true) },
      { op := .pick (.loc 10) (.loc 14) (.con (.sc (.bool false))), guard := some (4, false) },
      { op := .pick (.loc 4) (.con (.sc (.bool true))) (.loc 15) },
      { op := .mv (.loc 16) }], sets := [(3, 17)], clr := [1, 2] }
def simpl_isBad_b : SC := .seq (.reg simpl_isBad_r0) (.seq (.reg simpl_isBad_r1) (.ret))
def simpl_isBad : SFn := { nslots := 4, nobjs := 1, params := [0, 1], ngiven := 0, bor := false, takes := [], body := simpl_isBad_b, results := [.slot 3] }
def simpl_isBad_t : List Tmp := [0, 1, 2, 4]
attribute [simp] simpl_isBad_r0 simpl_isBad_r1 simpl_isBad_b simpl_isBad
def slaws_eqDeal_r0 : Reg :=
  { id := 0, ops := [{ op := .box 0 (.slot 0) },
      { op := .box 1 (.slot 1) },
      { op := .mv (.con (.sc (.bool false))) }], sets := [(2, 0), (3, 1)], clr := [0, 1, 4] }
def slaws_eqDeal_r1 : Reg :=
  { id := 1, ops := [{ op := .fieldAddr (.slot 2) 0 },
      { op := .load none (.loc 0) },
      { op := .fieldAddr (.slot 3) 0 },
      { op := .load none (.loc 2) },
      { op := .beq true (.loc 1) (.loc 3) }], sets := [(5, 4)] }
def slaws_eqDeal_r2 : Reg :=
  { id := 2, ops := [{ op := .mv (.con (.sc (.bool false))) }], sets := [(4, 0)], clr := [2, 3] }
def slaws_eqDeal_r3 : Reg :=
  { id := 3, ops := [{ op := .fieldAddr (.slot 2) 1 },
      { op := .load none (.loc 0) },
      { op := .fieldAddr (.slot 3) 1 },
      { op := .load none (.loc 2) },
      { op := .bin .neq (.loc 1) (.loc 3) }], sets := [(6, 4)] }
def slaws_eqDeal_r4 : Reg :=
  { id := 4, ops := [{ op := .mv (.con (.sc (.bool false))) }], sets := [(4, 0)], clr := [2, 3] }
def slaws_eqDeal_r5 : Reg :=
  { id := 5, ops := [{ op := .fieldAddr (.slot 2) 2 },
      { op := .load none (.loc 0) },
      { op := .fieldAddr (.slot 3) 2 },
      { op := .load none (.loc 2) },
      { op := .call 47 [(false, .loc 1), (false, .loc 3)] [] },
      { op := .un .not (.loc 4) }], sets := [(7, 5)], clr := [2, 3] }
def slaws_eqDeal_r6 : Reg :=
  { id := 6, ops := [{ op := .mv (.con (.sc (.bool false))) }], sets := [(4, 0)] }
def slaws_eqDeal_r7 : Reg :=
  { id := 7, ops := [{ op := .mv (.con (.sc (.bool true))) }], sets := [(4, 0)] }
def slaws_eqDeal_b : SC := .seq (.reg slaws_eqDeal_r0) (.seq (.seq (.reg slaws_eqDeal_r1) (.cond 5 (.seq (.reg slaws_eqDeal_r2) (.ret)) (.skip))) (.seq (.seq (.reg slaws_eqDeal_r3) (.cond 6 (.seq (.reg slaws_eqDeal_r4) (.ret)) (.skip))) (.seq (.seq (.reg slaws_eqDeal_r5) (.cond 7 (.seq (.reg slaws_eqDeal_r6) (.ret)) (.skip))) (.seq (.reg slaws_eqDeal_r7) (.ret)))))
def slaws_eqDeal : SFn := { nslots := 8, nobjs := 2, params := [0, 1], ngiven := 0, bor := false, takes := [], body := slaws_eqDeal_b, results := [.slot 4] }
def slaws_eqDeal_t : List Tmp := [0, 1, 2, 3, 4, 9, 14, 20]
attribute [simp] slaws_eqDeal_r0 slaws_eqDeal_r1 slaws_eqDeal_r2 slaws_eqDeal_r3 slaws_eqDeal_r4 slaws_eqDeal_r5 slaws_eqDeal_r6 slaws_eqDeal_r7 slaws_eqDeal_b slaws_eqDeal
def slaws_eqIntS_r0 : Reg :=
  { id := 0, ops := [{ op := .mv (.con (.sc (.bool false))) }], clr := [2] }
def slaws_eqIntS_r1 : Reg :=
  { id := 1, ops := [{ op := .mv (.slot 0) },
      { op := .len false (.loc 0) },
      { op := .mv (.slot 1) },
      { op := .len false (.loc 2) },
      { op := .bin .neq (.loc 1) (.loc 3) }], sets := [(4, 4)] }
def slaws_eqIntS_r2 : Reg :=
  { id := 2, ops := [{ op := .mv (.con (.sc (.bool false))) }], sets := [(2, 0)], clr := [0, 1] }
def slaws_eqIntS_r3 : Reg :=
  { id := 3, ops := [{ op := .mv (.con (.sc (.int .i64 0))) }], sets := [(3, 0)] }
def slaws_eqIntS_r4 : Reg :=
  { id := 4, ops := [{ op := .mv (.slot 3) },
      { op := .mv (.slot 0) },
      { op := .len false (.loc 1) },
      { op := .bin .lss (.loc 0) (.loc 2) }], sets := [(5, 3)] }
def slaws_eqIntS_r5 : Reg :=
  { id := 6, draw := true, ops := [{ op := .mv (.slot 0), tau := some [], om := [] },
      { op := .mv (.slot 3), tau := some [], om := [] },
      { op := .indexAddr 1 (.loc 0) (.loc 1), tau := some [], om := [] },
      { op := .load none (.loc 2), tau := some [], om := [] },
      { op := .mv (.slot 1), tau := some [], om := [] },
      { op := .mv (.slot 3), tau := some [], om := [] },
      { op := .indexAddr 1 (.loc 4) (.loc 5), tau := some [], om := [] },
      { op := .load none (.loc 6), tau := some [], om := [] },
      { op := .bin .neq (.loc 3) (.loc 7), tau := some [], om := [] }], sets := [(6, 8)] }
def slaws_eqIntS_r6 : Reg :=
  { id := 7, ops := [{ op := .mv (.con (.sc (.bool false))) }], sets := [(2, 0)], clr := [0, 1, 3] }
def slaws_eqIntS_r7 : Reg :=
  { id := 5, ops := [{ op := .mv (.slot 3) },
      { op := .bin .add (.loc 0) (.con (.sc (.int .i64 1))) },
      { op := .mv (.loc 1) }], sets := [(3, 2)] }
def slaws_eqIntS_r8 : Reg :=
  { id := 8, ops := [{ op := .mv (.con (.sc (.bool true))) }], sets := [(2, 0)], clr := [0, 1, 3] }
def slaws_eqIntS_b : SC := .seq (.reg slaws_eqIntS_r0) (.seq (.seq (.reg slaws_eqIntS_r1) (.cond 4 (.seq (.reg slaws_eqIntS_r2) (.ret)) (.skip))) (.seq (.seq (.reg slaws_eqIntS_r3) (.block 0 (.loop (.seq (.seq (.reg slaws_eqIntS_r4) (.cond 5 (.skip) (.exit 0))) (.seq (.block 1 (.seq (.reg slaws_eqIntS_r5) (.cond 6 (.seq (.reg slaws_eqIntS_r6) (.ret)) (.skip)))) (.reg slaws_eqIntS_r7)))))) (.seq (.reg slaws_eqIntS_r8) (.ret))))
def slaws_eqIntS : SFn := { nslots := 7, nobjs := 0, params := [0, 1], ngiven := 0, bor := false, takes := [], body := slaws_eqIntS_b, results := [.slot 2] }
def slaws_eqIntS_t : List Tmp := [0, 1, 4, 5, 10, 14, 25]
attribute [simp] slaws_eqIntS_r0 slaws_eqIntS_r1 slaws_eqIntS_r2 slaws_eqIntS_r3 slaws_eqIntS_r4 slaws_eqIntS_r5 slaws_eqIntS_r6 slaws_eqIntS_r7 slaws_eqIntS_r8 slaws_eqIntS_b slaws_eqIntS
def slaws_szEvent_r0 : Reg :=
  { id := 0, ops := [{ op := .box 0 (.slot 0) },
      { op := .mv (.con (.sc (.int .i64 0))) }], sets := [(2, 0)], clr := [0, 3] }
def slaws_szEvent_r1 : Reg :=
  { id := 1, ops := [{ op := .fieldAddr (.slot 2) 2 },
      { op := .load (some 4) (.loc 0) },
      { op := .mv (.slot 1) },
      { op := .call 206 [(false, .loc 1), (false, .loc 2)] [] },
      { op := .mv (.loc 3) }], sets := [(1, 4)], clr := [2] }
def slaws_szEvent_r2 : Reg :=
  { id := 2, ops := [{ op := .mv (.slot 1) },
      { op := .bin .lss (.loc 0) (.con (.sc (.int .i64 0))) }], sets := [(4, 1)] }
def slaws_szEvent_r3 : Reg :=
  { id := 3, ops := [{ op := .mv (.con (.sc (.int .i64 (-1)))) }], sets := [(3, 0)], clr := [1] }
def slaws_szEvent_r4 : Reg :=
  { id := 4, ops := [{ op := .mv (.slot 1) },
      { op := .mv (.loc 0) }], sets := [(3, 1)], clr := [1] }
def slaws_szEvent_b : SC := .seq (.reg slaws_szEvent_r0) (.seq (.reg slaws_szEvent_r1) (.seq (.seq (.reg slaws_szEvent_r2) (.cond 4 (.seq (.reg slaws_szEvent_r3) (.ret)) (.skip))) (.seq (.reg slaws_szEvent_r4) (.ret))))
def slaws_szEvent : SFn := { nslots := 5, nobjs := 1, params := [0, 1], ngiven := 0, bor := false, takes := [], body := slaws_szEvent_b, results := [.slot 3] }
def slaws_szEvent_t : List Tmp := [0, 1, 2, 4, 10]
attribute [simp] slaws_szEvent_r0 slaws_szEvent_r1 slaws_szEvent_r2 slaws_szEvent_r3 slaws_szEvent_r4 slaws_szEvent_b slaws_szEvent
def slaws_toEvent_r0 : Reg :=
  { id := 0, ops := [{ op := .box 0 (.slot 0) },
      { op := .alloc 1 [.sc (.int .i64 0), .sc (.int .i64 0), .sc (.int .i64 0), .nil 1, .nil 1, .sc (.bool false)] }], sets := [(1, 0), (2, 1)], clr := [0] }
def slaws_toEvent_r1 : Reg :=
  { id := 1, ops := [{ op := .alloc 2 [.sc (.int .i64 0), .sc (.int .i64 0), .sc (.int .i64 0), .nil 1, .nil 1, .sc (.bool false)] }], sets := [(3, 0)] }
def slaws_toEvent_r2 : Reg :=
  { id := 2, ops := [{ op := .fieldAddr (.slot 1) 0 },
      { op := .load none (.loc 0) },
      { op := .fieldAddr (.slot 3) 0 },
      { op := .store 1 (.loc 2) (.loc 1) }] }
def slaws_toEvent_r3 : Reg :=
  { id := 3, ops := [{ op := .fieldAddr (.slot 1) 1 },
      { op := .load none (.loc 0) },
      { op := .fieldAddr (.slot 3) 1 },
      { op := .store 1 (.loc 2) (.loc 1) }] }
def slaws_toEvent_r4 : Reg :=
  { id := 4, ops := [{ op := .fieldAddr (.slot 1) 2 },
      { op := .load (some 4) (.loc 0) },
      { op := .call 226 [(false, .loc 1)] [3, 4] },
      { op := .fieldAddr (.slot 3) 2 },
      { op := .store 4 (.loc 3) (.loc 2) }], clr := [1] }
def slaws_toEvent_r5 : Reg :=
  { id := 5, ops := [{ op := .load (some 6) (.slot 3) },
      { op := .store 6 (.slot 2) (.loc 0) }], clr := [3] }
def slaws_toEvent_b : SC := .seq (.reg slaws_toEvent_r0) (.seq (.reg slaws_toEvent_r1) (.seq (.reg slaws_toEvent_r2) (.seq (.reg slaws_toEvent_r3) (.seq (.reg slaws_toEvent_r4) (.seq (.reg slaws_toEvent_r5) (.ret))))))
def slaws_toEvent : SFn := { nslots := 4, nobjs := 5, params := [0], ngiven := 0, bor := false, takes := [], body := slaws_toEvent_b, results := [.cell 2 (some 6)] }
def slaws_toEvent_t : List Tmp := [0, 1, 2, 3]
attribute [simp] slaws_toEvent_r0 slaws_toEvent_r1 slaws_toEvent_r2 slaws_toEvent_r3 slaws_toEvent_r4 slaws_toEvent_r5 slaws_toEvent_b slaws_toEvent
def slaws_eqEvent_r0 : Reg :=
  { id := 0, ops := [{ op := .box 0 (.slot 0) },
      { op := .box 1 (.slot 1) },
      { op := .mv (.con (.sc (.bool false))) }], sets := [(2, 0), (3, 1)], clr := [0, 1, 4] }
def slaws_eqEvent_r1 : Reg :=
  { id := 1, ops := [{ op := .fieldAddr (.slot 2) 0 },
      { op := .load none (.loc 0) },
      { op := .fieldAddr (.slot 3) 0 },
      { op := .load none (.loc 2) },
      { op := .bin .neq (.loc 1) (.loc 3) }], sets := [(5, 4)] }
def slaws_eqEvent_r2 : Reg :=
  { id := 2, ops := [{ op := .mv (.con (.sc (.bool false))) }], sets := [(4, 0)], clr := [2, 3] }
def slaws_eqEvent_r3 : Reg :=
  { id := 3, ops := [{ op := .fieldAddr (.slot 2) 1 },
      { op := .load none (.loc 0) },
      { op := .fieldAddr (.slot 3) 1 },
      { op := .load none (.loc 2) },
      { op := .bin .neq (.loc 1) (.loc 3) }], sets := [(6, 4)] }
def slaws_eqEvent_r4 : Reg :=
  { id := 4, ops := [{ op := .mv (.con (.sc (.bool false))) }], sets := [(4, 0)], clr := [2, 3] }
def slaws_eqEvent_r5 : Reg :=
  { id := 5, ops := [{ op := .fieldAddr (.slot 2) 2 },
      { op := .load (some 4) (.loc 0) },
      { op := .fieldAddr (.slot 3) 2 },
      { op := .load (some 4) (.loc 2) },
      { op := .call 249 [(false, .loc 1), (false, .loc 3)] [] },
      { op := .un .not (.loc 4) }], sets := [(7, 5)], clr := [2, 3] }
def slaws_eqEvent_r6 : Reg :=
  { id := 6, ops := [{ op := .mv (.con (.sc (.bool false))) }], sets := [(4, 0)] }
def slaws_eqEvent_r7 : Reg :=
  { id := 7, ops := [{ op := .mv (.con (.sc (.bool true))) }], sets := [(4, 0)] }
def slaws_eqEvent_b : SC := .seq (.reg slaws_eqEvent_r0) (.seq (.seq (.reg slaws_eqEvent_r1) (.cond 5 (.seq (.reg slaws_eqEvent_r2) (.ret)) (.skip))) (.seq (.seq (.reg slaws_eqEvent_r3) (.cond 6 (.seq (.reg slaws_eqEvent_r4) (.ret)) (.skip))) (.seq (.seq (.reg slaws_eqEvent_r5) (.cond 7 (.seq (.reg slaws_eqEvent_r6) (.ret)) (.skip))) (.seq (.reg slaws_eqEvent_r7) (.ret)))))
def slaws_eqEvent : SFn := { nslots := 8, nobjs := 2, params := [0, 1], ngiven := 0, bor := false, takes := [], body := slaws_eqEvent_b, results := [.slot 4] }
def slaws_eqEvent_t : List Tmp := [0, 1, 2, 3, 4, 9, 14, 20]
attribute [simp] slaws_eqEvent_r0 slaws_eqEvent_r1 slaws_eqEvent_r2 slaws_eqEvent_r3 slaws_eqEvent_r4 slaws_eqEvent_r5 slaws_eqEvent_r6 slaws_eqEvent_r7 slaws_eqEvent_b slaws_eqEvent
def slaws_eqEndpoint_r0 : Reg :=
  { id := 0, ops := [{ op := .box 0 (.slot 0) },
      { op := .box 1 (.slot 1) },
      { op := .mv (.con (.sc (.bool false))) }], sets := [(2, 0), (3, 1)], clr := [0, 1, 4] }
def slaws_eqEndpoint_r1 : Reg :=
  { id := 1, ops := [{ op := .fieldAddr (.slot 2) 0 },
      { op := .load none (.loc 0) },
      { op := .fieldAddr (.slot 3) 0 },
      { op := .load none (.loc 2) },
      { op := .call 47 [(false, .loc 1), (false, .loc 3)] [] },
      { op := .un .not (.loc 4) }], sets := [(5, 5)] }
def slaws_eqEndpoint_r2 : Reg :=
  { id := 2, ops := [{ op := .mv (.con (.sc (.bool false))) }], sets := [(4, 0)], clr := [2, 3] }
def slaws_eqEndpoint_r3 : Reg :=
  { id := 3, ops := [{ op := .fieldAddr (.slot 2) 1 },
      { op := .load none (.loc 0) },
      { op := .fieldAddr (.slot 3) 1 },
      { op := .load none (.loc 2) },
      { op := .call 47 [(false, .loc 1), (false, .loc 3)] [] },
      { op := .un .not (.loc 4) }], sets := [(6, 5)] }
def slaws_eqEndpoint_r4 : Reg :=
  { id := 4, ops := [{ op := .mv (.con (.sc (.bool false))) }], sets := [(4, 0)], clr := [2, 3] }
def slaws_eqEndpoint_r5 : Reg :=
  { id := 5, ops := [{ op := .fieldAddr (.slot 2) 2 },
      { op := .load none (.loc 0) },
      { op := .fieldAddr (.slot 3) 2 },
      { op := .load none (.loc 2) },
      { op := .call 204 [(false, .loc 1), (false, .loc 3)] [] },
      { op := .un .not (.loc 4) }], sets := [(7, 5)] }
def slaws_eqEndpoint_r6 : Reg :=
  { id := 6, ops := [{ op := .mv (.con (.sc (.bool false))) }], sets := [(4, 0)], clr := [2, 3] }
def slaws_eqEndpoint_r7 : Reg :=
  { id := 7, ops := [{ op := .fieldAddr (.slot 2) 3 },
      { op := .load none (.loc 0) },
      { op := .fieldAddr (.slot 3) 3 },
      { op := .load none (.loc 2) },
      { op := .bin .neq (.loc 1) (.loc 3) }], sets := [(8, 4)], clr := [2, 3] }
def slaws_eqEndpoint_r8 : Reg :=
  { id := 8, ops := [{ op := .mv (.con (.sc (.bool false))) }], sets := [(4, 0)] }
def slaws_eqEndpoint_r9 : Reg :=
  { id := 9, ops := [{ op := .mv (.con (.sc (.bool true))) }], sets := [(4, 0)] }
def slaws_eqEndpoint_b : SC := .seq (.reg slaws_eqEndpoint_r0) (.seq (.seq (.reg slaws_eqEndpoint_r1) (.cond 5 (.seq (.reg slaws_eqEndpoint_r2) (.ret)) (.skip))) (.seq (.seq (.reg slaws_eqEndpoint_r3) (.cond 6 (.seq (.reg slaws_eqEndpoint_r4) (.ret)) (.skip))) (.seq (.seq (.reg slaws_eqEndpoint_r5) (.cond 7 (.seq (.reg slaws_eqEndpoint_r6) (.ret)) (.skip))) (.seq (.seq (.reg slaws_eqEndpoint_r7) (.cond 8 (.seq (.reg slaws_eqEndpoint_r8) (.ret)) (.skip))) (.seq (.reg slaws_eqEndpoint_r9) (.ret))))))
def slaws_eqEndpoint : SFn := { nslots := 9, nobjs := 2, params := [0, 1], ngiven := 0, bor := false, takes := [], body := slaws_eqEndpoint_b, results := [.slot 4] }
def slaws_eqEndpoint_t : List Tmp := [0, 1, 2, 3, 4, 10, 16, 22, 27]
attribute [simp] slaws_eqEndpoint_r0 slaws_eqEndpoint_r1 slaws_eqEndpoint_r2 slaws_eqEndpoint_r3 slaws_eqEndpoint_r4 slaws_eqEndpoint_r5 slaws_eqEndpoint_r6 slaws_eqEndpoint_r7 slaws_eqEndpoint_r8 slaws_eqEndpoint_r9 slaws_eqEndpoint_b slaws_eqEndpoint
def slaws_markIntS_r0 : Reg :=
  { id := 0, ops := [{ op := .mv (.con (.sc (.int .i64 0))) }], clr := [2] }
def slaws_markIntS_r1 : Reg :=
  { id := 1, ops := [{ op := .mv (.con (.sc (.int .i64 0))) }], sets := [(3, 0)] }
def slaws_markIntS_r2 : Reg :=
  { id := 2, ops := [{ op := .mv (.slot 3) },
      { op := .mv (.slot 0) },
      { op := .len false (.loc 1) },
      { op := .bin .lss (.loc 0) (.loc 2) }], sets := [(4, 3)] }
def slaws_markIntS_r3 : Reg :=
  { id := 4, ops := [{ op := .mv (.slot 0) },
      { op := .mv (.slot 3) },
      { op := .mv (.slot 1) },
      { op := .indexAddr 1 (.loc 0) (.loc 1) },
      { op := .store 1 (.loc 3) (.loc 2) }] }
def slaws_markIntS_r4 : Reg :=
  { id := 5, ops := [{ op := .mv (.slot 1) },
      { op := .bin .add (.loc 0) (.con (.sc (.int .i64 1))) },
      { op := .mv (.loc 1) }], sets := [(1, 2)] }
def slaws_markIntS_r5 : Reg :=
  { id := 3, ops := [{ op := .mv (.slot 3) },
      { op := .bin .add (.loc 0) (.con (.sc (.int .i64 1))) },
      { op := .mv (.loc 1) }], sets := [(3, 2)] }
def slaws_markIntS_r6 : Reg :=
  { id := 6, ops := [{ op := .mv (.slot 1) },
      { op := .mv (.loc 0) }], sets := [(2, 1)], clr := [0, 1, 3] }
def slaws_markIntS_b : SC := .seq (.reg slaws_markIntS_r0) (.seq (.seq (.reg slaws_markIntS_r1) (.block 0 (.loop (.seq (.seq (.reg slaws_markIntS_r2) (.cond 4 (.skip) (.exit 0))) (.seq (.block 1 (.seq (.reg slaws_markIntS_r3) (.reg slaws_markIntS_r4))) (.reg slaws_markIntS_r5)))))) (.seq (.reg slaws_markIntS_r6) (.ret)))
def slaws_markIntS : SFn := { nslots := 5, nobjs := 1, params := [0, 1], ngiven := 1, bor := false, takes := [], body := slaws_markIntS_b, results := [.slot 2] }
def slaws_markIntS_t : List Tmp := [0, 1, 4, 5, 9]
attribute [simp] slaws_markIntS_r0 slaws_markIntS_r1 slaws_markIntS_r2 slaws_markIntS_r3 slaws_markIntS_r4 slaws_markIntS_r5 slaws_markIntS_r6 slaws_markIntS_b slaws_markIntS
def slaws_markBoxS_r0 : Reg :=
  { id := 0, ops := [{ op := .mv (.con (.sc (.int .i64 0))) }], clr := [2] }
def slaws_markBoxS_r1 : Reg :=
  { id := 1, ops := [{ op := .mv (.con (.sc (.int .i64 0))) }], sets := [(3, 0)] }
def slaws_markBoxS_r2 : Reg :=
  { id := 2, ops := [{ op := .mv (.slot 3) },
      { op := .mv (.slot 0) },
      { op := .len false (.loc 1) },
      { op := .bin .lss (.loc 0) (.loc 2) }], sets := [(4, 3)] }
def slaws_markBoxS_r3 : Reg :=
  { id := 4, ops := [{ op := .mv (.slot 0) },
      { op := .mv (.slot 3) },
      { op := .mv (.slot 1) },
      { op := .indexAddr 4 (.loc 0) (.loc 1) },
      { op := .fieldAddr (.loc 3) 0 },
      { op := .store 1 (.loc 4) (.loc 2) }] }
def slaws_markBoxS_r4 : Reg :=
  { id := 5, ops := [{ op := .mv (.slot 1) },
      { op := .bin .add (.loc 0) (.con (.sc (.int .i64 1))) },
      { op := .mv (.loc 1) }], sets := [(1, 2)] }
def slaws_markBoxS_r5 : Reg :=
  { id := 6, fresh := [1], ops := [{ op := .mv (.slot 0) },
      { op := .mv (.slot 3) },
      { op := .indexAddr 4 (.loc 0) (.loc 1) },
      { op := .fieldAddr (.loc 2) 1 },
      { op := .take 1 (.loc 3) },
      { op := .mv (.slot 1) },
      { op := .call 52 [(true, .loc 4), (false, .loc 5)] [] },
      { op := .mv (.loc 6) }], sets := [(1, 7)], ghosts := [.untake 1] }
def slaws_markBoxS_r6 : Reg :=
  { id := 7, fresh := [2], ops := [{ op := .mv (.slot 0) },
      { op := .mv (.slot 3) },
      { op := .indexAddr 4 (.loc 0) (.loc 1) },
      { op := .fieldAddr (.loc 2) 2 },
      { op := .take 2 (.loc 3) },
      { op := .mv (.slot 1) },
      { op := .call 52 [(true, .loc 4), (false, .loc 5)] [] },
      { op := .mv (.loc 6) }], sets := [(1, 7)], ghosts := [.untake 2] }
def slaws_markBoxS_r7 : Reg :=
  { id := 8, ops := [{ op := .mv (.slot 0) },
      { op := .mv (.slot 3) },
      { op := .mv (.slot 1) },
      { op := .bin .rem (.loc 2) (.con (.sc (.int .i64 3))) },
      { op := .bin .eql (.loc 3) (.con (.sc (.int .i64 0))) },
      { op := .indexAddr 4 (.loc 0) (.loc 1) },
      { op := .fieldAddr (.loc 5) 3 },
      { op := .store 1 (.loc 6) (.loc 4) }] }
def slaws_markBoxS_r8 : Reg :=
  { id := 9, ops := [{ op := .mv (.slot 1) },
      { op := .bin .add (.loc 0) (.con (.sc (.int .i64 1))) },
      { op := .mv (.loc 1) }], sets := [(1, 2)] }
def slaws_markBoxS_r9 : Reg :=
  { id := 3, ops := [{ op := .mv (.slot 3) },
      { op := .bin .add (.loc 0) (.con (.sc (.int .i64 1))) },
      { op := .mv (.loc 1) }], sets := [(3, 2)] }
def slaws_markBoxS_r10 : Reg :=
  { id := 10, ops := [{ op := .mv (.slot 1) },
      { op := .mv (.loc 0) }], sets := [(2, 1)], clr := [0, 1, 3] }
def slaws_markBoxS_b : SC := .seq (.reg slaws_markBoxS_r0) (.seq (.seq (.reg slaws_markBoxS_r1) (.block 0 (.loop (.seq (.seq (.reg slaws_markBoxS_r2) (.cond 4 (.skip) (.exit 0))) (.seq (.block 1 (.seq (.reg slaws_markBoxS_r3) (.seq (.reg slaws_markBoxS_r4) (.seq (.reg slaws_markBoxS_r5) (.seq (.reg slaws_markBoxS_r6) (.seq (.reg slaws_markBoxS_r7) (.reg slaws_markBoxS_r8))))))) (.reg slaws_markBoxS_r9)))))) (.seq (.reg slaws_markBoxS_r10) (.ret)))
def slaws_markBoxS : SFn := { nslots := 5, nobjs := 3, params := [0, 1], ngiven := 1, bor := true, takes := [1, 2], body := slaws_markBoxS_b, results := [.slot 2] }
def slaws_markBoxS_t : List Tmp := [0, 1, 4, 5, 9]
attribute [simp] slaws_markBoxS_r0 slaws_markBoxS_r1 slaws_markBoxS_r2 slaws_markBoxS_r3 slaws_markBoxS_r4 slaws_markBoxS_r5 slaws_markBoxS_r6 slaws_markBoxS_r7 slaws_markBoxS_r8 slaws_markBoxS_r9 slaws_markBoxS_r10 slaws_markBoxS_b slaws_markBoxS
def slaws_heldIntS_r0 : Reg :=
  { id := 0, ops := [{ op := .mv (.con (.sc (.int .i64 0))) }], clr := [2] }
def slaws_heldIntS_r1 : Reg :=
  { id := 1, ops := [{ op := .mv (.con (.sc (.int .i64 0))) }], sets := [(3, 0)] }
def slaws_heldIntS_r2 : Reg :=
  { id := 2, ops := [{ op := .mv (.slot 3) },
      { op := .mv (.slot 0) },
      { op := .len false (.loc 1) },
      { op := .bin .lss (.loc 0) (.loc 2) }], sets := [(4, 3)] }
def slaws_heldIntS_r3 : Reg :=
  { id := 4, ops := [{ op := .mv (.slot 0) },
      { op := .mv (.slot 3) },
      { op := .indexAddr 1 (.loc 0) (.loc 1) },
      { op := .load none (.loc 2) },
      { op := .mv (.slot 1) },
      { op := .bin .neq (.loc 3) (.loc 4) }], sets := [(5, 5)] }
def slaws_heldIntS_r4 : Reg :=
  { id := 5, ops := [{ op := .mv (.con (.sc (.int .i64 (-1)))) }], sets := [(2, 0)], clr := [0, 1, 3] }
def slaws_heldIntS_r5 : Reg :=
  { id := 6, ops := [{ op := .mv (.slot 1) },
      { op := .bin .add (.loc 0) (.con (.sc (.int .i64 1))) },
      { op := .mv (.loc 1) }], sets := [(1, 2)] }
def slaws_heldIntS_r6 : Reg :=
  { id := 3, ops := [{ op := .mv (.slot 3) },
      { op := .bin .add (.loc 0) (.con (.sc (.int .i64 1))) },
      { op := .mv (.loc 1) }], sets := [(3, 2)] }
def slaws_heldIntS_r7 : Reg :=
  { id := 7, ops := [{ op := .mv (.slot 1) },
      { op := .mv (.loc 0) }], sets := [(2, 1)], clr := [0, 1, 3] }
def slaws_heldIntS_b : SC := .seq (.reg slaws_heldIntS_r0) (.seq (.seq (.reg slaws_heldIntS_r1) (.block 0 (.loop (.seq (.seq (.reg slaws_heldIntS_r2) (.cond 4 (.skip) (.exit 0))) (.seq (.block 1 (.seq (.seq (.reg slaws_heldIntS_r3) (.cond 5 (.seq (.reg slaws_heldIntS_r4) (.ret)) (.skip))) (.reg slaws_heldIntS_r5))) (.reg slaws_heldIntS_r6)))))) (.seq (.reg slaws_heldIntS_r7) (.ret)))
def slaws_heldIntS : SFn := { nslots := 6, nobjs := 0, params := [0, 1], ngiven := 0, bor := false, takes := [], body := slaws_heldIntS_b, results := [.slot 2] }
def slaws_heldIntS_t : List Tmp := [0, 1, 4, 5, 9, 17]
attribute [simp] slaws_heldIntS_r0 slaws_heldIntS_r1 slaws_heldIntS_r2 slaws_heldIntS_r3 slaws_heldIntS_r4 slaws_heldIntS_r5 slaws_heldIntS_r6 slaws_heldIntS_r7 slaws_heldIntS_b slaws_heldIntS
def slaws_heldBoxS_r0 : Reg :=
  { id := 0, ops := [{ op := .mv (.con (.sc (.int .i64 0))) }], clr := [2] }
def slaws_heldBoxS_r1 : Reg :=
  { id := 1, ops := [{ op := .mv (.con (.sc (.int .i64 0))) }], sets := [(3, 0)] }
def slaws_heldBoxS_r2 : Reg :=
  { id := 2, ops := [{ op := .mv (.slot 3) },
      { op := .mv (.slot 0) },
      { op := .len false (.loc 1) },
      { op := .bin .lss (.loc 0) (.loc 2) }], sets := [(4, 3)] }
def slaws_heldBoxS_r3 : Reg :=
  { id := 4, ops := [{ op := .mv (.slot 0) },
      { op := .mv (.slot 3) },
      { op := .indexAddr 4 (.loc 0) (.loc 1) },
      { op := .fieldAddr (.loc 2) 0 },
      { op := .load none (.loc 3) },
      { op := .mv (.slot 1) },
      { op := .bin .neq (.loc 4) (.loc 5) }], sets := [(5, 6)] }
def slaws_heldBoxS_r4 : Reg :=
  { id := 5, ops := [{ op := .mv (.con (.sc (.int .i64 (-1)))) }], sets := [(2, 0)], clr := [0, 1, 3] }
def slaws_heldBoxS_r5 : Reg :=
  { id := 6, ops := [{ op := .mv (.slot 1) },
      { op := .bin .add (.loc 0) (.con (.sc (.int .i64 1))) },
      { op := .mv (.loc 1) }], sets := [(1, 2)] }
def slaws_heldBoxS_r6 : Reg :=
  { id := 7, ops := [{ op := .mv (.slot 0) },
      { op := .mv (.slot 3) },
      { op := .indexAddr 4 (.loc 0) (.loc 1) },
      { op := .fieldAddr (.loc 2) 1 },
      { op := .load none (.loc 3) },
      { op := .mv (.slot 1) },
      { op := .call 57 [(false, .loc 4), (false, .loc 5)] [] },
      { op := .mv (.loc 6) }], sets := [(1, 7)] }
def slaws_heldBoxS_r7 : Reg :=
  { id := 8, ops := [{ op := .mv (.slot 1) },
      { op := .bin .lss (.loc 0) (.con (.sc (.int .i64 0))) }], sets := [(6, 1)] }
def slaws_heldBoxS_r8 : Reg :=
  { id := 9, ops := [{ op := .mv (.con (.sc (.int .i64 (-1)))) }], sets := [(2, 0)], clr := [0, 1, 3] }
def slaws_heldBoxS_r9 : Reg :=
  { id := 10, ops := [{ op := .mv (.slot 0) },
      { op := .mv (.slot 3) },
      { op := .indexAddr 4 (.loc 0) (.loc 1) },
      { op := .fieldAddr (.loc 2) 2 },
      { op := .load none (.loc 3) },
      { op := .mv (.slot 1) },
      { op := .call 57 [(false, .loc 4), (false, .loc 5)] [] },
      { op := .mv (.loc 6) }], sets := [(1, 7)] }
def slaws_heldBoxS_r10 : Reg :=
  { id := 11, ops := [{ op := .mv (.slot 1) },
      { op := .bin .lss (.loc 0) (.con (.sc (.int .i64 0))) }], sets := [(7, 1)] }
def slaws_heldBoxS_r11 : Reg :=
  { id := 12, ops := [{ op := .mv (.con (.sc (.int .i64 (-1)))) }], sets := [(2, 0)], clr := [0, 1, 3] }
def slaws_heldBoxS_r12 : Reg :=
  { id := 13, ops := [{ op := .mv (.slot 0) },
      { op := .mv (.slot 3) },
      { op := .indexAddr 4 (.loc 0) (.loc 1) },
      { op := .fieldAddr (.loc 2) 3 },
      { op := .load none (.loc 3) },
      { op := .mv (.slot 1) },
      { op := .bin .rem (.loc 5) (.con (.sc (.int .i64 3))) },
      { op := .bin .eql (.loc 6) (.con (.sc (.int .i64 0))) },
      { op := .beq true (.loc 4) (.loc 7) }], sets := [(8, 8)] }
def slaws_heldBoxS_r13 : Reg :=
  { id := 14, ops := [{ op := .mv (.con (.sc (.int .i64 (-1)))) }], sets := [(2, 0)], clr := [0, 1, 3] }
def slaws_heldBoxS_r14 : Reg :=
  { id := 15, ops := [{ op := .mv (.slot 1) },
      { op := .bin .add (.loc 0) (.con (.sc (.int .i64 1))) },
      { op := .mv (.loc 1) }], sets := [(1, 2)] }
def slaws_heldBoxS_r15 : Reg :=
  { id := 3, ops := [{ op := .mv (.slot 3) },
      { op := .bin .add (.loc 0) (.con (.sc (.int .i64 1))) },
      { op := .mv (.loc 1) }], sets := [(3, 2)] }
def slaws_heldBoxS_r16 : Reg :=
  { id := 16, ops := [{ op := .mv (.slot 1) },
      { op := .mv (.loc 0) }], sets := [(2, 1)], clr := [0, 1, 3] }
def slaws_heldBoxS_b : SC := .seq (.reg slaws_heldBoxS_r0) (.seq (.seq (.reg slaws_heldBoxS_r1) (.block 0 (.loop (.seq (.seq (.reg slaws_heldBoxS_r2) (.cond 4 (.skip) (.exit 0))) (.seq (.block 1 (.seq (.seq (.reg slaws_heldBoxS_r3) (.cond 5 (.seq (.reg slaws_heldBoxS_r4) (.ret)) (.skip))) (.seq (.reg slaws_heldBoxS_r5) (.seq (.reg slaws_heldBoxS_r6) (.seq (.seq (.reg slaws_heldBoxS_r7) (.cond 6 (.seq (.reg slaws_heldBoxS_r8) (.ret)) (.skip))) (.seq (.reg slaws_heldBoxS_r9) (.seq (.seq (.reg slaws_heldBoxS_r10) (.cond 7 (.seq (.reg slaws_heldBoxS_r11) (.ret)) (.skip))) (.seq (.seq (.reg slaws_heldBoxS_r12) (.cond 8 (.seq (.reg slaws_heldBoxS_r13) (.ret)) (.skip))) (.reg slaws_heldBoxS_r14))))))))) (.reg slaws_heldBoxS_r15)))))) (.seq (.reg slaws_heldBoxS_r16) (.ret)))
def slaws_heldBoxS : SFn := { nslots := 9, nobjs := 0, params := [0, 1], ngiven := 0, bor := false, takes := [], body := slaws_heldBoxS_b, results := [.slot 2] }
def slaws_heldBoxS_t : List Tmp := [0, 1, 4, 5, 9, 18, 29, 38, 47]
attribute [simp] slaws_heldBoxS_r0 slaws_heldBoxS_r1 slaws_heldBoxS_r2 slaws_heldBoxS_r3 slaws_heldBoxS_r4 slaws_heldBoxS_r5 slaws_heldBoxS_r6 slaws_heldBoxS_r7 slaws_heldBoxS_r8 slaws_heldBoxS_r9 slaws_heldBoxS_r10 slaws_heldBoxS_r11 slaws_heldBoxS_r12 slaws_heldBoxS_r13 slaws_heldBoxS_r14 slaws_heldBoxS_r15 slaws_heldBoxS_r16 slaws_heldBoxS_b slaws_heldBoxS
def sspec_l9Has_r0 : Reg :=
  { id := 0, ops := [{ op := .mv (.con (.sc (.bool false))) }], clr := [2] }
def sspec_l9Has_r1 : Reg :=
  { id := 1, ops := [{ op := .mv (.con (.sc (.int .i64 0))) }], sets := [(3, 0)] }
def sspec_l9Has_r2 : Reg :=
  { id := 2, ops := [{ op := .mv (.slot 3) },
      { op := .mv (.slot 0) },
      { op := .len false (.loc 1) },
      { op := .bin .lss (.loc 0) (.loc 2) }], sets := [(4, 3)] }
def sspec_l9Has_r3 : Reg :=
  { id := 4, ops := [{ op := .mv (.slot 0) },
      { op := .mv (.slot 3) },
      { op := .indexAddr 1 (.loc 0) (.loc 1) },
      { op := .load none (.loc 2) },
      { op := .mv (.slot 1) },
      { op := .bin .eql (.loc 3) (.loc 4) }], sets := [(5, 5)] }
def sspec_l9Has_r4 : Reg :=
  { id := 5, ops := [{ op := .mv (.con (.sc (.bool true))) }], sets := [(2, 0)], clr := [0, 1, 3] }
def sspec_l9Has_r5 : Reg :=
  { id := 3, ops := [{ op := .mv (.slot 3) },
      { op := .bin .add (.loc 0) (.con (.sc (.int .i64 1))) },
      { op := .mv (.loc 1) }], sets := [(3, 2)] }
def sspec_l9Has_r6 : Reg :=
  { id := 6, ops := [{ op := .mv (.con (.sc (.bool false))) }], sets := [(2, 0)], clr := [0, 1, 3] }
def sspec_l9Has_b : SC := .seq (.reg sspec_l9Has_r0) (.seq (.seq (.reg sspec_l9Has_r1) (.block 0 (.loop (.seq (.seq (.reg sspec_l9Has_r2) (.cond 4 (.skip) (.exit 0))) (.seq (.block 1 (.seq (.reg sspec_l9Has_r3) (.cond 5 (.seq (.reg sspec_l9Has_r4) (.ret)) (.skip)))) (.reg sspec_l9Has_r5)))))) (.seq (.reg sspec_l9Has_r6) (.ret)))
def sspec_l9Has : SFn := { nslots := 6, nobjs := 0, params := [0, 1], ngiven := 0, bor := false, takes := [], body := sspec_l9Has_b, results := [.slot 2] }
def sspec_l9Has_t : List Tmp := [0, 1, 4, 5, 9, 17]
attribute [simp] sspec_l9Has_r0 sspec_l9Has_r1 sspec_l9Has_r2 sspec_l9Has_r3 sspec_l9Has_r4 sspec_l9Has_r5 sspec_l9Has_r6 sspec_l9Has_b sspec_l9Has
def slaws_szBox_r0 : Reg :=
  { id := 0, ops := [{ op := .box 0 (.slot 0) },
      { op := .mv (.con (.sc (.int .i64 0))) }], sets := [(2, 0)], clr := [0, 3] }
def slaws_szBox_r1 : Reg :=
  { id := 1, ops := [{ op := .fieldAddr (.slot 2) 1 },
      { op := .load none (.loc 0) },
      { op := .mv (.slot 1) },
      { op := .call 16 [(false, .loc 1), (false, .loc 2)] [] },
      { op := .mv (.loc 3) }], sets := [(1, 4)] }
def slaws_szBox_r2 : Reg :=
  { id := 2, ops := [{ op := .mv (.slot 1) },
      { op := .bin .lss (.loc 0) (.con (.sc (.int .i64 0))) }], sets := [(4, 1)] }
def slaws_szBox_r3 : Reg :=
  { id := 3, ops := [{ op := .mv (.con (.sc (.int .i64 (-1)))) }], sets := [(3, 0)], clr := [1, 2] }
def slaws_szBox_r4 : Reg :=
  { id := 4, ops := [{ op := .fieldAddr (.slot 2) 2 },
      { op := .load none (.loc 0) },
      { op := .mv (.slot 1) },
      { op := .call 16 [(false, .loc 1), (false, .loc 2)] [] },
      { op := .mv (.loc 3) }], sets := [(1, 4)], clr := [2] }
def slaws_szBox_r5 : Reg :=
  { id := 5, ops := [{ op := .mv (.slot 1) },
      { op := .bin .lss (.loc 0) (.con (.sc (.int .i64 0))) }], sets := [(5, 1)] }
def slaws_szBox_r6 : Reg :=
  { id := 6, ops := [{ op := .mv (.con (.sc (.int .i64 (-1)))) }], sets := [(3, 0)], clr := [1] }
def slaws_szBox_r7 : Reg :=
  { id := 7, ops := [{ op := .mv (.slot 1) },
      { op := .mv (.loc 0) }], sets := [(3, 1)], clr := [1] }
def slaws_szBox_b : SC := .seq (.reg slaws_szBox_r0) (.seq (.reg slaws_szBox_r1) (.seq (.seq (.reg slaws_szBox_r2) (.cond 4 (.seq (.reg slaws_szBox_r3) (.ret)) (.skip))) (.seq (.reg slaws_szBox_r4) (.seq (.seq (.reg slaws_szBox_r5) (.cond 5 (.seq (.reg slaws_szBox_r6) (.ret)) (.skip))) (.seq (.reg slaws_szBox_r7) (.ret))))))
def slaws_szBox : SFn := { nslots := 6, nobjs := 1, params := [0, 1], ngiven := 0, bor := false, takes := [], body := slaws_szBox_b, results := [.slot 3] }
def slaws_szBox_t : List Tmp := [0, 1, 2, 4, 10, 16]
attribute [simp] slaws_szBox_r0 slaws_szBox_r1 slaws_szBox_r2 slaws_szBox_r3 slaws_szBox_r4 slaws_szBox_r5 slaws_szBox_r6 slaws_szBox_r7 slaws_szBox_b slaws_szBox
def slaws_toBox_r0 : Reg :=
  { id := 0, ops := [{ op := .box 0 (.slot 0) },
      { op := .alloc 1 [.sc (.int .i64 0), .nil 1, .nil 1, .sc (.bool false)] }], sets := [(1, 0), (2, 1)], clr := [0] }
def slaws_toBox_r1 : Reg :=
  { id := 1, ops := [{ op := .alloc 2 [.sc (.int .i64 0), .nil 1, .nil 1, .sc (.bool false)] }], sets := [(3, 0)] }
def slaws_toBox_r2 : Reg :=
  { id := 2, ops := [{ op := .fieldAddr (.slot 1) 0 },
      { op := .load none (.loc 0) },
      { op := .fieldAddr (.slot 3) 0 },
      { op := .store 1 (.loc 2) (.loc 1) }] }
def slaws_toBox_r3 : Reg :=
  { id := 3, ops := [{ op := .fieldAddr (.slot 1) 1 },
      { op := .load none (.loc 0) },
      { op := .call 31 [(false, .loc 1)] [3] },
      { op := .fieldAddr (.slot 3) 1 },
      { op := .store 1 (.loc 3) (.loc 2) }] }
def slaws_toBox_r4 : Reg :=
  { id := 4, ops := [{ op := .fieldAddr (.slot 1) 2 },
      { op := .load none (.loc 0) },
      { op := .call 31 [(false, .loc 1)] [4] },
      { op := .fieldAddr (.slot 3) 2 },
      { op := .store 1 (.loc 3) (.loc 2) }] }
def slaws_toBox_r5 : Reg :=
  { id := 5, ops := [{ op := .fieldAddr (.slot 1) 3 },
      { op := .load none (.loc 0) },
      { op := .fieldAddr (.slot 3) 3 },
      { op := .store 1 (.loc 2) (.loc 1) }], clr := [1] }
def slaws_toBox_r6 : Reg :=
  { id := 6, ops := [{ op := .load (some 4) (.slot 3) },
      { op := .store 4 (.slot 2) (.loc 0) }], clr := [3] }
def slaws_toBox_b : SC := .seq (.reg slaws_toBox_r0) (.seq (.reg slaws_toBox_r1) (.seq (.reg slaws_toBox_r2) (.seq (.reg slaws_toBox_r3) (.seq (.reg slaws_toBox_r4) (.seq (.reg slaws_toBox_r5) (.seq (.reg slaws_toBox_r6) (.ret)))))))
def slaws_toBox : SFn := { nslots := 4, nobjs := 5, params := [0], ngiven := 0, bor := false, takes := [], body := slaws_toBox_b, results := [.cell 2 (some 4)] }
def slaws_toBox_t : List Tmp := [0, 1, 2, 3]
attribute [simp] slaws_toBox_r0 slaws_toBox_r1 slaws_toBox_r2 slaws_toBox_r3 slaws_toBox_r4 slaws_toBox_r5 slaws_toBox_r6 slaws_toBox_b slaws_toBox
def slaws_eqBox_r0 : Reg :=
  { id := 0, ops := [{ op := .box 0 (.slot 0) },
      { op := .box 1 (.slot 1) },
      { op := .mv (.con (.sc (.bool false))) }], sets := [(2, 0), (3, 1)], clr := [0, 1, 4] }
def slaws_eqBox_r1 : Reg :=
  { id := 1, ops := [{ op := .fieldAddr (.slot 2) 0 },
      { op := .load none (.loc 0) },
      { op := .fieldAddr (.slot 3) 0 },
      { op := .load none (.loc 2) },
      { op := .bin .neq (.loc 1) (.loc 3) }], sets := [(5, 4)] }
def slaws_eqBox_r2 : Reg :=
  { id := 2, ops := [{ op := .mv (.con (.sc (.bool false))) }], sets := [(4, 0)], clr := [2, 3] }
def slaws_eqBox_r3 : Reg :=
  { id := 3, ops := [{ op := .fieldAddr (.slot 2) 1 },
      { op := .load none (.loc 0) },
      { op := .fieldAddr (.slot 3) 1 },
      { op := .load none (.loc 2) },
      { op := .call 47 [(false, .loc 1), (false, .loc 3)] [] },
      { op := .un .not (.loc 4) }], sets := [(6, 5)] }
def slaws_eqBox_r4 : Reg :=
  { id := 4, ops := [{ op := .mv (.con (.sc (.bool false))) }], sets := [(4, 0)], clr := [2, 3] }
def slaws_eqBox_r5 : Reg :=
  { id := 5, ops := [{ op := .fieldAddr (.slot 2) 2 },
      { op := .load none (.loc 0) },
      { op := .fieldAddr (.slot 3) 2 },
      { op := .load none (.loc 2) },
      { op := .call 47 [(false, .loc 1), (false, .loc 3)] [] },
      { op := .un .not (.loc 4) }], sets := [(7, 5)] }
def slaws_eqBox_r6 : Reg :=
  { id := 6, ops := [{ op := .mv (.con (.sc (.bool false))) }], sets := [(4, 0)], clr := [2, 3] }
def slaws_eqBox_r7 : Reg :=
  { id := 7, ops := [{ op := .fieldAddr (.slot 2) 3 },
      { op := .load none (.loc 0) },
      { op := .fieldAddr (.slot 3) 3 },
      { op := .load none (.loc 2) },
      { op := .beq true (.loc 1) (.loc 3) }], sets := [(8, 4)], clr := [2, 3] }
def slaws_eqBox_r8 : Reg :=
  { id := 8, ops := [{ op := .mv (.con (.sc (.bool false))) }], sets := [(4, 0)] }
def slaws_eqBox_r9 : Reg :=
  { id := 9, ops := [{ op := .mv (.con (.sc (.bool true))) }], sets := [(4, 0)] }
def slaws_eqBox_b : SC := .seq (.reg slaws_eqBox_r0) (.seq (.seq (.reg slaws_eqBox_r1) (.cond 5 (.seq (.reg slaws_eqBox_r2) (.ret)) (.skip))) (.seq (.seq (.reg slaws_eqBox_r3) (.cond 6 (.seq (.reg slaws_eqBox_r4) (.ret)) (.skip))) (.seq (.seq (.reg slaws_eqBox_r5) (.cond 7 (.seq (.reg slaws_eqBox_r6) (.ret)) (.skip))) (.seq (.seq (.reg slaws_eqBox_r7) (.cond 8 (.seq (.reg slaws_eqBox_r8) (.ret)) (.skip))) (.seq (.reg slaws_eqBox_r9) (.ret))))))
def slaws_eqBox : SFn := { nslots := 9, nobjs := 2, params := [0, 1], ngiven := 0, bor := false, takes := [], body := slaws_eqBox_b, results := [.slot 4] }
def slaws_eqBox_t : List Tmp := [0, 1, 2, 3, 4, 9, 15, 21, 26]
attribute [simp] slaws_eqBox_r0 slaws_eqBox_r1 slaws_eqBox_r2 slaws_eqBox_r3 slaws_eqBox_r4 slaws_eqBox_r5 slaws_eqBox_r6 slaws_eqBox_r7 slaws_eqBox_r8 slaws_eqBox_r9 slaws_eqBox_b slaws_eqBox
def slaws_eqBoxS_r0 : Reg :=
  { id := 0, ops := [{ op := .mv (.con (.sc (.bool false))) }], clr := [2] }
def slaws_eqBoxS_r1 : Reg :=
  { id := 1, ops := [{ op := .mv (.slot 0) },
      { op := .len false (.loc 0) },
      { op := .mv (.slot 1) },
      { op := .len false (.loc 2) },
      { op := .bin .neq (.loc 1) (.loc 3) }], sets := [(4, 4)] }
def slaws_eqBoxS_r2 : Reg :=
  { id := 2, ops := [{ op := .mv (.con (.sc (.bool false))) }], sets := [(2, 0)], clr := [0, 1] }
def slaws_eqBoxS_r3 : Reg :=
  { id := 3, ops := [{ op := .mv (.con (.sc (.int .i64 0))) }], sets := [(3, 0)] }
def slaws_eqBoxS_r4 : Reg :=
  { id := 4, ops := [{ op := .mv (.slot 3) },
      { op := .mv (.slot 0) },
      { op := .len false (.loc 1) },
      { op := .bin .lss (.loc 0) (.loc 2) }], sets := [(5, 3)] }
def slaws_eqBoxS_r5 : Reg :=
  { id := 6, draw := true, ops := [{ op := .mv (.slot 0), tau := some [], om := [] },
      { op := .mv (.slot 3), tau := some [], om := [] },
      { op := .indexAddr 4 (.loc 0) (.loc 1), tau := some [], om := [] },
      { op := .load (some 4) (.loc 2), tau := some [], om := [] },
      { op := .mv (.slot 1), tau := some [], om := [] },
      { op := .mv (.slot 3), tau := some [], om := [] },
      { op := .indexAddr 4 (.loc 4) (.loc 5), tau := some [], om := [] },
      { op := .load (some 4) (.loc 6), tau := some [], om := [] },
      { op := .call 249 [(false, .loc 3), (false, .loc 7)] [], tau := some [], om := [] },
      { op := .un .not (.loc 8), tau := some [], om := [] }], sets := [(6, 9)] }
def slaws_eqBoxS_r6 : Reg :=
  { id := 7, ops := [{ op := .mv (.con (.sc (.bool false))) }], sets := [(2, 0)], clr := [0, 1, 3] }
def slaws_eqBoxS_r7 : Reg :=
  { id := 5, ops := [{ op := .mv (.slot 3) },
      { op := .bin .add (.loc 0) (.con (.sc (.int .i64 1))) },
      { op := .mv (.loc 1) }], sets := [(3, 2)] }
def slaws_eqBoxS_r8 : Reg :=
  { id := 8, ops := [{ op := .mv (.con (.sc (.bool true))) }], sets := [(2, 0)], clr := [0, 1, 3] }
def slaws_eqBoxS_b : SC := .seq (.reg slaws_eqBoxS_r0) (.seq (.seq (.reg slaws_eqBoxS_r1) (.cond 4 (.seq (.reg slaws_eqBoxS_r2) (.ret)) (.skip))) (.seq (.seq (.reg slaws_eqBoxS_r3) (.block 0 (.loop (.seq (.seq (.reg slaws_eqBoxS_r4) (.cond 5 (.skip) (.exit 0))) (.seq (.block 1 (.seq (.reg slaws_eqBoxS_r5) (.cond 6 (.seq (.reg slaws_eqBoxS_r6) (.ret)) (.skip)))) (.reg slaws_eqBoxS_r7)))))) (.seq (.reg slaws_eqBoxS_r8) (.ret))))
def slaws_eqBoxS : SFn := { nslots := 7, nobjs := 0, params := [0, 1], ngiven := 0, bor := false, takes := [], body := slaws_eqBoxS_b, results := [.slot 2] }
def slaws_eqBoxS_t : List Tmp := [0, 1, 4, 5, 10, 14, 26]
attribute [simp] slaws_eqBoxS_r0 slaws_eqBoxS_r1 slaws_eqBoxS_r2 slaws_eqBoxS_r3 slaws_eqBoxS_r4 slaws_eqBoxS_r5 slaws_eqBoxS_r6 slaws_eqBoxS_r7 slaws_eqBoxS_r8 slaws_eqBoxS_b slaws_eqBoxS
end Go.Eng.T
