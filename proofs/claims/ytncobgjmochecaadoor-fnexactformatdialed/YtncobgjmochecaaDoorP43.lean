/- Own work: part 43 of the proof of FnExactFormatDialed. -/
import Derived.Test.YtncobgjmochecaaDoorEngAP
import Derived.Lib.ItoaNum
import Derived.Lib.Join
import Derived.Below
import Derived.Sort.Grow
import Derived.Deep.Draws
import Derived.Lib.LaidTab
import Derived.Shelf.Strings.OnBuilder
import Derived.Shelf.Strconv.Itoa0
import Derived.Shelf.Strconv.Itoa1
import Derived.Shelf.LaysM
import Derived.Shelf.Strconv.Itoa2
import Derived.Shelf.Strconv.Itoa3
import Derived.Test.YtncobgjmochecaaDoorProg
set_option linter.unusedSimpArgs false
set_option linter.unusedVariables false
namespace Go.Eng.T
def slaws_szDialed_r0 : Reg :=
  { id := 0, ops := [{ op := .box 0 (.slot 0) },
      { op := .mv (.con (.sc (.int .i64 0))) }], sets := [(2, 0)], clr := [0, 3] }
def slaws_szDialed_r1 : Reg :=
  { id := 1, ops := [{ op := .fieldAddr (.slot 2) 0 },
      { op := .load (some 3) (.loc 0) },
      { op := .mv (.slot 1) },
      { op := .call 140 [(false, .loc 1), (false, .loc 2)] [] },
      { op := .mv (.loc 3) }], sets := [(1, 4)] }
def slaws_szDialed_r2 : Reg :=
  { id := 2, ops := [{ op := .mv (.slot 1) },
      { op := .bin .lss (.loc 0) (.con (.sc (.int .i64 0))) }], sets := [(4, 1)] }
def slaws_szDialed_r3 : Reg :=
  { id := 3, ops := [{ op := .mv (.con (.sc (.int .i64 (-1)))) }], sets := [(3, 0)], clr := [1, 2] }
def slaws_szDialed_r4 : Reg :=
  { id := 4, ops := [{ op := .fieldAddr (.slot 2) 4 },
      { op := .load none (.loc 0) },
      { op := .mv (.slot 1) },
      { op := .call 16 [(false, .loc 1), (false, .loc 2)] [] },
      { op := .mv (.loc 3) }], sets := [(1, 4)], clr := [2] }
def slaws_szDialed_r5 : Reg :=
  { id := 5, ops := [{ op := .mv (.slot 1) },
      { op := .bin .lss (.loc 0) (.con (.sc (.int .i64 0))) }], sets := [(5, 1)] }
def slaws_szDialed_r6 : Reg :=
  { id := 6, ops := [{ op := .mv (.con (.sc (.int .i64 (-1)))) }], sets := [(3, 0)], clr := [1] }
def slaws_szDialed_r7 : Reg :=
  { id := 7, ops := [{ op := .mv (.slot 1) },
      { op := .mv (.loc 0) }], sets := [(3, 1)], clr := [1] }
def slaws_szDialed_b : SC := .seq (.reg slaws_szDialed_r0) (.seq (.reg slaws_szDialed_r1) (.seq (.seq (.reg slaws_szDialed_r2) (.cond 4 (.seq (.reg slaws_szDialed_r3) (.ret)) (.skip))) (.seq (.reg slaws_szDialed_r4) (.seq (.seq (.reg slaws_szDialed_r5) (.cond 5 (.seq (.reg slaws_szDialed_r6) (.ret)) (.skip))) (.seq (.reg slaws_szDialed_r7) (.ret))))))
def slaws_szDialed : SFn := { nslots := 6, nobjs := 1, params := [0, 1], ngiven := 0, bor := false, takes := [], body := slaws_szDialed_b, results := [.slot 3] }
def slaws_szDialed_t : List Tmp := [0, 1, 2, 4, 10, 16]
attribute [simp] slaws_szDialed_r0 slaws_szDialed_r1 slaws_szDialed_r2 slaws_szDialed_r3 slaws_szDialed_r4 slaws_szDialed_r5 slaws_szDialed_r6 slaws_szDialed_r7 slaws_szDialed_b slaws_szDialed
def slaws_toDialed_r0 : Reg :=
  { id := 0, ops := [{ op := .box 0 (.slot 0) },
      { op := .alloc 1 [.sc (.bool false), .sc (.int .i64 0), .nil 1, .sc (.int .i64 0), .nil 1] }], sets := [(1, 0), (2, 1)], clr := [0] }
def slaws_toDialed_r1 : Reg :=
  { id := 1, ops := [{ op := .alloc 2 [.sc (.bool false), .sc (.int .i64 0), .nil 1, .sc (.int .i64 0), .nil 1] }], sets := [(3, 0)] }
def slaws_toDialed_r2 : Reg :=
  { id := 2, ops := [{ op := .fieldAddr (.slot 1) 0 },
      { op := .load (some 3) (.loc 0) },
      { op := .call 171 [(false, .loc 1)] [3] },
      { op := .fieldAddr (.slot 3) 0 },
      { op := .store 3 (.loc 3) (.loc 2) }] }
def slaws_toDialed_r3 : Reg :=
  { id := 3, ops := [{ op := .fieldAddr (.slot 1) 3 },
      { op := .load none (.loc 0) },
      { op := .fieldAddr (.slot 3) 3 },
      { op := .store 1 (.loc 2) (.loc 1) }] }
def slaws_toDialed_r4 : Reg :=
  { id := 4, ops := [{ op := .fieldAddr (.slot 1) 4 },
      { op := .load none (.loc 0) },
      { op := .call 31 [(false, .loc 1)] [4] },
      { op := .fieldAddr (.slot 3) 4 },
      { op := .store 1 (.loc 3) (.loc 2) }], clr := [1] }
def slaws_toDialed_r5 : Reg :=
  { id := 5, ops := [{ op := .load (some 5) (.slot 3) },
      { op := .store 5 (.slot 2) (.loc 0) }], clr := [3] }
def slaws_toDialed_b : SC := .seq (.reg slaws_toDialed_r0) (.seq (.reg slaws_toDialed_r1) (.seq (.reg slaws_toDialed_r2) (.seq (.reg slaws_toDialed_r3) (.seq (.reg slaws_toDialed_r4) (.seq (.reg slaws_toDialed_r5) (.ret))))))
def slaws_toDialed : SFn := { nslots := 4, nobjs := 5, params := [0], ngiven := 0, bor := false, takes := [], body := slaws_toDialed_b, results := [.cell 2 (some 5)] }
def slaws_toDialed_t : List Tmp := [0, 1, 2, 3]
attribute [simp] slaws_toDialed_r0 slaws_toDialed_r1 slaws_toDialed_r2 slaws_toDialed_r3 slaws_toDialed_r4 slaws_toDialed_r5 slaws_toDialed_b slaws_toDialed
def slaws_eqDialed_r0 : Reg :=
  { id := 0, ops := [{ op := .box 0 (.slot 0) },
      { op := .box 1 (.slot 1) },
      { op := .mv (.con (.sc (.bool false))) }], sets := [(2, 0), (3, 1)], clr := [0, 1, 4] }
def slaws_eqDialed_r1 : Reg :=
  { id := 1, ops := [{ op := .fieldAddr (.slot 2) 0 },
      { op := .load (some 3) (.loc 0) },
      { op := .fieldAddr (.slot 3) 0 },
      { op := .load (some 3) (.loc 2) },
      { op := .call 205 [(false, .loc 1), (false, .loc 3)] [] },
      { op := .un .not (.loc 4) }], sets := [(5, 5)] }
def slaws_eqDialed_r2 : Reg :=
  { id := 2, ops := [{ op := .mv (.con (.sc (.bool false))) }], sets := [(4, 0)], clr := [2, 3] }
def slaws_eqDialed_r3 : Reg :=
  { id := 3, ops := [{ op := .fieldAddr (.slot 2) 3 },
      { op := .load none (.loc 0) },
      { op := .fieldAddr (.slot 3) 3 },
      { op := .load none (.loc 2) },
      { op := .bin .neq (.loc 1) (.loc 3) }], sets := [(6, 4)] }
def slaws_eqDialed_r4 : Reg :=
  { id := 4, ops := [{ op := .mv (.con (.sc (.bool false))) }], sets := [(4, 0)], clr := [2, 3] }
def slaws_eqDialed_r5 : Reg :=
  { id := 5, ops := [{ op := .fieldAddr (.slot 2) 4 },
      { op := .load none (.loc 0) },
      { op := .fieldAddr (.slot 3) 4 },
      { op := .load none (.loc 2) },
      { op := .call 47 [(false, .loc 1), (false, .loc 3)] [] },
      { op := .un .not (.loc 4) }], sets := [(7, 5)], clr := [2, 3] }
def slaws_eqDialed_r6 : Reg :=
  { id := 6, ops := [{ op := .mv (.con (.sc (.bool false))) }], sets := [(4, 0)] }
def slaws_eqDialed_r7 : Reg :=
  { id := 7, ops := [{ op := .mv (.con (.sc (.bool true))) }], sets := [(4, 0)] }
def slaws_eqDialed_b : SC := .seq (.reg slaws_eqDialed_r0) (.seq (.seq (.reg slaws_eqDialed_r1) (.cond 5 (.seq (.reg slaws_eqDialed_r2) (.ret)) (.skip))) (.seq (.seq (.reg slaws_eqDialed_r3) (.cond 6 (.seq (.reg slaws_eqDialed_r4) (.ret)) (.skip))) (.seq (.seq (.reg slaws_eqDialed_r5) (.cond 7 (.seq (.reg slaws_eqDialed_r6) (.ret)) (.skip))) (.seq (.reg slaws_eqDialed_r7) (.ret)))))
def slaws_eqDialed : SFn := { nslots := 8, nobjs := 2, params := [0, 1], ngiven := 0, bor := false, takes := [], body := slaws_eqDialed_b, results := [.slot 4] }
def slaws_eqDialed_t : List Tmp := [0, 1, 2, 3, 4, 10, 15, 21]
attribute [simp] slaws_eqDialed_r0 slaws_eqDialed_r1 slaws_eqDialed_r2 slaws_eqDialed_r3 slaws_eqDialed_r4 slaws_eqDialed_r5 slaws_eqDialed_r6 slaws_eqDialed_r7 slaws_eqDialed_b slaws_eqDialed
def slaws_szDeal_r0 : Reg :=
  { id := 0, ops := [{ op := .box 0 (.slot 0) },
      { op := .mv (.con (.sc (.int .i64 0))) }], sets := [(2, 0)], clr := [0, 3] }
def slaws_szDeal_r1 : Reg :=
  { id := 1, ops := [{ op := .fieldAddr (.slot 2) 2 },
      { op := .load none (.loc 0) },
      { op := .mv (.slot 1) },
      { op := .call 16 [(false, .loc 1), (false, .loc 2)] [] },
      { op := .mv (.loc 3) }], sets := [(1, 4)], clr := [2] }
def slaws_szDeal_r2 : Reg :=
  { id := 2, ops := [{ op := .mv (.slot 1) },
      { op := .bin .lss (.loc 0) (.con (.sc (.int .i64 0))) }], sets := [(4, 1)] }
def slaws_szDeal_r3 : Reg :=
  { id := 3, ops := [{ op := .mv (.con (.sc (.int .i64 (-1)))) }], sets := [(3, 0)], clr := [1] }
def slaws_szDeal_r4 : Reg :=
  { id := 4, ops := [{ op := .mv (.slot 1) },
      { op := .mv (.loc 0) }], sets := [(3, 1)], clr := [1] }
def slaws_szDeal_b : SC := .seq (.reg slaws_szDeal_r0) (.seq (.reg slaws_szDeal_r1) (.seq (.seq (.reg slaws_szDeal_r2) (.cond 4 (.seq (.reg slaws_szDeal_r3) (.ret)) (.skip))) (.seq (.reg slaws_szDeal_r4) (.ret))))
def slaws_szDeal : SFn := { nslots := 5, nobjs := 1, params := [0, 1], ngiven := 0, bor := false, takes := [], body := slaws_szDeal_b, results := [.slot 3] }
def slaws_szDeal_t : List Tmp := [0, 1, 2, 4, 10]
attribute [simp] slaws_szDeal_r0 slaws_szDeal_r1 slaws_szDeal_r2 slaws_szDeal_r3 slaws_szDeal_r4 slaws_szDeal_b slaws_szDeal
def slaws_szIntS_r0 : Reg :=
  { id := 0, ops := [{ op := .mv (.con (.sc (.int .i64 0))) }], clr := [2] }
def slaws_szIntS_r1 : Reg :=
  { id := 1, ops := [{ op := .mv (.slot 1) },
      { op := .mv (.slot 0) },
      { op := .len false (.loc 1) },
      { op := .bin .sub (.loc 0) (.loc 2) },
      { op := .mv (.loc 3) }], sets := [(1, 4)], clr := [0] }
def slaws_szIntS_r2 : Reg :=
  { id := 2, ops := [{ op := .mv (.slot 1) },
      { op := .bin .lss (.loc 0) (.con (.sc (.int .i64 0))) }], sets := [(3, 1)] }
def slaws_szIntS_r3 : Reg :=
  { id := 3, ops := [{ op := .mv (.con (.sc (.int .i64 (-1)))) }], sets := [(2, 0)], clr := [1] }
def slaws_szIntS_r4 : Reg :=
  { id := 4, ops := [{ op := .mv (.slot 1) },
      { op := .mv (.loc 0) }], sets := [(2, 1)], clr := [1] }
def slaws_szIntS_b : SC := .seq (.reg slaws_szIntS_r0) (.seq (.reg slaws_szIntS_r1) (.seq (.seq (.reg slaws_szIntS_r2) (.cond 3 (.seq (.reg slaws_szIntS_r3) (.ret)) (.skip))) (.seq (.reg slaws_szIntS_r4) (.ret))))
def slaws_szIntS : SFn := { nslots := 4, nobjs := 0, params := [0, 1], ngiven := 0, bor := false, takes := [], body := slaws_szIntS_b, results := [.slot 2] }
def slaws_szIntS_t : List Tmp := [0, 1, 4, 10]
attribute [simp] slaws_szIntS_r0 slaws_szIntS_r1 slaws_szIntS_r2 slaws_szIntS_r3 slaws_szIntS_r4 slaws_szIntS_b slaws_szIntS
def slaws_toDeal_r0 : Reg :=
  { id := 0, ops := [{ op := .box 0 (.slot 0) },
      { op := .alloc 1 [.sc (.bool false), .sc (.int .i64 0), .nil 1] }], sets := [(1, 0), (2, 1)], clr := [0] }
def slaws_toDeal_r1 : Reg :=
  { id := 1, ops := [{ op := .alloc 2 [.sc (.bool false), .sc (.int .i64 0), .nil 1] }], sets := [(3, 0)] }
def slaws_toDeal_r2 : Reg :=
  { id := 2, ops := [{ op := .fieldAddr (.slot 1) 0 },
      { op := .load none (.loc 0) },
      { op := .fieldAddr (.slot 3) 0 },
      { op := .store 1 (.loc 2) (.loc 1) }] }
def slaws_toDeal_r3 : Reg :=
  { id := 3, ops := [{ op := .fieldAddr (.slot 1) 1 },
      { op := .load none (.loc 0) },
      { op := .fieldAddr (.slot 3) 1 },
      { op := .store 1 (.loc 2) (.loc 1) }] }
def slaws_toDeal_r4 : Reg :=
  { id := 4, ops := [{ op := .fieldAddr (.slot 1) 2 },
      { op := .load none (.loc 0) },
      { op := .call 31 [(false, .loc 1)] [3] },
      { op := .fieldAddr (.slot 3) 2 },
      { op := .store 1 (.loc 3) (.loc 2) }], clr := [1] }
def slaws_toDeal_r5 : Reg :=
  { id := 5, ops := [{ op := .load (some 3) (.slot 3) },
      { op := .store 3 (.slot 2) (.loc 0) }], clr := [3] }
def slaws_toDeal_b : SC := .seq (.reg slaws_toDeal_r0) (.seq (.reg slaws_toDeal_r1) (.seq (.reg slaws_toDeal_r2) (.seq (.reg slaws_toDeal_r3) (.seq (.reg slaws_toDeal_r4) (.seq (.reg slaws_toDeal_r5) (.ret))))))
def slaws_toDeal : SFn := { nslots := 4, nobjs := 4, params := [0], ngiven := 0, bor := false, takes := [], body := slaws_toDeal_b, results := [.cell 2 (some 3)] }
def slaws_toDeal_t : List Tmp := [0, 1, 2, 3]
attribute [simp] slaws_toDeal_r0 slaws_toDeal_r1 slaws_toDeal_r2 slaws_toDeal_r3 slaws_toDeal_r4 slaws_toDeal_r5 slaws_toDeal_b slaws_toDeal
def slaws_toIntS_r0 : Reg :=
  { id := 0, ops := [{ op := .mv (.con (.nil 1)) }], clr := [1] }
def slaws_toIntS_r1 : Reg :=
  { id := 1, ops := [{ op := .mv (.slot 0) },
      { op := .len false (.loc 0) },
      { op := .makeSlice 0 1 8 [.sc (.int .i64 0)] (.loc 1) },
      { op := .mv (.loc 2) }], sets := [(2, 3)] }
def slaws_toIntS_r2 : Reg :=
  { id := 2, ops := [{ op := .mv (.con (.sc (.int .i64 0))) }], sets := [(3, 0)] }
def slaws_toIntS_r3 : Reg :=
  { id := 3, ops := [{ op := .mv (.slot 3) },
      { op := .mv (.slot 0) },
      { op := .len false (.loc 1) },
      { op := .bin .lss (.loc 0) (.loc 2) }], sets := [(4, 3)] }
def slaws_toIntS_r4 : Reg :=
  { id := 5, ops := [{ op := .mv (.slot 2) },
      { op := .mv (.slot 3) },
      { op := .mv (.slot 0) },
      { op := .mv (.slot 3) },
      { op := .indexAddr 1 (.loc 2) (.loc 3) },
      { op := .load none (.loc 4) },
      { op := .indexAddr 1 (.loc 0) (.loc 1) },
      { op := .store 1 (.loc 6) (.loc 5) }] }
def slaws_toIntS_r5 : Reg :=
  { id := 4, ops := [{ op := .mv (.slot 3) },
      { op := .bin .add (.loc 0) (.con (.sc (.int .i64 1))) },
      { op := .mv (.loc 1) }], sets := [(3, 2)] }
def slaws_toIntS_r6 : Reg :=
  { id := 6, ops := [{ op := .mv (.slot 2) },
      { op := .mv (.loc 0) }], sets := [(1, 1)], clr := [0, 2, 3] }
def slaws_toIntS_b : SC := .seq (.reg slaws_toIntS_r0) (.seq (.reg slaws_toIntS_r1) (.seq (.seq (.reg slaws_toIntS_r2) (.block 0 (.loop (.seq (.seq (.reg slaws_toIntS_r3) (.cond 4 (.skip) (.exit 0))) (.seq (.block 1 (.reg slaws_toIntS_r4)) (.reg slaws_toIntS_r5)))))) (.seq (.reg slaws_toIntS_r6) (.ret))))
def slaws_toIntS : SFn := { nslots := 5, nobjs := 1, params := [0], ngiven := 0, bor := false, takes := [], body := slaws_toIntS_b, results := [.slot 1] }
def slaws_toIntS_t : List Tmp := [0, 2, 3, 4, 11]
attribute [simp] slaws_toIntS_r0 slaws_toIntS_r1 slaws_toIntS_r2 slaws_toIntS_r3 slaws_toIntS_r4 slaws_toIntS_r5 slaws_toIntS_r6 slaws_toIntS_b slaws_toIntS
def slaws_eqDeal_r0 : Reg :=
  { id := 0, ops := [{ op := .box 0 (.slot 0) },
      { op := .box 1 (.slot 1) },
      { op := .mv (.con (.sc (.bool false))) }], sets := [(2, 0), (3, 1)], clr := [0, 1, 4] }
def slaws_eqDeal_r1 : Reg :=
  { id := 1, ops := [{ op := .fieldAddr (.slot 2) 0 },
      { op := .load none (.loc 0) },
      { op := .fieldAddr (.slot 3) 0 },
      { op := .load none (.loc 2) },
      { op := .beq true (.loc 1) (.loc 3) }], sets := [(5, 4)] }
def slaws_eqDeal_r2 : Reg :=
  { id := 2, ops := [{ op := .mv (.con (.sc (.bool false))) }], sets := [(4, 0)], clr := [2, 3] }
def slaws_eqDeal_r3 : Reg :=
  { id := 3, ops := [{ op := .fieldAddr (.slot 2) 1 },
      { op := .load none (.loc 0) },
      { op := .fieldAddr (.slot 3) 1 },
      { op := .load none (.loc 2) },
      { op := .bin .neq (.loc 1) (.loc 3) }], sets := [(6, 4)] }
def slaws_eqDeal_r4 : Reg :=
  { id := 4, ops := [{ op := .mv (.con (.sc (.bool false))) }], sets := [(4, 0)], clr := [2, 3] }
def slaws_eqDeal_r5 : Reg :=
  { id := 5, ops := [{ op := .fieldAddr (.slot 2) 2 },
      { op := .load none (.loc 0) },
      { op := .fieldAddr (.slot 3) 2 },
      { op := .load none (.loc 2) },
      { op := .call 47 [(false, .loc 1), (false, .loc 3)] [] },
      { op := .un .not (.loc 4) }], sets := [(7, 5)], clr := [2, 3] }
def slaws_eqDeal_r6 : Reg :=
  { id := 6, ops := [{ op := .mv (.con (.sc (.bool false))) }], sets := [(4, 0)] }
def slaws_eqDeal_r7 : Reg :=
  { id := 7, ops := [{ op := .mv (.con (.sc (.bool true))) }], sets := [(4, 0)] }
def slaws_eqDeal_b : SC := .seq (.reg slaws_eqDeal_r0) (.seq (.seq (.reg slaws_eqDeal_r1) (.cond 5 (.seq (.reg slaws_eqDeal_r2) (.ret)) (.skip))) (.seq (.seq (.reg slaws_eqDeal_r3) (.cond 6 (.seq (.reg slaws_eqDeal_r4) (.ret)) (.skip))) (.seq (.seq (.reg slaws_eqDeal_r5) (.cond 7 (.seq (.reg slaws_eqDeal_r6) (.ret)) (.skip))) (.seq (.reg slaws_eqDeal_r7) (.ret)))))
def slaws_eqDeal : SFn := { nslots := 8, nobjs := 2, params := [0, 1], ngiven := 0, bor := false, takes := [], body := slaws_eqDeal_b, results := [.slot 4] }
def slaws_eqDeal_t : List Tmp := [0, 1, 2, 3, 4, 9, 14, 20]
attribute [simp] slaws_eqDeal_r0 slaws_eqDeal_r1 slaws_eqDeal_r2 slaws_eqDeal_r3 slaws_eqDeal_r4 slaws_eqDeal_r5 slaws_eqDeal_r6 slaws_eqDeal_r7 slaws_eqDeal_b slaws_eqDeal
def slaws_eqIntS_r0 : Reg :=
  { id := 0, ops := [{ op := .mv (.con (.sc (.bool false))) }], clr := [2] }
def slaws_eqIntS_r1 : Reg :=
  { id := 1, ops := [{ op := .mv (.slot 0) },
      { op := .len false (.loc 0) },
      { op := .mv (.slot 1) },
      { op := .len false (.loc 2) },
      { op := .bin .neq (.loc 1) (.loc 3) }], sets := [(4, 4)] }
def slaws_eqIntS_r2 : Reg :=
  { id := 2, ops := [{ op := .mv (.con (.sc (.bool false))) }], sets := [(2, 0)], clr := [0, 1] }
def slaws_eqIntS_r3 : Reg :=
  { id := 3, ops := [{ op := .mv (.con (.sc (.int .i64 0))) }], sets := [(3, 0)] }
def slaws_eqIntS_r4 : Reg :=
  { id := 4, ops := [{ op := .mv (.slot 3) },
      { op := .mv (.slot 0) },
      { op := .len false (.loc 1) },
      { op := .bin .lss (.loc 0) (.loc 2) }], sets := [(5, 3)] }
def slaws_eqIntS_r5 : Reg :=
  { id := 6, draw := true, ops := [{ op := .mv (.slot 0), tau := some [], om := [] },
      { op := .mv (.slot 3), tau := some [], om := [] },
      { op := .indexAddr 1 (.loc 0) (.loc 1), tau := some [], om := [] },
      { op := .load none (.loc 2), tau := some [], om := [] },
      { op := .mv (.slot 1), tau := some [], om := [] },
      { op := .mv (.slot 3), tau := some [], om := [] },
      { op := .indexAddr 1 (.loc 4) (.loc 5), tau := some [], om := [] },
      { op := .load none (.loc 6), tau := some [], om := [] },
      { op := .bin .neq (.loc 3) (.loc 7), tau := some [], om := [] }], sets := [(6, 8)] }
def slaws_eqIntS_r6 : Reg :=
  { id := 7, ops := [{ op := .mv (.con (.sc (.bool false))) }], sets := [(2, 0)], clr := [0, 1, 3] }
def slaws_eqIntS_r7 : Reg :=
  { id := 5, ops := [{ op := .mv (.slot 3) },
      { op := .bin .add (.loc 0) (.con (.sc (.int .i64 1))) },
      { op := .mv (.loc 1) }], sets := [(3, 2)] }
def slaws_eqIntS_r8 : Reg :=
  { id := 8, ops := [{ op := .mv (.con (.sc (.bool true))) }], sets := [(2, 0)], clr := [0, 1, 3] }
def slaws_eqIntS_b : SC := .seq (.reg slaws_eqIntS_r0) (.seq (.seq (.reg slaws_eqIntS_r1) (.cond 4 (.seq (.reg slaws_eqIntS_r2) (.ret)) (.skip))) (.seq (.seq (.reg slaws_eqIntS_r3) (.block 0 (.loop (.seq (.seq (.reg slaws_eqIntS_r4) (.cond 5 (.skip) (.exit 0))) (.seq (.block 1 (.seq (.reg slaws_eqIntS_r5) (.cond 6 (.seq (.reg slaws_eqIntS_r6) (.ret)) (.skip)))) (.reg slaws_eqIntS_r7)))))) (.seq (.reg slaws_eqIntS_r8) (.ret))))
def slaws_eqIntS : SFn := { nslots := 7, nobjs := 0, params := [0, 1], ngiven := 0, bor := false, takes := [], body := slaws_eqIntS_b, results := [.slot 2] }
def slaws_eqIntS_t : List Tmp := [0, 1, 4, 5, 10, 14, 25]
attribute [simp] slaws_eqIntS_r0 slaws_eqIntS_r1 slaws_eqIntS_r2 slaws_eqIntS_r3 slaws_eqIntS_r4 slaws_eqIntS_r5 slaws_eqIntS_r6 slaws_eqIntS_r7 slaws_eqIntS_r8 slaws_eqIntS_b slaws_eqIntS
def slaws_FnExactFormatDialed_r0 : Reg :=
  { id := 0, ops := [{ op := .box 0 (.slot 0) },
      { op := .mv (.con (.sc (.bool false))) }], sets := [(1, 0)], clr := [0, 2] }
def slaws_FnExactFormatDialed_r1 : Reg :=
  { id := 1, ops := [{ op := .mv (.con (.sc (.int .i64 1048576))) }], sets := [(3, 0)] }
def slaws_FnExactFormatDialed_r2 : Reg :=
  { id := 2, ops := [{ op := .load (some 5) (.slot 1) },
      { op := .mv (.slot 3) },
      { op := .call 63 [(false, .loc 0), (false, .loc 1)] [] },
      { op := .mv (.loc 2) }], sets := [(3, 3)] }
def slaws_FnExactFormatDialed_r3 : Reg :=
  { id := 3, ops := [{ op := .mv (.slot 3) },
      { op := .bin .lss (.loc 0) (.con (.sc (.int .i64 0))) }], sets := [(7, 1)], clr := [3] }
def slaws_FnExactFormatDialed_r4 : Reg :=
  { id := 4, ops := [{ op := .mv (.con (.sc (.bool true))) }], sets := [(2, 0)], clr := [1] }
def slaws_FnExactFormatDialed_r5 : Reg :=
  { id := 5, ops := [{ op := .load (some 5) (.slot 1) },
      { op := .call 99 [(false, .loc 0)] [1, 2] },
      { op := .call 81 [(false, .loc 1)] [] },
      { op := .mv (.loc 2) }], sets := [(4, 3)] }
def slaws_FnExactFormatDialed_r6 : Reg :=
  { id := 6, ops := [{ op := .load (some 5) (.slot 1) },
      { op := .call 99 [(false, .loc 0)] [3, 4] },
      { op := .alloc 5 [.sc (.bool false), .sc (.int .i64 0), .nil 1, .sc (.int .i64 0), .nil 1] },
      { op := .store 5 (.loc 2) (.loc 1) }], sets := [(5, 2)] }
def slaws_FnExactFormatDialed_r7 : Reg :=
  { id := 7, ops := [{ op := .load (some 5) (.slot 5) },
      { op := .call 126 [(false, .loc 0)] [] },
      { op := .mv (.loc 1) }], sets := [(6, 2)] }
def slaws_FnExactFormatDialed_r8 : Reg :=
  { id := 8, ops := [{ op := .mv (.slot 6) },
      { op := .mv (.slot 4) },
      { op := .bin .neq (.loc 0) (.loc 1) }], sets := [(8, 2)], clr := [4, 6] }
def slaws_FnExactFormatDialed_r9 : Reg :=
  { id := 9, ops := [{ op := .mv (.con (.sc (.bool false))) }], sets := [(2, 0)], clr := [1, 5] }
def slaws_FnExactFormatDialed_r10 : Reg :=
  { id := 10, draw := true, ops := [{ op := .load (some 5) (.slot 5), tau := some [5], om := [] },
      { op := .load (some 5) (.slot 1), tau := some [0], om := [] },
      { op := .call 99 [(false, .loc 1)] [6, 7], tau := some [6, 7], om := [6, 7] },
      { op := .call 135 [(false, .loc 0), (false, .loc 2)] [], tau := some [3, 4, 6, 7], om := [] },
      { op := .un .not (.loc 3), tau := some [], om := [] }], sets := [(9, 4)], clr := [1, 5] }
def slaws_FnExactFormatDialed_r11 : Reg :=
  { id := 11, ops := [{ op := .mv (.con (.sc (.bool false))) }], sets := [(2, 0)] }
def slaws_FnExactFormatDialed_r12 : Reg :=
  { id := 12, ops := [{ op := .mv (.con (.sc (.bool true))) }], sets := [(2, 0)] }
def slaws_FnExactFormatDialed_b : SC := .seq (.reg slaws_FnExactFormatDialed_r0) (.seq (.reg slaws_FnExactFormatDialed_r1) (.seq (.reg slaws_FnExactFormatDialed_r2) (.seq (.seq (.reg slaws_FnExactFormatDialed_r3) (.cond 7 (.seq (.reg slaws_FnExactFormatDialed_r4) (.ret)) (.skip))) (.seq (.reg slaws_FnExactFormatDialed_r5) (.seq (.reg slaws_FnExactFormatDialed_r6) (.seq (.reg slaws_FnExactFormatDialed_r7) (.seq (.seq (.reg slaws_FnExactFormatDialed_r8) (.cond 8 (.seq (.reg slaws_FnExactFormatDialed_r9) (.ret)) (.skip))) (.seq (.seq (.reg slaws_FnExactFormatDialed_r10) (.cond 9 (.seq (.reg slaws_FnExactFormatDialed_r11) (.ret)) (.skip))) (.seq (.reg slaws_FnExactFormatDialed_r12) (.ret))))))))))
def slaws_FnExactFormatDialed : SFn := { nslots := 10, nobjs := 8, params := [0], ngiven := 0, bor := false, takes := [], body := slaws_FnExactFormatDialed_b, results := [.slot 2] }
def slaws_FnExactFormatDialed_t : List Tmp := [0, 1, 2, 3, 4, 5, 6, 11, 21, 26]
attribute [simp] slaws_FnExactFormatDialed_r0 slaws_FnExactFormatDialed_r1 slaws_FnExactFormatDialed_r2 slaws_FnExactFormatDialed_r3 slaws_FnExactFormatDialed_r4 slaws_FnExactFormatDialed_r5 slaws_FnExactFormatDialed_r6 slaws_FnExactFormatDialed_r7 slaws_FnExactFormatDialed_r8 slaws_FnExactFormatDialed_r9 slaws_FnExactFormatDialed_r10 slaws_FnExactFormatDialed_r11 slaws_FnExactFormatDialed_r12 slaws_FnExactFormatDialed_b slaws_FnExactFormatDialed
def sspec_FormatDeal_r0 : Reg :=
  { id := 0, ops := [{ op := .box 0 (.slot 0) },
      { op := .mv (.con (.sc (.string ⟨#[]⟩))) }], sets := [(1, 0)], clr := [0, 2] }
def sspec_FormatDeal_r1 : Reg :=
  { id := 1, ops := [{ op := .fieldAddr (.slot 1) 0 },
      { op := .load none (.loc 0) },
      { op := .un .not (.loc 1) }], sets := [(4, 2)] }
def sspec_FormatDeal_r2 : Reg :=
  { id := 2, ops := [{ op := .mv (.con (.sc (.string ⟨#[110, 111]⟩))) }], sets := [(2, 0)], clr := [1] }
def sspec_FormatDeal_r3 : Reg :=
  { id := 3, ops := [{ op := .fieldAddr (.slot 1) 1 },
      { op := .load none (.loc 0) },
      { op := .call 93 [(false, .loc 1)] [] },
      { op := .bin .add (.con (.sc (.string ⟨#[118]⟩))) (.loc 2) },
      { op := .mv (.loc 3) }], sets := [(3, 4)] }
def sspec_FormatDeal_r4 : Reg :=
  { id := 4, ops := [{ op := .fieldAddr (.slot 1) 2 },
      { op := .load none (.loc 0) },
      { op := .len false (.loc 1) },
      { op := .bin .gtr (.loc 2) (.con (.sc (.int .i64 0))) }], sets := [(5, 3)] }
def sspec_FormatDeal_r5 : Reg :=
  { id := 5, ops := [{ op := .mv (.slot 3) },
      { op := .bin .add (.loc 0) (.con (.sc (.string ⟨#[58]⟩))) },
      { op := .fieldAddr (.slot 1) 2 },
      { op := .load none (.loc 2) },
      { op := .call 154 [(false, .loc 3), (false, .con (.sc (.string ⟨#[44]⟩)))] [] },
      { op := .bin .add (.loc 1) (.loc 4) },
      { op := .mv (.loc 5) }], sets := [(3, 6)], clr := [1] }
def sspec_FormatDeal_r6 : Reg :=
  { id := 6, ops := [{ op := .mv (.slot 3) },
      { op := .mv (.loc 0) }], sets := [(2, 1)], clr := [3] }
def sspec_FormatDeal_b : SC := .seq (.reg sspec_FormatDeal_r0) (.seq (.seq (.reg sspec_FormatDeal_r1) (.cond 4 (.seq (.reg sspec_FormatDeal_r2) (.ret)) (.skip))) (.seq (.reg sspec_FormatDeal_r3) (.seq (.seq (.reg sspec_FormatDeal_r4) (.cond 5 (.reg sspec_FormatDeal_r5) (.skip))) (.seq (.reg sspec_FormatDeal_r6) (.ret)))))
def sspec_FormatDeal : SFn := { nslots := 6, nobjs := 1, params := [0], ngiven := 0, bor := false, takes := [], body := sspec_FormatDeal_b, results := [.slot 2] }
def sspec_FormatDeal_t : List Tmp := [0, 1, 2, 3, 6, 14]
attribute [simp] sspec_FormatDeal_r0 sspec_FormatDeal_r1 sspec_FormatDeal_r2 sspec_FormatDeal_r3 sspec_FormatDeal_r4 sspec_FormatDeal_r5 sspec_FormatDeal_r6 sspec_FormatDeal_b sspec_FormatDeal
def simpl_FormatDeal_r0 : Reg :=
  { id := 0, ops := [{ op := .box 0 (.slot 0) },
      { op := .mv (.con (.sc (.string ⟨#[]⟩))) }], sets := [(1, 0)], clr := [0, 2] }
def simpl_FormatDeal_r1 : Reg :=
  { id := 1, ops := [{ op := .fieldAddr (.slot 1) 0 },
      { op := .load none (.loc 0) },
      { op := .un .not (.loc 1) }], sets := [(4, 2)] }
def simpl_FormatDeal_r2 : Reg :=
  { id := 2, ops := [{ op := .mv (.con (.sc (.string ⟨#[110, 111]⟩))) }], sets := [(2, 0)], clr := [1] }
def simpl_FormatDeal_r3 : Reg :=
  { id := 3, ops := [{ op := .fieldAddr (.slot 1) 1 },
      { op := .load none (.loc 0) },
      { op := .call 120 [(false, .loc 1)] [] },
      { op := .bin .add (.con (.sc (.string ⟨#[118]⟩))) (.loc 2) },
      { op := .mv (.loc 3) }], sets := [(3, 4)] }
def simpl_FormatDeal_r4 : Reg :=
  { id := 4, ops := [{ op := .fieldAddr (.slot 1) 2 },
      { op := .load none (.loc 0) },
      { op := .len false (.loc 1) },
      { op := .bin .gtr (.loc 2) (.con (.sc (.int .i64 0))) }], sets := [(5, 3)] }
def simpl_FormatDeal_r5 : Reg :=
  { id := 5, ops := [{ op := .mv (.slot 3) },
      { op := .fieldAddr (.slot 1) 2 },
      { op := .load none (.loc 1) },
      { op := .call 187 [(false, .loc 2), (false, .con (.sc (.string ⟨#[44]⟩)))] [] },
      { op := .bin .add (.con (.sc (.string ⟨#[58]⟩))) (.loc 3) },
      { op := .bin .add (.loc 0) (.loc 4) },
      { op := .mv (.loc 5) }], sets := [(3, 6)], clr := [1] }
def simpl_FormatDeal_r6 : Reg :=
  { id := 6, ops := [{ op := .mv (.slot 3) },
      { op := .mv (.loc 0) }], sets := [(2, 1)], clr := [3] }
def simpl_FormatDeal_b : SC := .seq (.reg simpl_FormatDeal_r0) (.seq (.seq (.reg simpl_FormatDeal_r1) (.cond 4 (.seq (.reg simpl_FormatDeal_r2) (.ret)) (.skip))) (.seq (.reg simpl_FormatDeal_r3) (.seq (.seq (.reg simpl_FormatDeal_r4) (.cond 5 (.reg simpl_FormatDeal_r5) (.skip))) (.seq (.reg simpl_FormatDeal_r6) (.ret)))))
def simpl_FormatDeal : SFn := { nslots := 6, nobjs := 1, params := [0], ngiven := 0, bor := false, takes := [], body := simpl_FormatDeal_b, results := [.slot 2] }
def simpl_FormatDeal_t : List Tmp := [0, 1, 2, 3, 6, 14]
attribute [simp] simpl_FormatDeal_r0 simpl_FormatDeal_r1 simpl_FormatDeal_r2 simpl_FormatDeal_r3 simpl_FormatDeal_r4 simpl_FormatDeal_r5 simpl_FormatDeal_r6 simpl_FormatDeal_b simpl_FormatDeal
def sspec_FormatDialed_r0 : Reg :=
  { id := 0, ops := [{ op := .box 0 (.slot 0) },
      { op := .mv (.con (.sc (.string ⟨#[]⟩))) }], sets := [(1, 0)], clr := [0, 2] }
def sspec_FormatDialed_r1 : Reg :=
  { id := 1, draw := true, ops := [{ op := .fieldAddr (.slot 1) 0, tau := some [], om := [] },
      { op := .load (some 3) (.loc 0), tau := some [0], om := [] },
      { op := .call 153 [(false, .loc 1)] [], tau := some [], om := [] },
      { op := .bin .add (.loc 2) (.con (.sc (.string ⟨#[47]⟩))), tau := some [], om := [] },
      { op := .fieldAddr (.slot 1) 3, tau := some [], om := [] },
      { op := .load none (.loc 4), tau := some [0], om := [] },
      { op := .call 93 [(false, .loc 5)] [], tau := some [], om := [] },
      { op := .bin .add (.loc 3) (.loc 6), tau := some [], om := [] },
      { op := .mv (.loc 7), tau := some [], om := [] }], sets := [(3, 8)] }
def sspec_FormatDialed_r2 : Reg :=
  { id := 2, ops := [{ op := .fieldAddr (.slot 1) 4 },
      { op := .load none (.loc 0) },
      { op := .len false (.loc 1) },
      { op := .bin .gtr (.loc 2) (.con (.sc (.int .i64 0))) }], sets := [(4, 3)] }
def sspec_FormatDialed_r3 : Reg :=
  { id := 3, ops := [{ op := .mv (.slot 3) },
      { op := .bin .add (.loc 0) (.con (.sc (.string ⟨#[33]⟩))) },
      { op := .fieldAddr (.slot 1) 4 },
      { op := .load none (.loc 2) },
      { op := .call 154 [(false, .loc 3), (false, .con (.sc (.string ⟨#[44]⟩)))] [] },
      { op := .bin .add (.loc 1) (.loc 4) },
      { op := .mv (.loc 5) }], sets := [(3, 6)], clr := [1] }
def sspec_FormatDialed_r4 : Reg :=
  { id := 4, ops := [{ op := .mv (.slot 3) },
      { op := .mv (.loc 0) }], sets := [(2, 1)], clr := [3] }
def sspec_FormatDialed_b : SC := .seq (.reg sspec_FormatDialed_r0) (.seq (.reg sspec_FormatDialed_r1) (.seq (.seq (.reg sspec_FormatDialed_r2) (.cond 4 (.reg sspec_FormatDialed_r3) (.skip))) (.seq (.reg sspec_FormatDialed_r4) (.ret))))
def sspec_FormatDialed : SFn := { nslots := 5, nobjs := 1, params := [0], ngiven := 0, bor := false, takes := [], body := sspec_FormatDialed_b, results := [.slot 2] }
def sspec_FormatDialed_t : List Tmp := [0, 1, 2, 3, 15]
attribute [simp] sspec_FormatDialed_r0 sspec_FormatDialed_r1 sspec_FormatDialed_r2 sspec_FormatDialed_r3 sspec_FormatDialed_r4 sspec_FormatDialed_b sspec_FormatDialed
def simpl_FormatDialed_r0 : Reg :=
  { id := 0, ops := [{ op := .box 0 (.slot 0) },
      { op := .mv (.con (.sc (.string ⟨#[]⟩))) }], sets := [(1, 0)], clr := [0, 2] }
def simpl_FormatDialed_r1 : Reg :=
  { id := 1, draw := true, ops := [{ op := .fieldAddr (.slot 1) 0, tau := some [], om := [] },
      { op := .load (some 3) (.loc 0), tau := some [0], om := [] },
      { op := .call 192 [(false, .loc 1)] [], tau := some [], om := [] },
      { op := .bin .add (.loc 2) (.con (.sc (.string ⟨#[47]⟩))), tau := some [], om := [] },
      { op := .fieldAddr (.slot 1) 3, tau := some [], om := [] },
      { op := .load none (.loc 4), tau := some [0], om := [] },
      { op := .call 120 [(false, .loc 5)] [], tau := some [], om := [] },
      { op := .bin .add (.loc 3) (.loc 6), tau := some [], om := [] },
      { op := .mv (.loc 7), tau := some [], om := [] }], sets := [(3, 8)] }
def simpl_FormatDialed_r2 : Reg :=
  { id := 2, ops := [{ op := .fieldAddr (.slot 1) 4 },
      { op := .load none (.loc 0) },
      { op := .len false (.loc 1) },
      { op := .bin .gtr (.loc 2) (.con (.sc (.int .i64 0))) }], sets := [(4, 3)] }
def simpl_FormatDialed_r3 : Reg :=
  { id := 3, ops := [{ op := .mv (.slot 3) },
      { op := .fieldAddr (.slot 1) 4 },
      { op := .load none (.loc 1) },
      { op := .call 187 [(false, .loc 2), (false, .con (.sc (.string ⟨#[44]⟩)))] [] },
      { op := .bin .add (.con (.sc (.string ⟨#[33]⟩))) (.loc 3) },
      { op := .bin .add (.loc 0) (.loc 4) },
      { op := .mv (.loc 5) }], sets := [(3, 6)], clr := [1] }
def simpl_FormatDialed_r4 : Reg :=
  { id := 4, ops := [{ op := .mv (.slot 3) },
      { op := .mv (.loc 0) }], sets := [(2, 1)], clr := [3] }
def simpl_FormatDialed_b : SC := .seq (.reg simpl_FormatDialed_r0) (.seq (.reg simpl_FormatDialed_r1) (.seq (.seq (.reg simpl_FormatDialed_r2) (.cond 4 (.reg simpl_FormatDialed_r3) (.skip))) (.seq (.reg simpl_FormatDialed_r4) (.ret))))
def simpl_FormatDialed : SFn := { nslots := 5, nobjs := 1, params := [0], ngiven := 0, bor := false, takes := [], body := simpl_FormatDialed_b, results := [.slot 2] }
def simpl_FormatDialed_t : List Tmp := [0, 1, 2, 3, 15]
attribute [simp] simpl_FormatDialed_r0 simpl_FormatDialed_r1 simpl_FormatDialed_r2 simpl_FormatDialed_r3 simpl_FormatDialed_r4 simpl_FormatDialed_b simpl_FormatDialed
def sspec_FormatInt_r0 : Reg :=
  { id := 0, ops := [{ op := .mv (.con (.sc (.string ⟨#[]⟩))) }], clr := [1] }
def sspec_FormatInt_r1 : Reg :=
  { id := 1, ops := [{ op := .mv (.slot 0) },
      { op := .bin .eql (.loc 0) (.con (.sc (.int .i64 0))) }], sets := [(5, 1)] }
def sspec_FormatInt_r2 : Reg :=
  { id := 2, ops := [{ op := .mv (.con (.sc (.string ⟨#[48]⟩))) }], sets := [(1, 0)], clr := [0] }
def sspec_FormatInt_r3 : Reg :=
  { id := 3, ops := [{ op := .mv (.con (.sc (.string ⟨#[]⟩))) }], sets := [(2, 0)] }
def sspec_FormatInt_r4 : Reg :=
  { id := 4, ops := [{ op := .mv (.slot 0) },
      { op := .mv (.loc 0) }], sets := [(3, 1)] }
def sspec_FormatInt_r5 : Reg :=
  { id := 5, ops := [{ op := .mv (.slot 3) },
      { op := .bin .neq (.loc 0) (.con (.sc (.int .i64 0))) }], sets := [(6, 1)] }
def sspec_FormatInt_r6 : Reg :=
  { id := 7, ops := [{ op := .mv (.slot 3) },
      { op := .bin .rem (.loc 0) (.con (.sc (.int .i64 10))) },
      { op := .mv (.loc 1) }], sets := [(4, 2)] }
def sspec_FormatInt_r7 : Reg :=
  { id := 8, ops := [{ op := .mv (.slot 4) },
      { op := .bin .lss (.loc 0) (.con (.sc (.int .i64 0))) }], sets := [(7, 1)] }
def sspec_FormatInt_r8 : Reg :=
  { id := 9, ops := [{ op := .mv (.slot 4) },
      { op := .un .neg (.loc 0) },
      { op := .mv (.loc 1) }], sets := [(4, 2)] }
def sspec_FormatInt_r9 : Reg :=
  { id := 10, fresh := [0], ops := [{ op := .mv (.slot 4) },
      { op := .bin .add (.con (.sc (.int .i64 48))) (.loc 0) },
      { op := .conv .u8 (.loc 1) },
      { op := .buildSlice 0 1 1 [.loc 2] },
      { op := .bstr (.loc 3) },
      { op := .mv (.slot 2) },
      { op := .bin .add (.loc 4) (.loc 5) },
      { op := .mv (.loc 6) }], sets := [(2, 7)], clr := [4] }
def sspec_FormatInt_r10 : Reg :=
  { id := 6, ops := [{ op := .mv (.slot 3) },
      { op := .bin .quo (.loc 0) (.con (.sc (.int .i64 10))) },
      { op := .mv (.loc 1) }], sets := [(3, 2)] }
def sspec_FormatInt_r11 : Reg :=
  { id := 11, ops := [{ op := .mv (.slot 0) },
      { op := .bin .lss (.loc 0) (.con (.sc (.int .i64 0))) }], sets := [(8, 1)], clr := [0, 3] }
def sspec_FormatInt_r12 : Reg :=
  { id := 12, ops := [{ op := .mv (.slot 2) },
      { op := .bin .add (.con (.sc (.string ⟨#[45]⟩))) (.loc 0) },
      { op := .mv (.loc 1) }], sets := [(1, 2)], clr := [2] }
def sspec_FormatInt_r13 : Reg :=
  { id := 13, ops := [{ op := .mv (.slot 2) },
      { op := .mv (.loc 0) }], sets := [(1, 1)], clr := [2] }
def sspec_FormatInt_b : SC := .seq (.reg sspec_FormatInt_r0) (.seq (.seq (.reg sspec_FormatInt_r1) (.cond 5 (.seq (.reg sspec_FormatInt_r2) (.ret)) (.skip))) (.seq (.reg sspec_FormatInt_r3) (.seq (.seq (.reg sspec_FormatInt_r4) (.block 0 (.loop (.seq (.seq (.reg sspec_FormatInt_r5) (.cond 6 (.skip) (.exit 0))) (.seq (.block 1 (.seq (.reg sspec_FormatInt_r6) (.seq (.seq (.reg sspec_FormatInt_r7) (.cond 7 (.reg sspec_FormatInt_r8) (.skip))) (.reg sspec_FormatInt_r9)))) (.reg sspec_FormatInt_r10)))))) (.seq (.seq (.reg sspec_FormatInt_r11) (.cond 8 (.seq (.reg sspec_FormatInt_r12) (.ret)) (.skip))) (.seq (.reg sspec_FormatInt_r13) (.ret))))))
def sspec_FormatInt : SFn := { nslots := 9, nobjs := 1, params := [0], ngiven := 0, bor := false, takes := [], body := sspec_FormatInt_b, results := [.slot 1] }
def sspec_FormatInt_t : List Tmp := [0, 2, 3, 4, 5, 7, 10, 16, 27]
attribute [simp] sspec_FormatInt_r0 sspec_FormatInt_r1 sspec_FormatInt_r2 sspec_FormatInt_r3 sspec_FormatInt_r4 sspec_FormatInt_r5 sspec_FormatInt_r6 sspec_FormatInt_r7 sspec_FormatInt_r8 sspec_FormatInt_r9 sspec_FormatInt_r10 sspec_FormatInt_r11 sspec_FormatInt_r12 sspec_FormatInt_r13 sspec_FormatInt_b sspec_FormatInt
def sspec_l39Join_r0 : Reg :=
  { id := 0, ops := [{ op := .mv (.con (.sc (.string ⟨#[]⟩))) }], clr := [2] }
def sspec_l39Join_r1 : Reg :=
  { id := 1, ops := [{ op := .mv (.con (.sc (.string ⟨#[]⟩))) }], sets := [(3, 0)] }
def sspec_l39Join_r2 : Reg :=
  { id := 2, ops := [{ op := .mv (.con (.sc (.int .i64 0))) }], sets := [(4, 0)] }
def sspec_l39Join_r3 : Reg :=
  { id := 3, ops := [{ op := .mv (.slot 4) },
      { op := .mv (.slot 0) },
      { op := .len false (.loc 1) },
      { op := .bin .lss (.loc 0) (.loc 2) }], sets := [(5, 3)] }
def sspec_l39Join_r4 : Reg :=
  { id := 5, ops := [{ op := .mv (.slot 4) },
      { op := .bin .gtr (.loc 0) (.con (.sc (.int .i64 0))) }], sets := [(6, 1)] }
def sspec_l39Join_r5 : Reg :=
  { id := 6, ops := [{ op := .mv (.slot 3) },
      { op := .mv (.slot 1) },
      { op := .bin .add (.loc 0) (.loc 1) },
      { op := .mv (.loc 2) }], sets := [(3, 3)] }
def sspec_l39Join_r6 : Reg :=
  { id := 7, ops := [{ op := .mv (.slot 3) },
      { op := .mv (.slot 0) },
      { op := .mv (.slot 4) },
      { op := .indexAddr 1 (.loc 1) (.loc 2) },
      { op := .load none (.loc 3) },
      { op := .call 93 [(false, .loc 4)] [] },
      { op := .bin .add (.loc 0) (.loc 5) },
      { op := .mv (.loc 6) }], sets := [(3, 7)] }
def sspec_l39Join_r7 : Reg :=
  { id := 4, ops := [{ op := .mv (.slot 4) },
      { op := .bin .add (.loc 0) (.con (.sc (.int .i64 1))) },
      { op := .mv (.loc 1) }], sets := [(4, 2)] }
def sspec_l39Join_r8 : Reg :=
  { id := 8, ops := [{ op := .mv (.slot 3) },
      { op := .mv (.loc 0) }], sets := [(2, 1)], clr := [0, 1, 3, 4] }
def sspec_l39Join_b : SC := .seq (.reg sspec_l39Join_r0) (.seq (.reg sspec_l39Join_r1) (.seq (.seq (.reg sspec_l39Join_r2) (.block 0 (.loop (.seq (.seq (.reg sspec_l39Join_r3) (.cond 5 (.skip) (.exit 0))) (.seq (.block 1 (.seq (.seq (.reg sspec_l39Join_r4) (.cond 6 (.reg sspec_l39Join_r5) (.skip))) (.reg sspec_l39Join_r6))) (.reg sspec_l39Join_r7)))))) (.seq (.reg sspec_l39Join_r8) (.ret))))
def sspec_l39Join : SFn := { nslots := 7, nobjs := 0, params := [0, 1], ngiven := 0, bor := false, takes := [], body := sspec_l39Join_b, results := [.slot 2] }
def sspec_l39Join_t : List Tmp := [0, 1, 4, 5, 6, 10, 14]
attribute [simp] sspec_l39Join_r0 sspec_l39Join_r1 sspec_l39Join_r2 sspec_l39Join_r3 sspec_l39Join_r4 sspec_l39Join_r5 sspec_l39Join_r6 sspec_l39Join_r7 sspec_l39Join_r8 sspec_l39Join_b sspec_l39Join
def simpl_FormatInt_r0 : Reg :=
  { id := 0, ops := [{ op := .mv (.con (.sc (.string ⟨#[]⟩))) }], clr := [1] }
def simpl_FormatInt_r1 : Reg :=
  { id := 1, ops := [{ op := .mv (.slot 0) },
      { op := .call 185 [(false, .loc 0)] [] },
      { op := .mv (.loc 1) }], sets := [(1, 2)], clr := [0] }
def simpl_FormatInt_b : SC := .seq (.reg simpl_FormatInt_r0) (.seq (.reg simpl_FormatInt_r1) (.ret))
def simpl_FormatInt : SFn := { nslots := 2, nobjs := 0, params := [0], ngiven := 0, bor := false, takes := [], body := simpl_FormatInt_b, results := [.slot 1] }
def simpl_FormatInt_t : List Tmp := [0, 2]
attribute [simp] simpl_FormatInt_r0 simpl_FormatInt_r1 simpl_FormatInt_b simpl_FormatInt
def simpl_joined_r0 : Reg :=
  { id := 0, ops := [{ op := .mv (.con (.sc (.string ⟨#[]⟩))) }], clr := [2] }
def simpl_joined_r1 : Reg :=
  { id := 1, ops := [{ op := .buildSlice 0 1 0 [] },
      { op := .mv (.loc 0) }], sets := [(3, 1)], ghosts := [.ren 0 3] }
def simpl_joined_r2 : Reg :=
  { id := 2, ops := [{ op := .mv (.slot 0) },
      { op := .len false (.loc 0) },
      { op := .mv (.con (.sc (.int .i64 0))) }], sets := [(5, 0), (6, 1), (7, 2)], clr := [0] }
def simpl_joined_r3 : Reg :=
  { id := 3, ops := [{ op := .bin .lss (.slot 7) (.slot 6) }], sets := [(8, 0)] }
def simpl_joined_r4 : Reg :=
  { id := 4, ops := [{ op := .indexAddr 1 (.slot 5) (.slot 7) },
      { op := .load none (.loc 0) },
      { op := .mv (.loc 1) }], sets := [(4, 2)] }
def simpl_joined_r5 : Reg :=
  { id := 5, fresh := [1, 2], ops := [{ op := .mv (.slot 3) },
      { op := .mv (.slot 4) },
      { op := .call 120 [(false, .loc 1)] [] },
      { op := .buildSlice 1 1 1 [.loc 2] },
      { op := .append 2 1 16 false (.loc 0) (.loc 3) },
      { op := .mv (.loc 4) }], sets := [(3, 5)], ghosts := [.ren 2 3], clr := [4] }
def simpl_joined_r6 : Reg :=
  { id := 6, ops := [{ op := .bin .add (.slot 7) (.con (.sc (.int .i64 1))) },
      { op := .mv (.loc 0) }], sets := [(7, 1)] }
def simpl_joined_r7 : Reg :=
  { id := 7, ops := [{ op := .mv (.slot 3) },
      { op := .mv (.slot 1) },
      { op := .call 241 [(false, .loc 0), (false, .loc 1)] [] },
      { op := .mv (.loc 2) }], sets := [(2, 3)], clr := [1, 3, 5, 6, 7] }
def simpl_joined_b : SC := .seq (.reg simpl_joined_r0) (.seq (.reg simpl_joined_r1) (.seq (.seq (.reg simpl_joined_r2) (.block 0 (.loop (.seq (.reg simpl_joined_r3) (.seq (.cond 8 (.skip) (.exit 0)) (.seq (.block 1 (.seq (.reg simpl_joined_r4) (.reg simpl_joined_r5))) (.reg simpl_joined_r6))))))) (.seq (.reg simpl_joined_r7) (.ret))))
def simpl_joined : SFn := { nslots := 9, nobjs := 4, params := [0, 1], ngiven := 0, bor := false, takes := [], body := simpl_joined_b, results := [.slot 2] }
def simpl_joined_t : List Tmp := [0, 1, 4, 5, 7, 9, 10, 11, 12]
attribute [simp] simpl_joined_r0 simpl_joined_r1 simpl_joined_r2 simpl_joined_r3 simpl_joined_r4 simpl_joined_r5 simpl_joined_r6 simpl_joined_r7 simpl_joined_b simpl_joined
end Go.Eng.T

namespace Go.Eng.T
abbrev glaws_FnExactRunConsole : Nat := 0
abbrev gspec_RunConsole : Nat := 1
abbrev gimpl_RunConsole : Nat := 2
abbrev glaws_eqStringS : Nat := 3
abbrev glaws_markStringS : Nat := 4
abbrev glaws_heldStringS : Nat := 5
abbrev glaws_FnExactConsoleLine : Nat := 6
abbrev glaws_szWorld : Nat := 7
abbrev glaws_toWorld : Nat := 8
abbrev gspec_ConsoleLine : Nat := 9
abbrev gimpl_ConsoleLine : Nat := 10
abbrev glaws_eqWorld : Nat := 11
abbrev glaws_markWorld : Nat := 12
abbrev glaws_heldWorld : Nat := 13
abbrev gstrings_Split : Nat := 14
abbrev glaws_markText : Nat := 15
abbrev glaws_szIntS : Nat := 16
abbrev glaws_szEndpointS : Nat := 17
abbrev glaws_szRollout : Nat := 18
abbrev glaws_szDialedS : Nat := 19
abbrev glaws_szLoggedS : Nat := 20
abbrev gspec_l40Words : Nat := 21
abbrev gspec_l32Copy : Nat := 22
abbrev gspec_l40Nums : Nat := 23
abbrev gspec_l40World : Nat := 24
abbrev gspec_TryAll : Nat := 25
abbrev gspec_l40Event : Nat := 26
abbrev gspec_ApplyEvent : Nat := 27
abbrev gspec_l40Said : Nat := 28
abbrev gspec_l40None : Nat := 29
abbrev gspec_l40One : Nat := 30
abbrev glaws_toIntS : Nat := 31
abbrev glaws_toEndpointS : Nat := 32
abbrev glaws_toRollout : Nat := 33
abbrev glaws_toDialedS : Nat := 34
abbrev glaws_toLoggedS : Nat := 35
abbrev gimpl_ConsoleLine_1 : Nat := 36
abbrev gslices_DeleteFunc___string_string_ : Nat := 37
abbrev gimpl_copyWorld : Nat := 38
abbrev gimpl_numbersOf : Nat := 39
abbrev gimpl_eventOf : Nat := 40
abbrev gimpl_ApplyEvent : Nat := 41
abbrev gimpl_told : Nat := 42
abbrev gimpl_newWorldOf : Nat := 43
abbrev gimpl_TryAll : Nat := 44
abbrev gimpl_askNumber : Nat := 45
abbrev gimpl_ask : Nat := 46
abbrev glaws_eqIntS : Nat := 47
abbrev glaws_eqEndpointS : Nat := 48
abbrev glaws_eqRollout : Nat := 49
abbrev glaws_eqDialedS : Nat := 50
abbrev glaws_eqLoggedS : Nat := 51
abbrev glaws_markIntS : Nat := 52
abbrev glaws_markEndpointS : Nat := 53
abbrev glaws_markRollout : Nat := 54
abbrev glaws_markDialedS : Nat := 55
abbrev glaws_markLoggedS : Nat := 56
abbrev glaws_heldIntS : Nat := 57
abbrev glaws_heldEndpointS : Nat := 58
abbrev glaws_heldRollout : Nat := 59
abbrev glaws_heldDialedS : Nat := 60
abbrev glaws_heldLoggedS : Nat := 61
abbrev glaws_szEndpoint : Nat := 62
abbrev glaws_szDialed : Nat := 63
abbrev glaws_szLogged : Nat := 64
abbrev gspec_l32End : Nat := 65
abbrev gspec_l26Copy : Nat := 66
abbrev gspec_l32Dialed : Nat := 67
abbrev gspec_ParseInt : Nat := 68
abbrev gspec_ExampleEnds : Nat := 69
abbrev gspec_NewWorld : Nat := 70
abbrev gspec_l1In : Nat := 71
abbrev gspec_StepDial : Nat := 72
abbrev gspec_EventName : Nat := 73
abbrev gspec_StepStart : Nat := 74
abbrev gspec_StepStage : Nat := 75
abbrev gspec_StepRetire : Nat := 76
abbrev gspec_StepRevive : Nat := 77
abbrev gspec_StepBox : Nat := 78
abbrev gspec_StepClear : Nat := 79
abbrev gspec_StepTick : Nat := 80
abbrev gspec_FormatDialed : Nat := 81
abbrev gspec_SignalNow : Nat := 82
abbrev gspec_SignalName : Nat := 83
abbrev gspec_HardEnds : Nat := 84
abbrev gspec_FormatList : Nat := 85
abbrev gspec_VersionCounts : Nat := 86
abbrev gspec_HurtEnds : Nat := 87
abbrev gspec_FormatWorld : Nat := 88
abbrev gspec_FaultOf : Nat := 89
abbrev gspec_l40Or : Nat := 90
abbrev gspec_FormatEnd : Nat := 91
abbrev gspec_BestNow : Nat := 92
abbrev gspec_FormatInt : Nat := 93
abbrev gspec_HasVersion : Nat := 94
abbrev gspec_ListsOf : Nat := 95
abbrev gspec_Stranded : Nat := 96
abbrev gspec_ReportNow : Nat := 97
abbrev glaws_toEndpoint : Nat := 98
abbrev glaws_toDialed : Nat := 99
abbrev glaws_toLogged : Nat := 100
abbrev gimpl_copyRollout : Nat := 101
abbrev gimpl_copyEndpoint : Nat := 102
abbrev gimpl_copyDialed : Nat := 103
abbrev gimpl_ParseInt : Nat := 104
abbrev gslices_Index___string_string_ : Nat := 105
abbrev gimpl_StepDial : Nat := 106
abbrev gimpl_StepStart : Nat := 107
abbrev gimpl_StepStage : Nat := 108
abbrev gimpl_StepRetire : Nat := 109
abbrev gimpl_StepRevive : Nat := 110
abbrev gimpl_StepBox : Nat := 111
abbrev gimpl_StepClear : Nat := 112
abbrev gimpl_StepTick : Nat := 113
abbrev gimpl_InRange : Nat := 114
abbrev gimpl_ExampleEnds : Nat := 115
abbrev gimpl_NewWorld : Nat := 116
abbrev gimpl_hasEnd : Nat := 117
abbrev gimpl_FormatEnd : Nat := 118
abbrev gimpl_BestNow : Nat := 119
abbrev gimpl_FormatInt : Nat := 120
abbrev gimpl_HasVersion : Nat := 121
abbrev gimpl_FormatList : Nat := 122
abbrev gimpl_ListsOf : Nat := 123
abbrev gimpl_Stranded : Nat := 124
abbrev gimpl_ReportNow : Nat := 125
abbrev gimpl_FormatDialed : Nat := 126
abbrev gimpl_SignalNow : Nat := 127
abbrev gimpl_SignalName : Nat := 128
abbrev gimpl_HardEnds : Nat := 129
abbrev gimpl_VersionCounts : Nat := 130
abbrev gimpl_HurtEnds : Nat := 131
abbrev gimpl_FormatWorld : Nat := 132
abbrev gimpl_FaultOf : Nat := 133
abbrev glaws_eqEndpoint : Nat := 134
abbrev glaws_eqDialed : Nat := 135
abbrev glaws_eqLogged : Nat := 136
abbrev glaws_markBoxS : Nat := 137
abbrev glaws_heldBoxS : Nat := 138
abbrev glaws_szBoxS : Nat := 139
abbrev glaws_szDeal : Nat := 140
abbrev gspec_IsWorld : Nat := 141
abbrev gspec_DialOf : Nat := 142
abbrev gspec_IsOnNew : Nat := 143
abbrev gspec_IsBadDial : Nat := 144
abbrev gspec_IsRollout : Nat := 145
abbrev gspec_EnterStage : Nat := 146
abbrev gspec_NextStage : Nat := 147
abbrev gspec_BackStage : Nat := 148
abbrev gspec_LeaveRollout : Nat := 149
abbrev gspec_RetireVersion : Nat := 150
abbrev gspec_AddVersion : Nat := 151
abbrev gspec_IsBox : Nat := 152
abbrev gspec_FormatDeal : Nat := 153
abbrev gspec_l39Join : Nat := 154
abbrev gspec_MaskedBy : Nat := 155
abbrev gspec_SignalOf : Nat := 156
abbrev gspec_HardenedBoxes : Nat := 157
abbrev gspec_l37Bad : Nat := 158
abbrev gspec_l4Put : Nat := 159
abbrev gspec_FormatRollout : Nat := 160
abbrev gspec_IsBounded : Nat := 161
abbrev gspec_IsTogether : Nat := 162
abbrev gspec_IsCounted : Nat := 163
abbrev gspec_IsSober : Nat := 164
abbrev gspec_BestFor : Nat := 165
abbrev gspec_l9Has : Nat := 166
abbrev gspec_l12Without : Nat := 167
abbrev gspec_BestCommon : Nat := 168
abbrev gspec_HideSmall : Nat := 169
abbrev glaws_toBoxS : Nat := 170
abbrev glaws_toDeal : Nat := 171
abbrev gimpl_copyPath : Nat := 172
abbrev gimpl_DialOf : Nat := 173
abbrev gimpl_IsOnNew : Nat := 174
abbrev gimpl_IsBadDial : Nat := 175
abbrev gimpl_IsRollout : Nat := 176
abbrev gimpl_EnterStage : Nat := 177
abbrev gimpl_NextStage : Nat := 178
abbrev gimpl_BackStage : Nat := 179
abbrev gimpl_LeaveRollout : Nat := 180
abbrev gimpl_RetireVersion : Nat := 181
abbrev gimpl_AddVersion : Nat := 182
abbrev gimpl_IsBox : Nat := 183
abbrev gimpl_IsWorld : Nat := 184
abbrev gstrconv_Itoa : Nat := 185
abbrev gimpl_BestFor : Nat := 186
abbrev gimpl_joined : Nat := 187
abbrev gslices_Contains___int_int_ : Nat := 188
abbrev gimpl_without : Nat := 189
abbrev gimpl_BestCommon : Nat := 190
abbrev gimpl_HideSmall : Nat := 191
abbrev gimpl_FormatDeal : Nat := 192
abbrev gimpl_MaskedBy : Nat := 193
abbrev gimpl_SignalOf : Nat := 194
abbrev gimpl_HardenedBoxes : Nat := 195
abbrev gimpl_isHurt : Nat := 196
abbrev gslices_Sort___int_int_ : Nat := 197
abbrev gslices_Compact___int_int_ : Nat := 198
abbrev gimpl_FormatRollout : Nat := 199
abbrev gimpl_IsBounded : Nat := 200
abbrev gimpl_IsTogether : Nat := 201
abbrev gimpl_IsCounted : Nat := 202
abbrev gimpl_IsSober : Nat := 203
abbrev glaws_eqBoxS : Nat := 204
abbrev glaws_eqDeal : Nat := 205
abbrev glaws_szBox : Nat := 206
abbrev gspec_IsEndpoint : Nat := 207
abbrev gspec_AreVersions : Nat := 208
abbrev gspec_l32Tags : Nat := 209
abbrev gspec_IsValidKey : Nat := 210
abbrev gspec_AllReach : Nat := 211
abbrev gspec_l33Clip : Nat := 212
abbrev gspec_EndDial : Nat := 213
abbrev gspec_IsIn : Nat := 214
abbrev gspec_Max : Nat := 215
abbrev gspec_MayRetire : Nat := 216
abbrev gspec_l9Byte : Nat := 217
abbrev gspec_RefusesGrease : Nat := 218
abbrev gspec_MostHurt : Nat := 219
abbrev gspec_IsClearPath : Nat := 220
abbrev gspec_IsHardened : Nat := 221
abbrev gspec_LostVersions : Nat := 222
abbrev gspec_l21Left : Nat := 223
abbrev gspec_CommonOf : Nat := 224
abbrev gspec_AreCounts : Nat := 225
abbrev glaws_toBox : Nat := 226
abbrev gimpl_EndDial : Nat := 227
abbrev gimpl_IsIn : Nat := 228
abbrev gimpl_isBad : Nat := 229
abbrev gimpl_withVersion : Nat := 230
abbrev gimpl_MayRetire : Nat := 231
abbrev gimpl_AreVersions : Nat := 232
abbrev gimpl_areNumbers : Nat := 233
abbrev gimpl_AllReach : Nat := 234
abbrev gimpl_areTags : Nat := 235
abbrev gimpl_IsValidKey : Nat := 236
abbrev gimpl_IsWorld_1 : Nat := 237
abbrev gslices_ContainsFunc___impl_Endpoint_impl_Endpoint_ : Nat := 238
abbrev gimpl_IsEndpoint : Nat := 239
abbrev gimpl_LostVersions : Nat := 240
abbrev gstrings_Join : Nat := 241
abbrev gimpl_CommonOf : Nat := 242
abbrev gimpl_canHide : Nat := 243
abbrev gimpl_RefusesGrease : Nat := 244
abbrev gimpl_MostHurt : Nat := 245
abbrev gimpl_IsClearPath : Nat := 246
abbrev gimpl_IsSober_1 : Nat := 247
abbrev gslices_ContainsFunc___impl_Logged_impl_Logged_ : Nat := 248
abbrev glaws_eqBox : Nat := 249
abbrev gspec_IsReserved : Nat := 250
abbrev gspec_HelloOf : Nat := 251
abbrev gspec_Dial : Nat := 252
abbrev gspec_Min : Nat := 253
abbrev gspec_CountIn : Nat := 254
abbrev gspec_UseOf : Nat := 255
abbrev gspec_PlainHello : Nat := 256
abbrev gspec_l29One : Nat := 257
abbrev gspec_PassBox : Nat := 258
abbrev gspec_IsClear : Nat := 259
abbrev gspec_IsOpenPath : Nat := 260
abbrev gimpl_HelloOf : Nat := 261
abbrev gimpl_Dial : Nat := 262
abbrev gimpl_CountIn : Nat := 263
abbrev gslices_Insert___int_int_ : Nat := 264
abbrev gimpl_UseOf : Nat := 265
abbrev gimpl_areNumbers_1 : Nat := 266
abbrev gslices_ContainsFunc___int_int_ : Nat := 267
abbrev gimpl_AllReach_1 : Nat := 268
abbrev gslices_ContainsFunc_____int___int_ : Nat := 269
abbrev gimpl_IsHardened : Nat := 270
abbrev gimpl_IsEndpoint_1 : Nat := 271
abbrev gslices_ContainsFunc___impl_Box_impl_Box_ : Nat := 272
abbrev gimpl_PlainHello : Nat := 273
abbrev gimpl_PassPath : Nat := 274
abbrev gimpl_AreCounts : Nat := 275
abbrev gimpl_reservedTags : Nat := 276
abbrev gimpl_RefusesGrease_1 : Nat := 277
abbrev gimpl_IsClearPath_1 : Nat := 278
abbrev gimpl_IsReserved : Nat := 279
abbrev gspec_HelloFor : Nat := 280
abbrev gspec_DialOnce : Nat := 281
abbrev gspec_GivenUp : Nat := 282
abbrev gspec_AddGrease : Nat := 283
abbrev gspec_CeilDiv : Nat := 284
abbrev gspec_IsHello : Nat := 285
abbrev gspec_PassPath : Nat := 286
abbrev gimpl_HelloFor : Nat := 287
abbrev gimpl_DialOnce : Nat := 288
abbrev gimpl_GivenUp : Nat := 289
abbrev gimpl_AddGrease : Nat := 290
abbrev gimpl_CeilDiv : Nat := 291
abbrev gimpl_IsHello : Nat := 292
abbrev gimpl_copyHello : Nat := 293
abbrev gimpl_PassBox : Nat := 294
abbrev gimpl_loses : Nat := 295
abbrev gslices_Clone___int_int_ : Nat := 296
abbrev gimpl_PassBox_1 : Nat := 297
abbrev gimpl_keptExts : Nat := 298
abbrev gimpl_IsClear : Nat := 299
abbrev gspec_PassesWhole : Nat := 300
abbrev gspec_l18Hello : Nat := 301
abbrev gspec_FallbackHello : Nat := 302
abbrev gspec_ChooseAnswer : Nat := 303
abbrev gspec_FitsHello : Nat := 304
abbrev gspec_HelloBytes : Nat := 305
abbrev gspec_AnswerBytes : Nat := 306
abbrev gspec_FinishOf : Nat := 307
abbrev gspec_TagsOf : Nat := 308
abbrev gspec_ExtOf : Nat := 309
abbrev gspec_GreaseTag : Nat := 310
abbrev gspec_l11Copy : Nat := 311
abbrev gspec_AreExts : Nat := 312
abbrev gspec_PickOf : Nat := 313
abbrev gimpl_PassesWhole : Nat := 314
abbrev gimpl_FallbackHello : Nat := 315
abbrev gimpl_dealt : Nat := 316
abbrev gimpl_TagsOf : Nat := 317
abbrev gimpl_copyExts : Nat := 318
abbrev gimpl_GreaseTag : Nat := 319
abbrev gimpl_AreExts : Nat := 320
abbrev gimpl_ExtOf : Nat := 321
abbrev gimpl_PickOf : Nat := 322
abbrev gslices_Repeat___int_int_ : Nat := 323
abbrev gslices_Insert___impl_Ext_impl_Ext_ : Nat := 324
abbrev gslices_Max___int_int_ : Nat := 325
abbrev gimpl_loses_1 : Nat := 326
abbrev gslices_ContainsFunc___impl_Ext_impl_Ext_ : Nat := 327
abbrev gspec_EqualHellos : Nat := 328
abbrev gspec_LostTags : Nat := 329
abbrev gspec_PartHello : Nat := 330
abbrev gspec_KnownOf : Nat := 331
abbrev gspec_StripGrease : Nat := 332
abbrev gspec_IsAnswer : Nat := 333
abbrev gspec_IsTranscript : Nat := 334
abbrev gspec_TranscriptHash : Nat := 335
abbrev gspec_KeyedHash : Nat := 336
abbrev gspec_EncodeExts : Nat := 337
abbrev gspec_Hash : Nat := 338
abbrev gspec_Mod : Nat := 339
abbrev gimpl_EqualHellos : Nat := 340
abbrev gimpl_LostTags : Nat := 341
abbrev gimpl_PartHello : Nat := 342
abbrev gimpl_ChooseAnswer : Nat := 343
abbrev gimpl_EditAnswer : Nat := 344
abbrev gimpl_HelloBytes : Nat := 345
abbrev gimpl_AnswerBytes : Nat := 346
abbrev gimpl_FinishOf : Nat := 347
abbrev gimpl_FitsHello : Nat := 348
abbrev gimpl_ChecksOut : Nat := 349
abbrev gimpl_copyExts_1 : Nat := 350
abbrev gimpl_ExtOf_1 : Nat := 351
abbrev gslices_IndexFunc___impl_Ext_impl_Ext_ : Nat := 352
abbrev gimpl_Hash : Nat := 353
abbrev gimpl_Mod : Nat := 354
abbrev gspec_EqualInts : Nat := 355
abbrev gspec_EqualExts : Nat := 356
abbrev gslices_Equal___int_int_ : Nat := 357
abbrev gimpl_EqualExts : Nat := 358
abbrev gimpl_PartHello_1 : Nat := 359
abbrev gimpl_IsOpenPath : Nat := 360
abbrev gimpl_KnownOf : Nat := 361
abbrev gimpl_StripGrease : Nat := 362
abbrev gimpl_EditAnswer_1 : Nat := 363
abbrev gimpl_IsTranscript : Nat := 364
abbrev gimpl_TranscriptHash : Nat := 365
abbrev gimpl_KeyedHash : Nat := 366
abbrev gimpl_EncodeExts : Nat := 367
abbrev gslices_Concat___int_int_ : Nat := 368
abbrev gimpl_IsAnswer : Nat := 369
abbrev gimpl_HasGrease : Nat := 370
abbrev gimpl_equalExt : Nat := 371
abbrev gslices_EqualFunc___impl_Ext___impl_Ext_impl_Ext_impl_Ext_ : Nat := 372
abbrev gimpl_StripGrease_1 : Nat := 373
abbrev gimpl_KnownOf_1 : Nat := 374
abbrev gimpl_IsTranscript_1 : Nat := 375
abbrev glaws_FnExactEventName : Nat := 376
abbrev gimpl_EventName : Nat := 377
abbrev glaws_FnExactIsBadDial : Nat := 378
abbrev glaws_FnExactCountKind : Nat := 379
abbrev glaws_szEventS : Nat := 380
abbrev glaws_toEventS : Nat := 381
abbrev gspec_CountKind : Nat := 382
abbrev gimpl_CountKind : Nat := 383
abbrev glaws_eqEventS : Nat := 384
abbrev glaws_FnExactExampleEnds : Nat := 385
abbrev glaws_szEvent : Nat := 386
abbrev glaws_toEvent : Nat := 387
abbrev glaws_eqEvent : Nat := 388
abbrev gslices_Index___int_int_ : Nat := 389
abbrev gslices_IndexFunc___string_string_ : Nat := 390
abbrev gmath_bits_Len : Nat := 391
abbrev gslices_pdqsortOrdered_int_ : Nat := 392
abbrev gslices_IndexFunc___impl_Endpoint_impl_Endpoint_ : Nat := 393
abbrev gslices_insertionSortOrdered_int_ : Nat := 394
abbrev gslices_heapSortOrdered_int_ : Nat := 395
abbrev gslices_breakPatternsOrdered_int_ : Nat := 396
abbrev gslices_choosePivotOrdered_int_ : Nat := 397
abbrev gslices_reverseRangeOrdered_int_ : Nat := 398
abbrev gslices_partialInsertionSortOrdered_int_ : Nat := 399
abbrev gcmp_Less_int_ : Nat := 400
abbrev gslices_partitionEqualOrdered_int_ : Nat := 401
abbrev gslices_partitionOrdered_int_ : Nat := 402
abbrev gslices_IndexFunc___impl_Logged_impl_Logged_ : Nat := 403
abbrev gslices_IndexFunc___int_int_ : Nat := 404
abbrev gslices_IndexFunc_____int___int_ : Nat := 405
abbrev gslices_IndexFunc___impl_Box_impl_Box_ : Nat := 406
abbrev gslices_siftDownOrdered_int_ : Nat := 407
abbrev gslices_nextPowerOfTwo : Nat := 408
abbrev g__slices_xorshift__Next : Nat := 409
abbrev gslices_medianAdjacentOrdered_int_ : Nat := 410
abbrev gslices_medianOrdered_int_ : Nat := 411
abbrev gslices_rotateRight_int_ : Nat := 412
abbrev gslices_rotateLeft_int_ : Nat := 413
abbrev gslices_order2Ordered_int_ : Nat := 414
abbrev gslices_Reverse___int_int_ : Nat := 415
abbrev gslices_rotateRight_impl_Ext_ : Nat := 416
abbrev gslices_rotateLeft_impl_Ext_ : Nat := 417
abbrev gslices_Reverse___impl_Ext_impl_Ext_ : Nat := 418
abbrev gslices_Grow___int_int_ : Nat := 419
abbrev glaws_FnExactTriesOf : Nat := 420
abbrev gspec_TriesOf : Nat := 421
abbrev gimpl_TriesOf : Nat := 422
abbrev glaws_FnExactDialsBy : Nat := 423
abbrev gspec_DialsBy : Nat := 424
abbrev gimpl_DialsBy : Nat := 425
abbrev glaws_FnExactOkShare : Nat := 426
abbrev gspec_OkShare : Nat := 427
abbrev gimpl_OkShare : Nat := 428
abbrev glaws_FnExactIsSober : Nat := 429
abbrev glaws_FnExactIsCounted : Nat := 430
abbrev glaws_FnExactIsOnNew : Nat := 431
abbrev glaws_FnExactOnNewCount : Nat := 432
abbrev gspec_OnNewCount : Nat := 433
abbrev gimpl_OnNewCount : Nat := 434
abbrev glaws_FnExactSignalNow : Nat := 435
abbrev glaws_FnExactHasVersion : Nat := 436
abbrev glaws_FnExactHardEnds : Nat := 437
abbrev glaws_FnExactStepTick : Nat := 438
abbrev glaws_FnExactStepClear : Nat := 439
abbrev glaws_FnExactStepBox : Nat := 440
abbrev glaws_markBox : Nat := 441
abbrev glaws_FnExactNewWorld : Nat := 442
abbrev glaws_FnExactLeaveRollout : Nat := 443
abbrev glaws_FnExactStepRetire : Nat := 444
abbrev glaws_FnExactBestNow : Nat := 445
abbrev glaws_FnExactVersionCounts : Nat := 446
abbrev glaws_FnExactReportNow : Nat := 447
abbrev glaws_FnExactFormatDeal : Nat := 448
abbrev glaws_FnExactFormatDialed : Nat := 449
abbrev glaws_FnExactFormatEnd : Nat := 450
abbrev glaws_FnExactFormatWorld : Nat := 451
abbrev glaws_FnExactFormatList : Nat := 452
abbrev glaws_FnExactFormatRollout : Nat := 453
abbrev glaws_FnExactEnterStage : Nat := 454
abbrev glaws_FnExactHurtEnds : Nat := 455
abbrev glaws_FnExactStepStart : Nat := 456
abbrev glaws_FnExactIsBounded : Nat := 457
abbrev glaws_FnExactStepRevive : Nat := 458
end Go.Eng.T

namespace Go.Eng.T

abbrev I (a : Int) : V := .sc (.int .i64 a)
abbrev B (a : Bool) : V := .sc (.bool a)
abbrev S (a : ByteArray) : V := .sc (.string a)
abbrev Rel := List V → List O → V → List O → Prop

def ints (xs : List Int) : List V := xs.map fun x => .sc (.int .i64 x)

@[simp] theorem ints_len (xs : List Int) : (ints xs).length = xs.length := by simp [ints]
@[simp] theorem ints_nil : ints [] = [] := rfl
theorem ints_get (xs : List Int) (j : Nat) : (ints xs)[j]? = (xs[j]?).map fun x => V.sc (.int .i64 x) := by simp [ints]
@[simp] theorem ints_at {xs : List Int} {j : Nat} (h : j < xs.length) : (ints xs)[j]? = some (V.sc (.int .i64 xs[j])) := by simp [ints, h]
@[simp] theorem ints_elem {xs : List Int} {j : Nat} (h : j < (ints xs).length) : (ints xs)[j] = V.sc (.int .i64 (xs[j]'(by simpa using h))) := by simp [ints]
@[simp] theorem ints_ro (xs : List Int) (k : Nat) : (ints xs).map (roCell k) = ints xs := by simp [ints, Function.comp_def, roCell]
theorem ints_app (xs ys : List Int) : ints xs ++ ints ys = ints (xs ++ ys) := by simp [ints]
@[simp] theorem ints_push (xs : List Int) (y : Int) : ints xs ++ [V.sc (.int .i64 y)] = ints (xs ++ [y]) := by simp [ints]
@[simp] theorem ints_set (xs : List Int) (j : Nat) (y : Int) : (ints xs).set j (V.sc (.int .i64 y)) = ints (xs.set j y) := by simp [ints]
@[simp] theorem ints_rep (n : Nat) : (List.replicate n [V.sc (.int .i64 0)]).flatten = ints (List.replicate n 0) := by
  induction n with
  | zero => rfl
  | succ n ih => simp [List.replicate_succ, ints] at *
@[simp] theorem ints_sc (xs : List Int) : (ints xs).all isSc = true := by simp [ints, isSc]
@[simp] theorem ints_part (xs : List Int) (o n : Nat) : part (ints xs) 1 o n = ints ((xs.drop o).take n) := by simp [part, ints]
@[simp] theorem ints_isSc : ∀ xs : List Int, (∀ x, x ∈ ints xs → isSc x = true) = True := by simp [ints, isSc]

@[simp] theorem getAt_lit (a : V) (cs : List V) (off n : Nat) : getAt (a :: cs) off n = if off + n ≤ cs.length + 1 then some (((a :: cs).drop off).take n) else none := by simp [getAt]

structure Deal where
  ok : Bool
  version : Int
  tags : List Int
  deriving DecidableEq
structure Box where
  limit : Int
  drops : List Int
  strips : List Int
  lists : Bool
  deriving DecidableEq
structure Dialed where
  deal : Deal
  tries : Int
  up : List Int
  deriving DecidableEq
structure Rollout where
  version : Int
  stages : List Int
  pos : Int
  off : Bool
  deriving DecidableEq
structure Endpoint where
  versions : List Int
  tags : List Int
  path : List Box
  cls : Int
  deriving DecidableEq
structure Logged where
  fin : Int
  tick : Int
  on : Bool
  dialed : Dialed
  deriving DecidableEq
structure World where
  server : List Int
  tags : List Int
  key : Int
  ends : List Endpoint
  rollout : Rollout
  least : Int
  percent : Int
  stage : List Dialed
  log : List Logged
  now : Int
  hurt : Int
  reached : Int
  deriving DecidableEq
structure Event where
  kind : Int
  n : Int
  box : Box
  deriving DecidableEq

abbrev sl (fl e n : Nat) (cs : List V) : V := .sl fl e n cs
def eDeal (d : Deal) : List V := [.sc (.bool d.ok), .sc (.int .i64 d.version), .sl 0 1 d.tags.length (ints d.tags)]
def eBox (d : Box) : List V := [.sc (.int .i64 d.limit), .sl 0 1 d.drops.length (ints d.drops), .sl 0 1 d.strips.length (ints d.strips), .sc (.bool d.lists)]
def eDialed (d : Dialed) : List V := [.sc (.bool d.deal.ok), .sc (.int .i64 d.deal.version), .sl 0 1 d.deal.tags.length (ints d.deal.tags), .sc (.int .i64 d.tries), .sl 0 1 d.up.length (ints d.up)]
def eRollout (d : Rollout) : List V := [.sc (.int .i64 d.version), .sl 0 1 d.stages.length (ints d.stages), .sc (.int .i64 d.pos), .sc (.bool d.off)]
def eEndpoint (d : Endpoint) : List V := [.sl 0 1 d.versions.length (ints d.versions), .sl 0 1 d.tags.length (ints d.tags), .sl 0 4 d.path.length (d.path.flatMap eBox), .sc (.int .i64 d.cls)]
def eLogged (d : Logged) : List V := [.sc (.int .i64 d.fin), .sc (.int .i64 d.tick), .sc (.bool d.on), .sc (.bool d.dialed.deal.ok), .sc (.int .i64 d.dialed.deal.version), .sl 0 1 d.dialed.deal.tags.length (ints d.dialed.deal.tags), .sc (.int .i64 d.dialed.tries), .sl 0 1 d.dialed.up.length (ints d.dialed.up)]
def eWorld (d : World) : List V := [.sl 0 1 d.server.length (ints d.server), .sl 0 1 d.tags.length (ints d.tags), .sc (.int .i64 d.key), .sl 0 4 d.ends.length (d.ends.flatMap eEndpoint), .sc (.int .i64 d.rollout.version), .sl 0 1 d.rollout.stages.length (ints d.rollout.stages), .sc (.int .i64 d.rollout.pos), .sc (.bool d.rollout.off), .sc (.int .i64 d.least), .sc (.int .i64 d.percent), .sl 0 5 d.stage.length (d.stage.flatMap eDialed), .sl 0 8 d.log.length (d.log.flatMap eLogged), .sc (.int .i64 d.now), .sc (.int .i64 d.hurt), .sc (.int .i64 d.reached)]
def eEvent (d : Event) : List V := [.sc (.int .i64 d.kind), .sc (.int .i64 d.n), .sc (.int .i64 d.box.limit), .sl 0 1 d.box.drops.length (ints d.box.drops), .sl 0 1 d.box.strips.length (ints d.box.strips), .sc (.bool d.box.lists)]

/-- an argument's cells -/
abbrev arg (cs : List V) : V := .agg (cs.map (roCell 1))

section
variable {α : Type} {f : α → List V} {e : Nat}
theorem flat_ro (hf : ∀ x, (f x).map (roCell 0) = f x) (xs : List α) : (xs.flatMap f).map (roCell 0) = xs.flatMap f := by
  induction xs with
  | nil => rfl
  | cons x xs ih => simp [hf, ih]
theorem putAt_app (cs ds : List V) (o : Nat) : ∀ (azs : List V), o + azs.length ≤ ds.length → putAt (cs ++ ds) (cs.length + o) azs = cs ++ putAt ds o azs := by
  intro azs
  induction azs generalizing ds o with
  | nil => intro _; simp [putAt]
  | cons a azs ih =>
    intro h
    simp only [putAt, List.length_cons] at *
    rw [List.set_append_right _ _ (by omega), show cs.length + o - cs.length = o by omega, show cs.length + o + 1 = cs.length + (o + 1) by omega]
    exact ih _ _ (by simp; omega)
theorem putAt_zero : ∀ (ds azs : List V), azs.length ≤ ds.length → putAt ds 0 azs = azs ++ ds.drop azs.length := by
  have key : ∀ (azs pre ds : List V), azs.length ≤ ds.length → putAt (pre ++ ds) pre.length azs = pre ++ azs ++ ds.drop azs.length := by
    intro azs
    induction azs with
    | nil => intro pre ds _; simp [putAt]
    | cons a azs ih =>
      intro pre ds h
      cases ds with
      | nil => simp at h
      | cons d ds =>
        have := ih (pre ++ [a]) ds (by simpa using h)
        simp only [putAt]
        rw [List.set_append_right _ _ (Nat.le_refl _), Nat.sub_self, List.set_cons_zero]
        simpa using this
  intro ds azs h
  simpa using key azs [] ds h
theorem putAt_flat (hf : ∀ x, (f x).length = e) {xs : List α} {i : Nat} (hi : i < xs.length) (x : α) : putAt (xs.flatMap f) (i * e) (f x) = (xs.set i x).flatMap f := by
  induction xs generalizing i with
  | nil => simp at hi
  | cons y ys ih =>
    cases i with
    | zero =>
      rw [Nat.zero_mul, putAt_zero _ _ (by simp [hf])]
      simp [hf]
    | succ i =>
      simp only [List.flatMap_cons, List.set_cons_succ]
      rw [show (i + 1) * e = (f y).length + i * e by rw [hf, Nat.add_mul]; omega, putAt_app]
      · rw [ih (by simpa using hi)]
      · rw [flat_len hf, hf]
        have := Nat.mul_le_mul_right e (show i + 1 ≤ ys.length by simp at hi; omega)
        rw [Nat.add_mul] at this; omega
theorem rep_flat (z : α) (n : Nat) : (List.replicate n (f z)).flatten = (List.replicate n z).flatMap f := by
  induction n with
  | zero => rfl
  | succ n ih => simp [List.replicate_succ, ih]
end

/-- nothing lies there -/
def fd (o : O) : Prop := o = .free ∨ o = .dead
@[simp] theorem fd_free : fd .free := .inl rfl
@[simp] theorem fd_dead : fd .dead := .inr rfl

/-- a copy under way -/
def mix {α : Type} (z : α) (xs : List α) (j : Nat) : List α := xs.take j ++ List.replicate (xs.length - j) z
section
variable {α : Type} {z : α} {xs : List α} {j : Nat}
@[simp] theorem mix_len (h : j ≤ xs.length) : (mix z xs j).length = xs.length := by simp [mix]; omega
theorem mix_zero : mix z xs 0 = List.replicate xs.length z := by simp [mix]
theorem mix_all (h : xs.length ≤ j) : mix z xs j = xs := by simp [mix, Nat.sub_eq_zero_of_le h, List.take_of_length_le h]
theorem mix_set (h : j < xs.length) : (mix z xs j).set j xs[j] = mix z xs (j + 1) := by
  unfold mix
  have hl : (xs.take j).length = j := by simp; omega
  rw [List.set_append_right _ _ (by omega), hl, Nat.sub_self]
  obtain ⟨k, hk⟩ : ∃ k, xs.length - j = k + 1 := ⟨xs.length - j - 1, by omega⟩
  have hk' : xs.length - (j + 1) = k := by omega
  have ht : xs.take (j + 1) = xs.take j ++ [xs[j]] := by simp
  rw [hk, hk', List.replicate_succ, List.set_cons_zero, ht, List.append_assoc]
  rfl
end

theorem wrap_id {n : Int} (h1 : -9223372036854775808 ≤ n) (h2 : n ≤ 9223372036854775807) : IntKind.i64.wrap n = n := by
  show (if (true && decide (n % (2 ^ 64 : Int) ≥ (2 ^ 63 : Int))) = true then n % (2 ^ 64 : Int) - (2 ^ 64 : Int) else n % (2 ^ 64 : Int)) = n
  by_cases h : n % (2 ^ 64 : Int) ≥ (2 ^ 63 : Int)
  · rw [if_pos (by simp only [h]; rfl)]; omega
  · rw [if_neg (by simp only [h]; simp)]; omega

section
variable {α : Type} {xs ys : List α} {j : Nat}
theorem take_step (hx : j < xs.length) (hy : j < ys.length) (h : xs.take j = ys.take j) (he : xs[j] = ys[j]) : xs.take (j + 1) = ys.take (j + 1) := by
  rw [List.take_add_one, List.take_add_one, h, List.getElem?_eq_getElem hx, List.getElem?_eq_getElem hy, he]
theorem take_all (hx : xs.length ≤ j) (hl : xs.length = ys.length) (h : xs.take j = ys.take j) : xs = ys := by
  rwa [List.take_of_length_le hx, List.take_of_length_le (by omega)] at h
end

/-- how much a value holds -/
def sumF {α : Type} (f : α → Nat) (xs : List α) : Nat := xs.length + (xs.map f).sum
def szDeal (d : Deal) : Nat := d.tags.length
def szBox (d : Box) : Nat := d.drops.length + d.strips.length
def szDialed (d : Dialed) : Nat := szDeal d.deal + d.up.length
def szRollout (d : Rollout) : Nat := d.stages.length
def szEndpoint (d : Endpoint) : Nat := d.versions.length + d.tags.length + sumF szBox d.path
def szLogged (d : Logged) : Nat := szDialed d.dialed
def szWorld (d : World) : Nat := d.server.length + d.tags.length + sumF szEndpoint d.ends + szRollout d.rollout + sumF szDialed d.stage + sumF szLogged d.log
def szEvent (d : Event) : Nat := szBox d.box
/-- what is left of l, or -1 -/
def szl (n : Nat) (l : Int) : Int := if l < n then -1 else l - n

section
variable {α : Type} {f : α → Nat} {xs : List α} {j : Nat}
theorem sum_take (h : j < xs.length) : ((xs.take (j + 1)).map f).sum = ((xs.take j).map f).sum + f xs[j] := by
  rw [List.take_add_one, List.getElem?_eq_getElem h, List.map_append, List.sum_append, Option.toList_some, List.map_cons, List.map_nil, List.sum_cons, List.sum_nil, Nat.add_zero]
theorem sum_take_le : ((xs.take j).map f).sum ≤ (xs.map f).sum := by
  conv => rhs; rw [← List.take_append_drop j xs, List.map_append, List.sum_append]
  omega
theorem sum_all (h : xs.length ≤ j) : ((xs.take j).map f).sum = (xs.map f).sum := by rw [List.take_of_length_le h]
theorem size_at (h : j < xs.length) : f xs[j] ≤ sumF f xs := by
  have h1 := sum_take (f := f) h
  have h2 := sum_take_le (f := f) (xs := xs) (j := j + 1)
  unfold sumF; omega
theorem size_len : xs.length ≤ sumF f xs := by unfold sumF; omega
end
/-- lengths that a value may have at all -/
def lnInts (xs : List Int) : Prop := xs.length ≤ maxLen
def lnS {α : Type} (f : α → Prop) (xs : List α) : Prop := xs.length ≤ maxLen ∧ ∀ (j : Nat) (h : j < xs.length), f xs[j]
def lnDeal (d : Deal) : Prop := lnInts d.tags
def lnBox (d : Box) : Prop := lnInts d.drops ∧ lnInts d.strips
def lnDialed (d : Dialed) : Prop := lnDeal d.deal ∧ lnInts d.up
def lnRollout (d : Rollout) : Prop := lnInts d.stages
def lnEndpoint (d : Endpoint) : Prop := lnInts d.versions ∧ lnInts d.tags ∧ lnS lnBox d.path
def lnLogged (d : Logged) : Prop := lnDialed d.dialed
def lnWorld (d : World) : Prop := lnInts d.server ∧ lnInts d.tags ∧ lnS lnEndpoint d.ends ∧ lnRollout d.rollout ∧ lnS lnDialed d.stage ∧ lnS lnLogged d.log
def lnEvent (d : Event) : Prop := lnBox d.box

theorem eDeal_len (x : Deal) : (eDeal x).length = 3 := rfl
theorem eBox_len (x : Box) : (eBox x).length = 4 := rfl
theorem eDialed_len (x : Dialed) : (eDialed x).length = 5 := rfl
theorem eRollout_len (x : Rollout) : (eRollout x).length = 4 := rfl
theorem eEndpoint_len (x : Endpoint) : (eEndpoint x).length = 4 := rfl
theorem eLogged_len (x : Logged) : (eLogged x).length = 8 := rfl
theorem eWorld_len (x : World) : (eWorld x).length = 15 := rfl
theorem eEvent_len (x : Event) : (eEvent x).length = 6 := rfl
@[simp] theorem eBox_ro (xs : List Box) : (xs.flatMap eBox).map (roCell 0) = xs.flatMap eBox := flat_ro (fun _ => rfl) xs
@[simp] theorem eDialed_ro (xs : List Dialed) : (xs.flatMap eDialed).map (roCell 0) = xs.flatMap eDialed := flat_ro (fun _ => rfl) xs
@[simp] theorem eEndpoint_ro (xs : List Endpoint) : (xs.flatMap eEndpoint).map (roCell 0) = xs.flatMap eEndpoint := flat_ro (fun _ => rfl) xs
@[simp] theorem eLogged_ro (xs : List Logged) : (xs.flatMap eLogged).map (roCell 0) = xs.flatMap eLogged := flat_ro (fun _ => rfl) xs
@[simp] theorem eEvent_ro (xs : List Event) : (xs.flatMap eEvent).map (roCell 0) = xs.flatMap eEvent := flat_ro (fun _ => rfl) xs
@[simp high] theorem eBox_at {xs : List Box} {j : Nat} (h : j < xs.length) : getAt (xs.flatMap eBox) (j * 4) 4 = some (eBox xs[j]) := getAt_flat eBox_len h
@[simp high] theorem eDialed_at {xs : List Dialed} {j : Nat} (h : j < xs.length) : getAt (xs.flatMap eDialed) (j * 5) 5 = some (eDialed xs[j]) := getAt_flat eDialed_len h
@[simp high] theorem eEndpoint_at {xs : List Endpoint} {j : Nat} (h : j < xs.length) : getAt (xs.flatMap eEndpoint) (j * 4) 4 = some (eEndpoint xs[j]) := getAt_flat eEndpoint_len h
@[simp high] theorem eLogged_at {xs : List Logged} {j : Nat} (h : j < xs.length) : getAt (xs.flatMap eLogged) (j * 8) 8 = some (eLogged xs[j]) := getAt_flat eLogged_len h
@[simp high] theorem eEvent_at {xs : List Event} {j : Nat} (h : j < xs.length) : getAt (xs.flatMap eEvent) (j * 6) 6 = some (eEvent xs[j]) := getAt_flat eEvent_len h
@[simp high] theorem eBox_flen (xs : List Box) : (xs.flatMap eBox).length = xs.length * 4 := flat_len eBox_len xs
@[simp high] theorem eBox_put {xs : List Box} {j : Nat} (h : j < xs.length) (a : Int) (b c : List Int) (d : Bool) {nb : Nat} (hb : nb = b.length) {nc : Nat} (hc : nc = c.length) : putAt (xs.flatMap eBox) (j * 4) [.sc (.int .i64 a), .sl 0 1 nb (ints b), .sl 0 1 nc (ints c), .sc (.bool d)] = (xs.set j ⟨a, b, c, d⟩).flatMap eBox := by subst hb; subst hc; exact putAt_flat eBox_len h ⟨a, b, c, d⟩
theorem eBox_push (xs : List Box) (a : Int) (b c : List Int) (d : Bool) {nb : Nat} (hb : nb = b.length) {nc : Nat} (hc : nc = c.length) : xs.flatMap eBox ++ [.sc (.int .i64 a), .sl 0 1 nb (ints b), .sl 0 1 nc (ints c), .sc (.bool d)] = (xs ++ [(⟨a, b, c, d⟩ : Box)]).flatMap eBox := by subst hb; subst hc; simp [eBox]
@[simp high] theorem eDialed_flen (xs : List Dialed) : (xs.flatMap eDialed).length = xs.length * 5 := flat_len eDialed_len xs
@[simp high] theorem eDialed_put {xs : List Dialed} {j : Nat} (h : j < xs.length) (a : Bool) (b : Int) (c : List Int) (d : Int) (u : List Int) {nc : Nat} (hc : nc = c.length) {nu : Nat} (hu : nu = u.length) : putAt (xs.flatMap eDialed) (j * 5) [.sc (.bool a), .sc (.int .i64 b), .sl 0 1 nc (ints c), .sc (.int .i64 d), .sl 0 1 nu (ints u)] = (xs.set j ⟨⟨a, b, c⟩, d, u⟩).flatMap eDialed := by subst hc; subst hu; exact putAt_flat eDialed_len h ⟨⟨a, b, c⟩, d, u⟩
theorem eDialed_push (xs : List Dialed) (a : Bool) (b : Int) (c : List Int) (d : Int) (u : List Int) {nc : Nat} (hc : nc = c.length) {nu : Nat} (hu : nu = u.length) : xs.flatMap eDialed ++ [.sc (.bool a), .sc (.int .i64 b), .sl 0 1 nc (ints c), .sc (.int .i64 d), .sl 0 1 nu (ints u)] = (xs ++ [(⟨⟨a, b, c⟩, d, u⟩ : Dialed)]).flatMap eDialed := by subst hc; subst hu; simp [eDialed]
@[simp high] theorem eEndpoint_flen (xs : List Endpoint) : (xs.flatMap eEndpoint).length = xs.length * 4 := flat_len eEndpoint_len xs
@[simp high] theorem eEndpoint_put {xs : List Endpoint} {j : Nat} (h : j < xs.length) (a b : List Int) (c : List Box) (d : Int) {na : Nat} (ha : na = a.length) {nb : Nat} (hb : nb = b.length) {nc : Nat} (hc : nc = c.length) : putAt (xs.flatMap eEndpoint) (j * 4) [.sl 0 1 na (ints a), .sl 0 1 nb (ints b), .sl 0 4 nc (c.flatMap eBox), .sc (.int .i64 d)] = (xs.set j ⟨a, b, c, d⟩).flatMap eEndpoint := by subst ha; subst hb; subst hc; exact putAt_flat eEndpoint_len h ⟨a, b, c, d⟩
theorem eEndpoint_push (xs : List Endpoint) (a b : List Int) (c : List Box) (d : Int) {na : Nat} (ha : na = a.length) {nb : Nat} (hb : nb = b.length) {nc : Nat} (hc : nc = c.length) : xs.flatMap eEndpoint ++ [.sl 0 1 na (ints a), .sl 0 1 nb (ints b), .sl 0 4 nc (c.flatMap eBox), .sc (.int .i64 d)] = (xs ++ [(⟨a, b, c, d⟩ : Endpoint)]).flatMap eEndpoint := by subst ha; subst hb; subst hc; simp [eEndpoint]
@[simp high] theorem eLogged_flen (xs : List Logged) : (xs.flatMap eLogged).length = xs.length * 8 := flat_len eLogged_len xs
@[simp high] theorem eLogged_put {xs : List Logged} {j : Nat} (h : j < xs.length) (m n : Int) (o a : Bool) (b : Int) (c : List Int) (d : Int) (u : List Int) {nc : Nat} (hc : nc = c.length) {nu : Nat} (hu : nu = u.length) : putAt (xs.flatMap eLogged) (j * 8) [.sc (.int .i64 m), .sc (.int .i64 n), .sc (.bool o), .sc (.bool a), .sc (.int .i64 b), .sl 0 1 nc (ints c), .sc (.int .i64 d), .sl 0 1 nu (ints u)] = (xs.set j ⟨m, n, o, ⟨⟨a, b, c⟩, d, u⟩⟩).flatMap eLogged := by subst hc; subst hu; exact putAt_flat eLogged_len h ⟨m, n, o, ⟨⟨a, b, c⟩, d, u⟩⟩
theorem eLogged_push (xs : List Logged) (m n : Int) (o a : Bool) (b : Int) (c : List Int) (d : Int) (u : List Int) {nc : Nat} (hc : nc = c.length) {nu : Nat} (hu : nu = u.length) : xs.flatMap eLogged ++ [.sc (.int .i64 m), .sc (.int .i64 n), .sc (.bool o), .sc (.bool a), .sc (.int .i64 b), .sl 0 1 nc (ints c), .sc (.int .i64 d), .sl 0 1 nu (ints u)] = (xs ++ [(⟨m, n, o, ⟨⟨a, b, c⟩, d, u⟩⟩ : Logged)]).flatMap eLogged := by subst hc; subst hu; simp [eLogged]
@[simp high] theorem eEvent_flen (xs : List Event) : (xs.flatMap eEvent).length = xs.length * 6 := flat_len eEvent_len xs
@[simp high] theorem eEvent_put {xs : List Event} {j : Nat} (h : j < xs.length) (m n : Int) (a : Int) (b c : List Int) (d : Bool) {nb : Nat} (hb : nb = b.length) {nc : Nat} (hc : nc = c.length) : putAt (xs.flatMap eEvent) (j * 6) [.sc (.int .i64 m), .sc (.int .i64 n), .sc (.int .i64 a), .sl 0 1 nb (ints b), .sl 0 1 nc (ints c), .sc (.bool d)] = (xs.set j ⟨m, n, ⟨a, b, c, d⟩⟩).flatMap eEvent := by subst hb; subst hc; exact putAt_flat eEvent_len h ⟨m, n, ⟨a, b, c, d⟩⟩
theorem eEvent_push (xs : List Event) (m n : Int) (a : Int) (b c : List Int) (d : Bool) {nb : Nat} (hb : nb = b.length) {nc : Nat} (hc : nc = c.length) : xs.flatMap eEvent ++ [.sc (.int .i64 m), .sc (.int .i64 n), .sc (.int .i64 a), .sl 0 1 nb (ints b), .sl 0 1 nc (ints c), .sc (.bool d)] = (xs ++ [(⟨m, n, ⟨a, b, c, d⟩⟩ : Event)]).flatMap eEvent := by subst hb; subst hc; simp [eEvent]

@[simp high] theorem eBox_c0 {xs : List Box} {j : Nat} (h : j < xs.length) : (xs.flatMap eBox)[j * 4]? = some (.sc (.int .i64 xs[j].limit)) := by
  have := getCell_flat (o := 0) eBox_len h (by omega)
  simpa [eBox] using this
@[simp high] theorem eBox_c1 {xs : List Box} {j : Nat} (h : j < xs.length) : (xs.flatMap eBox)[j * 4 + 1]? = some (.sl 0 1 xs[j].drops.length (ints xs[j].drops)) := by
  have := getCell_flat (o := 1) eBox_len h (by omega)
  simpa [eBox] using this
@[simp high] theorem eBox_c2 {xs : List Box} {j : Nat} (h : j < xs.length) : (xs.flatMap eBox)[j * 4 + 2]? = some (.sl 0 1 xs[j].strips.length (ints xs[j].strips)) := by
  have := getCell_flat (o := 2) eBox_len h (by omega)
  simpa [eBox] using this
@[simp high] theorem eBox_c3 {xs : List Box} {j : Nat} (h : j < xs.length) : (xs.flatMap eBox)[j * 4 + 3]? = some (.sc (.bool xs[j].lists)) := by
  have := getCell_flat (o := 3) eBox_len h (by omega)
  simpa [eBox] using this
@[simp high] theorem eDialed_c0 {xs : List Dialed} {j : Nat} (h : j < xs.length) : (xs.flatMap eDialed)[j * 5]? = some (.sc (.bool xs[j].deal.ok)) := by
  have := getCell_flat (o := 0) eDialed_len h (by omega)
  simpa [eDialed] using this
@[simp high] theorem eDialed_c1 {xs : List Dialed} {j : Nat} (h : j < xs.length) : (xs.flatMap eDialed)[j * 5 + 1]? = some (.sc (.int .i64 xs[j].deal.version)) := by
  have := getCell_flat (o := 1) eDialed_len h (by omega)
  simpa [eDialed] using this
@[simp high] theorem eDialed_c2 {xs : List Dialed} {j : Nat} (h : j < xs.length) : (xs.flatMap eDialed)[j * 5 + 2]? = some (.sl 0 1 xs[j].deal.tags.length (ints xs[j].deal.tags)) := by
  have := getCell_flat (o := 2) eDialed_len h (by omega)
  simpa [eDialed] using this
@[simp high] theorem eDialed_c3 {xs : List Dialed} {j : Nat} (h : j < xs.length) : (xs.flatMap eDialed)[j * 5 + 3]? = some (.sc (.int .i64 xs[j].tries)) := by
  have := getCell_flat (o := 3) eDialed_len h (by omega)
  simpa [eDialed] using this
@[simp high] theorem eDialed_c4 {xs : List Dialed} {j : Nat} (h : j < xs.length) : (xs.flatMap eDialed)[j * 5 + 4]? = some (.sl 0 1 xs[j].up.length (ints xs[j].up)) := by
  have := getCell_flat (o := 4) eDialed_len h (by omega)
  simpa [eDialed] using this
@[simp high] theorem eEndpoint_c0 {xs : List Endpoint} {j : Nat} (h : j < xs.length) : (xs.flatMap eEndpoint)[j * 4]? = some (.sl 0 1 xs[j].versions.length (ints xs[j].versions)) := by
  have := getCell_flat (o := 0) eEndpoint_len h (by omega)
  simpa [eEndpoint] using this
@[simp high] theorem eEndpoint_c1 {xs : List Endpoint} {j : Nat} (h : j < xs.length) : (xs.flatMap eEndpoint)[j * 4 + 1]? = some (.sl 0 1 xs[j].tags.length (ints xs[j].tags)) := by
  have := getCell_flat (o := 1) eEndpoint_len h (by omega)
  simpa [eEndpoint] using this
@[simp high] theorem eEndpoint_c2 {xs : List Endpoint} {j : Nat} (h : j < xs.length) : (xs.flatMap eEndpoint)[j * 4 + 2]? = some (.sl 0 4 xs[j].path.length (xs[j].path.flatMap eBox)) := by
  have := getCell_flat (o := 2) eEndpoint_len h (by omega)
  simpa [eEndpoint] using this
@[simp high] theorem eEndpoint_c3 {xs : List Endpoint} {j : Nat} (h : j < xs.length) : (xs.flatMap eEndpoint)[j * 4 + 3]? = some (.sc (.int .i64 xs[j].cls)) := by
  have := getCell_flat (o := 3) eEndpoint_len h (by omega)
  simpa [eEndpoint] using this
@[simp high] theorem eLogged_c0 {xs : List Logged} {j : Nat} (h : j < xs.length) : (xs.flatMap eLogged)[j * 8]? = some (.sc (.int .i64 xs[j].fin)) := by
  have := getCell_flat (o := 0) eLogged_len h (by omega)
  simpa [eLogged] using this
@[simp high] theorem eLogged_c1 {xs : List Logged} {j : Nat} (h : j < xs.length) : (xs.flatMap eLogged)[j * 8 + 1]? = some (.sc (.int .i64 xs[j].tick)) := by
  have := getCell_flat (o := 1) eLogged_len h (by omega)
  simpa [eLogged] using this
@[simp high] theorem eLogged_c2 {xs : List Logged} {j : Nat} (h : j < xs.length) : (xs.flatMap eLogged)[j * 8 + 2]? = some (.sc (.bool xs[j].on)) := by
  have := getCell_flat (o := 2) eLogged_len h (by omega)
  simpa [eLogged] using this
@[simp high] theorem eLogged_c3 {xs : List Logged} {j : Nat} (h : j < xs.length) : (xs.flatMap eLogged)[j * 8 + 3]? = some (.sc (.bool xs[j].dialed.deal.ok)) := by
  have := getCell_flat (o := 3) eLogged_len h (by omega)
  simpa [eLogged] using this
@[simp high] theorem eLogged_c4 {xs : List Logged} {j : Nat} (h : j < xs.length) : (xs.flatMap eLogged)[j * 8 + 4]? = some (.sc (.int .i64 xs[j].dialed.deal.version)) := by
  have := getCell_flat (o := 4) eLogged_len h (by omega)
  simpa [eLogged] using this
@[simp high] theorem eLogged_c5 {xs : List Logged} {j : Nat} (h : j < xs.length) : (xs.flatMap eLogged)[j * 8 + 5]? = some (.sl 0 1 xs[j].dialed.deal.tags.length (ints xs[j].dialed.deal.tags)) := by
  have := getCell_flat (o := 5) eLogged_len h (by omega)
  simpa [eLogged] using this
@[simp high] theorem eLogged_c6 {xs : List Logged} {j : Nat} (h : j < xs.length) : (xs.flatMap eLogged)[j * 8 + 6]? = some (.sc (.int .i64 xs[j].dialed.tries)) := by
  have := getCell_flat (o := 6) eLogged_len h (by omega)
  simpa [eLogged] using this
@[simp high] theorem eLogged_c7 {xs : List Logged} {j : Nat} (h : j < xs.length) : (xs.flatMap eLogged)[j * 8 + 7]? = some (.sl 0 1 xs[j].dialed.up.length (ints xs[j].dialed.up)) := by
  have := getCell_flat (o := 7) eLogged_len h (by omega)
  simpa [eLogged] using this
@[simp high] theorem eEvent_c0 {xs : List Event} {j : Nat} (h : j < xs.length) : (xs.flatMap eEvent)[j * 6]? = some (.sc (.int .i64 xs[j].kind)) := by
  have := getCell_flat (o := 0) eEvent_len h (by omega)
  simpa [eEvent] using this
@[simp high] theorem eEvent_c1 {xs : List Event} {j : Nat} (h : j < xs.length) : (xs.flatMap eEvent)[j * 6 + 1]? = some (.sc (.int .i64 xs[j].n)) := by
  have := getCell_flat (o := 1) eEvent_len h (by omega)
  simpa [eEvent] using this
@[simp high] theorem eEvent_c2 {xs : List Event} {j : Nat} (h : j < xs.length) : (xs.flatMap eEvent)[j * 6 + 2]? = some (.sc (.int .i64 xs[j].box.limit)) := by
  have := getCell_flat (o := 2) eEvent_len h (by omega)
  simpa [eEvent] using this
@[simp high] theorem eEvent_c3 {xs : List Event} {j : Nat} (h : j < xs.length) : (xs.flatMap eEvent)[j * 6 + 3]? = some (.sl 0 1 xs[j].box.drops.length (ints xs[j].box.drops)) := by
  have := getCell_flat (o := 3) eEvent_len h (by omega)
  simpa [eEvent] using this
@[simp high] theorem eEvent_c4 {xs : List Event} {j : Nat} (h : j < xs.length) : (xs.flatMap eEvent)[j * 6 + 4]? = some (.sl 0 1 xs[j].box.strips.length (ints xs[j].box.strips)) := by
  have := getCell_flat (o := 4) eEvent_len h (by omega)
  simpa [eEvent] using this
@[simp high] theorem eEvent_c5 {xs : List Event} {j : Nat} (h : j < xs.length) : (xs.flatMap eEvent)[j * 6 + 5]? = some (.sc (.bool xs[j].box.lists)) := by
  have := getCell_flat (o := 5) eEvent_len h (by omega)
  simpa [eEvent] using this

theorem getPart_flat {α : Type} {f : α → List V} {e : Nat} (hf : ∀ x, (f x).length = e) {xs : List α} {j o n : Nat} (h : j < xs.length) (ho : o + n ≤ e) : getAt (xs.flatMap f) (j * e + o) n = some (((f xs[j]).drop o).take n) := by
  unfold getAt
  have hl := flat_len hf xs
  have h2 : j * e + e ≤ xs.length * e := by
    have := Nat.mul_le_mul_right e (show j + 1 ≤ xs.length by omega)
    rw [Nat.add_mul] at this; omega
  rw [hl, if_pos (by omega), ← List.drop_drop, flat_drop hf, List.drop_eq_getElem_cons h, List.flatMap_cons, List.drop_append, List.take_append]
  have h3 := hf xs[j]
  rw [List.length_drop, h3]
  have : n - (e - o) = 0 := by omega
  rw [this, List.take_zero, List.append_nil]
@[simp high] theorem eLogged_p3 {xs : List Logged} {j : Nat} (h : j < xs.length) : getAt (xs.flatMap eLogged) (j * 8 + 3) 5 = some (eDialed xs[j].dialed) := getPart_flat eLogged_len h (by omega)
@[simp high] theorem eLogged_q3 {xs : List Logged} {j : Nat} (h : j < xs.length) : getAt (xs.flatMap eLogged) (j * 8 + 3) 3 = some (eDeal xs[j].dialed.deal) := getPart_flat eLogged_len h (by omega)
@[simp high] theorem eDialed_q0 {xs : List Dialed} {j : Nat} (h : j < xs.length) : getAt (xs.flatMap eDialed) (j * 5) 3 = some (eDeal xs[j].deal) := getPart_flat (o := 0) eDialed_len h (by omega)
@[simp high] theorem eEvent_p2 {xs : List Event} {j : Nat} (h : j < xs.length) : getAt (xs.flatMap eEvent) (j * 6 + 2) 4 = some (eBox xs[j].box) := getPart_flat eEvent_len h (by omega)

attribute [simp] Nat.add_one_le_iff eDeal eBox eDialed eRollout eEndpoint eLogged eWorld eEvent
end Go.Eng.T

namespace Go.Eng.T


abbrev InS (R : Rel) : Prop := ∀ a b c : Int, R [I a, I b, I c] [] (B (decide (b ≤ a ∧ a ≤ c))) []
def evNames : List (List UInt8) := [[], [100, 105, 97, 108], [115, 116, 97, 114, 116], [115, 116, 97, 103, 101], [114, 101, 116, 105, 114, 101], [114, 101, 118, 105, 118, 101], [98, 111, 120], [99, 108, 101, 97, 114], [116, 105, 99, 107]]
def evName (k : Int) : ByteArray := if 1 ≤ k ∧ k ≤ 8 then ⟨(evNames.getD k.toNat []).toArray⟩ else ⟨#[]⟩
theorem evCases {k : Int} (h : 1 ≤ k ∧ k ≤ 8) : k = 1 ∨ k = 2 ∨ k = 3 ∨ k = 4 ∨ k = 5 ∨ k = 6 ∨ k = 7 ∨ k = 8 := by omega
abbrev EventNameS (R : Rel) : Prop := ∀ k : Int, R [I k] [] (S (evName k)) []

abbrev FnExactEventNameS (R : Rel) : Prop := ∀ k : Int, R [I k] [] (B true) []
end Go.Eng.T

namespace Go.Eng.T

abbrev szIntSS (R : Rel) : Prop := ∀ (xs : List Int) (l : Int), 0 ≤ l → l ≤ 4194304 → lnInts xs → R [.sl 1 1 xs.length (ints xs), I l] [] (I (szl xs.length l)) []
theorem szIntS_b (D : Dn) : szIntSS (Body D slaws_szIntS) := by
  intro xs l h1 h2 h3
  have hw : IntKind.i64.wrap (l - (xs.length : Int)) = l - xs.length := by unfold lnInts maxLen at h3; exact wrap_id (by omega) (by omega)
  by_cases h : l < xs.length
  · have h' : l - (xs.length : Int) < 0 := by omega
    simp -implicitDefEqProofs [hw, h, h', szl]
  · have h' : ¬ l - (xs.length : Int) < 0 := by omega
    simp -implicitDefEqProofs [hw, h, h', szl]

abbrev toIntSS (R : Rel) : Prop := ∀ (xs : List Int), xs.length * 8 ≤ 2 ^ 40 → R [.sl 1 1 xs.length (ints xs)] [] (.sl 0 1 xs.length (ints xs)) []
theorem toIntS_b (D : Dn) : toIntSS (Body D slaws_toIntS) := by
  intro xs hl
  have h1 : ((xs.length : Nat) : Int) * 8 ≤ 1099511627776 := by omega
  simp -implicitDefEqProofs [h1]
  refine swp_loop (fun k s => ∃ j, j + k = xs.length ∧ s = ⟨[.sl 1 1 xs.length (ints xs), .undef, .arr 0, .sc (.int .i64 j), .undef], [.arr 1 0 xs.length (ints (mix 0 xs j))]⟩) ?_ xs.length _ ⟨0, by simp, by simp [mix_zero, ints]⟩
  intro k s ⟨j, hj, hs⟩
  subst hs
  by_cases hjn : j < xs.length
  · have hw : IntKind.i64.wrap ((j : Int) + 1) = (j + 1 : Nat) := by rw [wrap_id (by omega) (by omega)]; simp
    simp -implicitDefEqProofs [hjn, Nat.le_of_lt hjn, mix_set]
    exact ⟨k - 1, by omega, j + 1, by omega, by simp [hw], rfl⟩
  · have hje : mix 0 xs j = xs := mix_all (by omega)
    simp -implicitDefEqProofs [hjn, hje]

abbrev eqIntSS (R : Rel) : Prop := ∀ (xs ys : List Int), xs.length ≤ maxLen → ys.length ≤ maxLen → R [.sl 1 1 xs.length (ints xs), .sl 1 1 ys.length (ints ys)] [] (B (decide (xs = ys))) []
theorem eqIntS_b (D : Dn) : eqIntSS (Body D slaws_eqIntS) := by
  intro xs ys h1 h2
  unfold maxLen at h1 h2
  by_cases hl : xs.length = ys.length
  · have hl' : (xs.length : Int) = ys.length := by omega
    simp -implicitDefEqProofs [hl']
    refine swp_loop (fun k s => ∃ j, j + k = xs.length ∧ xs.take j = ys.take j ∧ s = ⟨[.sl 1 1 xs.length (ints xs), .sl 1 1 ys.length (ints ys), .undef, .sc (.int .i64 j), .undef, .undef, .undef], []⟩) ?_ xs.length _ ⟨0, by simp, by simp, by simp⟩
    intro k s ⟨j, hj, hp, hs⟩
    subst hs
    by_cases hjn : j < xs.length
    · have hw : IntKind.i64.wrap ((j : Int) + 1) = (j + 1 : Nat) := by rw [wrap_id (by omega) (by omega)]; simp
      have hy : j < ys.length := by omega
      by_cases he : xs[j] = ys[j]
      · simp -implicitDefEqProofs [hjn, hy, he]
        exact ⟨k - 1, by omega, j + 1, by omega, take_step hjn hy hp he, by simp [hw]⟩
      · have hne : xs ≠ ys := fun h => he (by simp [h])
        simp -implicitDefEqProofs [hjn, hy, he, hne]
    · obtain rfl : xs = ys := take_all (by omega) hl hp
      simp -implicitDefEqProofs [hjn]
  · have hl' : ¬ (xs.length : Int) = ys.length := by omega
    have : xs ≠ ys := fun h => hl (by rw [h])
    simp -implicitDefEqProofs [hl', this]
end Go.Eng.T

namespace Go.Eng.T

/-- the numbers from k on -/
def nums : Nat → Int → List Int
  | 0, _ => []
  | n + 1, k => k :: nums n (k + 1)
@[simp] theorem nums_len : ∀ (n : Nat) (k : Int), (nums n k).length = n
  | 0, _ => rfl
  | n + 1, k => by simp [nums, nums_len n]
theorem nums_get : ∀ (n : Nat) (k : Int) (j : Nat) (h : j < (nums n k).length), (nums n k)[j] = k + j
  | 0, k, j, h => by simp [nums] at h
  | n + 1, k, 0, h => by simp [nums]
  | n + 1, k, j + 1, h => by
    simp only [nums, List.getElem_cons_succ]
    rw [nums_get n (k + 1) j (by simpa [nums] using h)]
    simp; omega

/-- a row marked element by element -/
def mkL {α : Type} (mc : α → Nat) (mk : α → Int → α) : List α → Int → List α
  | [], _ => []
  | x :: r, k => mk x k :: mkL mc mk r (k + mc x)
def mcL {α : Type} (mc : α → Nat) (xs : List α) : Nat := (xs.map mc).sum
section
variable {α : Type} {mc : α → Nat} {mk : α → Int → α}
@[simp] theorem mkL_len : ∀ (xs : List α) (k : Int), (mkL mc mk xs k).length = xs.length
  | [], _ => rfl
  | x :: r, k => by simp [mkL, mkL_len r]
theorem mkL_get : ∀ (xs : List α) (k : Int) (j : Nat) (h : j < xs.length), (mkL mc mk xs k)[j]'(by simpa using h) = mk xs[j] (k + (mcL mc (xs.take j) : Nat))
  | [], k, j, h => by simp at h
  | x :: r, k, 0, h => by simp [mkL, mcL]
  | x :: r, k, j + 1, h => by
    simp only [mkL, List.getElem_cons_succ]
    rw [mkL_get r (k + mc x) j (by simpa using h)]
    simp [mcL]; congr 1; omega
theorem mkL_append (ys : List α) : ∀ (xs : List α) (k : Int), mkL mc mk (xs ++ ys) k = mkL mc mk xs k ++ mkL mc mk ys (k + (mcL mc xs : Nat))
  | [], k => by simp [mkL, mcL]
  | x :: r, k => by
    simp only [List.cons_append, mkL, mkL_append ys r]
    simp [mcL]; congr 1; omega
/-- under way -/
def mkJ (mc : α → Nat) (mk : α → Int → α) (xs : List α) (k : Int) (j : Nat) : List α := mkL mc mk (xs.take j) k ++ xs.drop j
theorem mkJ_zero {xs : List α} {k : Int} : mkJ mc mk xs k 0 = xs := by simp [mkJ, mkL]
theorem mkJ_all {xs : List α} {k : Int} {j : Nat} (h : xs.length ≤ j) : mkJ mc mk xs k j = mkL mc mk xs k := by simp [mkJ, List.take_of_length_le h, List.drop_eq_nil_of_le h]
@[simp] theorem mkJ_len {xs : List α} {k : Int} {j : Nat} (h : j ≤ xs.length) : (mkJ mc mk xs k j).length = xs.length := by simp [mkJ]; omega
theorem mkJ_get {xs : List α} {k : Int} {j : Nat} (h : j < xs.length) : (mkJ mc mk xs k j)[j]'(by rw [mkJ_len (by omega)]; exact h) = xs[j] := by
  unfold mkJ
  have hl : (mkL mc mk (xs.take j) k).length = j := by simp; omega
  rw [List.getElem_append_right (by omega)]
  simp [hl]
theorem mkJ_set {xs : List α} {k : Int} {j : Nat} (h : j < xs.length) : (mkJ mc mk xs k j).set j (mk xs[j] (k + (mcL mc (xs.take j) : Nat))) = mkJ mc mk xs k (j + 1) := by
  unfold mkJ
  have hl : (mkL mc mk (xs.take j) k).length = j := by simp; omega
  have ht : xs.take (j + 1) = xs.take j ++ [xs[j]] := by simp
  rw [List.set_append_right _ _ (by omega), hl, Nat.sub_self, ht, mkL_append, List.drop_eq_getElem_cons h, List.set_cons_zero, List.append_assoc]
  rfl
theorem mcL_step {xs : List α} {j : Nat} (h : j < xs.length) : mcL mc (xs.take (j + 1)) = mcL mc (xs.take j) + mc xs[j] := sum_take h
theorem mcL_le {xs : List α} {j : Nat} : mcL mc (xs.take j) ≤ mcL mc xs := sum_take_le
theorem mcL_all {xs : List α} {j : Nat} (h : xs.length ≤ j) : mcL mc (xs.take j) = mcL mc xs := sum_all h
theorem mcL_ge (h : ∀ x, 1 ≤ mc x) (xs : List α) : xs.length ≤ mcL mc xs := by
  induction xs with
  | nil => simp
  | cons x r ih =>
    have := h x
    simp [mcL] at *
    omega
end
theorem set_flat {α : Type} {f : α → List V} {e : Nat} (hf : ∀ x, (f x).length = e) {o : Nat} (ho : o < e) {v : V} {y : α} : ∀ {xs : List α} {j : Nat} (h : j < xs.length), f y = (f xs[j]).set o v → (xs.flatMap f).set (j * e + o) v = (xs.set j y).flatMap f
  | [], j, h, _ => by simp at h
  | x :: xs, 0, _, hy => by
    simp only [List.flatMap_cons, List.set_cons_zero, Nat.zero_mul, Nat.zero_add]
    rw [List.set_append_left _ _ (by rw [hf]; exact ho), hy]
    rfl
  | x :: xs, j + 1, h, hy => by
    simp only [List.flatMap_cons, List.set_cons_succ]
    have e1 : (j + 1) * e + o = (f x).length + (j * e + o) := by rw [hf, Nat.add_mul]; omega
    rw [e1, List.set_append_right _ _ (by omega), Nat.add_sub_cancel_left, set_flat hf ho (by simpa using h) (by simpa using hy)]
@[simp high] theorem eBox_s0 {xs : List Box} {j : Nat} (h : j < xs.length) (a : Int) : (xs.flatMap eBox).set (j * 4) (.sc (.int .i64 a)) = (xs.set j ⟨a, xs[j].drops, xs[j].strips, xs[j].lists⟩).flatMap eBox := set_flat (o := 0) eBox_len (by omega) h rfl
@[simp high] theorem eBox_s1 {xs : List Box} {j : Nat} (h : j < xs.length) {n : Nat} (a : List Int) (hn : n = a.length) : (xs.flatMap eBox).set (j * 4 + 1) (.sl 0 1 n (ints a)) = (xs.set j ⟨xs[j].limit, a, xs[j].strips, xs[j].lists⟩).flatMap eBox := by subst hn; exact set_flat (o := 1) eBox_len (by omega) h rfl
@[simp high] theorem eBox_s2 {xs : List Box} {j : Nat} (h : j < xs.length) {n : Nat} (a : List Int) (hn : n = a.length) : (xs.flatMap eBox).set (j * 4 + 2) (.sl 0 1 n (ints a)) = (xs.set j ⟨xs[j].limit, xs[j].drops, a, xs[j].lists⟩).flatMap eBox := by subst hn; exact set_flat (o := 2) eBox_len (by omega) h rfl
@[simp high] theorem eBox_s3 {xs : List Box} {j : Nat} (h : j < xs.length) (a : Bool) : (xs.flatMap eBox).set (j * 4 + 3) (.sc (.bool a)) = (xs.set j ⟨xs[j].limit, xs[j].drops, xs[j].strips, a⟩).flatMap eBox := set_flat (o := 3) eBox_len (by omega) h rfl
@[simp high] theorem eDialed_s0 {xs : List Dialed} {j : Nat} (h : j < xs.length) (a : Bool) : (xs.flatMap eDialed).set (j * 5) (.sc (.bool a)) = (xs.set j ⟨⟨a, xs[j].deal.version, xs[j].deal.tags⟩, xs[j].tries, xs[j].up⟩).flatMap eDialed := set_flat (o := 0) eDialed_len (by omega) h rfl
@[simp high] theorem eDialed_s1 {xs : List Dialed} {j : Nat} (h : j < xs.length) (a : Int) : (xs.flatMap eDialed).set (j * 5 + 1) (.sc (.int .i64 a)) = (xs.set j ⟨⟨xs[j].deal.ok, a, xs[j].deal.tags⟩, xs[j].tries, xs[j].up⟩).flatMap eDialed := set_flat (o := 1) eDialed_len (by omega) h rfl
@[simp high] theorem eDialed_s2 {xs : List Dialed} {j : Nat} (h : j < xs.length) {n : Nat} (a : List Int) (hn : n = a.length) : (xs.flatMap eDialed).set (j * 5 + 2) (.sl 0 1 n (ints a)) = (xs.set j ⟨⟨xs[j].deal.ok, xs[j].deal.version, a⟩, xs[j].tries, xs[j].up⟩).flatMap eDialed := by subst hn; exact set_flat (o := 2) eDialed_len (by omega) h rfl
@[simp high] theorem eDialed_s3 {xs : List Dialed} {j : Nat} (h : j < xs.length) (a : Int) : (xs.flatMap eDialed).set (j * 5 + 3) (.sc (.int .i64 a)) = (xs.set j ⟨⟨xs[j].deal.ok, xs[j].deal.version, xs[j].deal.tags⟩, a, xs[j].up⟩).flatMap eDialed := set_flat (o := 3) eDialed_len (by omega) h rfl
@[simp high] theorem eDialed_s4 {xs : List Dialed} {j : Nat} (h : j < xs.length) {n : Nat} (a : List Int) (hn : n = a.length) : (xs.flatMap eDialed).set (j * 5 + 4) (.sl 0 1 n (ints a)) = (xs.set j ⟨⟨xs[j].deal.ok, xs[j].deal.version, xs[j].deal.tags⟩, xs[j].tries, a⟩).flatMap eDialed := by subst hn; exact set_flat (o := 4) eDialed_len (by omega) h rfl
@[simp high] theorem eEndpoint_s0 {xs : List Endpoint} {j : Nat} (h : j < xs.length) {n : Nat} (a : List Int) (hn : n = a.length) : (xs.flatMap eEndpoint).set (j * 4) (.sl 0 1 n (ints a)) = (xs.set j ⟨a, xs[j].tags, xs[j].path, xs[j].cls⟩).flatMap eEndpoint := by subst hn; exact set_flat (o := 0) eEndpoint_len (by omega) h rfl
@[simp high] theorem eEndpoint_s1 {xs : List Endpoint} {j : Nat} (h : j < xs.length) {n : Nat} (a : List Int) (hn : n = a.length) : (xs.flatMap eEndpoint).set (j * 4 + 1) (.sl 0 1 n (ints a)) = (xs.set j ⟨xs[j].versions, a, xs[j].path, xs[j].cls⟩).flatMap eEndpoint := by subst hn; exact set_flat (o := 1) eEndpoint_len (by omega) h rfl
@[simp high] theorem eEndpoint_s2 {xs : List Endpoint} {j : Nat} (h : j < xs.length) {n : Nat} (a : List Box) (hn : n = a.length) : (xs.flatMap eEndpoint).set (j * 4 + 2) (.sl 0 4 n (a.flatMap eBox)) = (xs.set j ⟨xs[j].versions, xs[j].tags, a, xs[j].cls⟩).flatMap eEndpoint := by subst hn; exact set_flat (o := 2) eEndpoint_len (by omega) h rfl
@[simp high] theorem eEndpoint_s3 {xs : List Endpoint} {j : Nat} (h : j < xs.length) (a : Int) : (xs.flatMap eEndpoint).set (j * 4 + 3) (.sc (.int .i64 a)) = (xs.set j ⟨xs[j].versions, xs[j].tags, xs[j].path, a⟩).flatMap eEndpoint := set_flat (o := 3) eEndpoint_len (by omega) h rfl
@[simp high] theorem eLogged_s0 {xs : List Logged} {j : Nat} (h : j < xs.length) (a : Int) : (xs.flatMap eLogged).set (j * 8) (.sc (.int .i64 a)) = (xs.set j ⟨a, xs[j].tick, xs[j].on, ⟨⟨xs[j].dialed.deal.ok, xs[j].dialed.deal.version, xs[j].dialed.deal.tags⟩, xs[j].dialed.tries, xs[j].dialed.up⟩⟩).flatMap eLogged := set_flat (o := 0) eLogged_len (by omega) h rfl
@[simp high] theorem eLogged_s1 {xs : List Logged} {j : Nat} (h : j < xs.length) (a : Int) : (xs.flatMap eLogged).set (j * 8 + 1) (.sc (.int .i64 a)) = (xs.set j ⟨xs[j].fin, a, xs[j].on, ⟨⟨xs[j].dialed.deal.ok, xs[j].dialed.deal.version, xs[j].dialed.deal.tags⟩, xs[j].dialed.tries, xs[j].dialed.up⟩⟩).flatMap eLogged := set_flat (o := 1) eLogged_len (by omega) h rfl
@[simp high] theorem eLogged_s2 {xs : List Logged} {j : Nat} (h : j < xs.length) (a : Bool) : (xs.flatMap eLogged).set (j * 8 + 2) (.sc (.bool a)) = (xs.set j ⟨xs[j].fin, xs[j].tick, a, ⟨⟨xs[j].dialed.deal.ok, xs[j].dialed.deal.version, xs[j].dialed.deal.tags⟩, xs[j].dialed.tries, xs[j].dialed.up⟩⟩).flatMap eLogged := set_flat (o := 2) eLogged_len (by omega) h rfl
@[simp high] theorem eLogged_s3 {xs : List Logged} {j : Nat} (h : j < xs.length) (a : Bool) : (xs.flatMap eLogged).set (j * 8 + 3) (.sc (.bool a)) = (xs.set j ⟨xs[j].fin, xs[j].tick, xs[j].on, ⟨⟨a, xs[j].dialed.deal.version, xs[j].dialed.deal.tags⟩, xs[j].dialed.tries, xs[j].dialed.up⟩⟩).flatMap eLogged := set_flat (o := 3) eLogged_len (by omega) h rfl
@[simp high] theorem eLogged_s4 {xs : List Logged} {j : Nat} (h : j < xs.length) (a : Int) : (xs.flatMap eLogged).set (j * 8 + 4) (.sc (.int .i64 a)) = (xs.set j ⟨xs[j].fin, xs[j].tick, xs[j].on, ⟨⟨xs[j].dialed.deal.ok, a, xs[j].dialed.deal.tags⟩, xs[j].dialed.tries, xs[j].dialed.up⟩⟩).flatMap eLogged := set_flat (o := 4) eLogged_len (by omega) h rfl
@[simp high] theorem eLogged_s5 {xs : List Logged} {j : Nat} (h : j < xs.length) {n : Nat} (a : List Int) (hn : n = a.length) : (xs.flatMap eLogged).set (j * 8 + 5) (.sl 0 1 n (ints a)) = (xs.set j ⟨xs[j].fin, xs[j].tick, xs[j].on, ⟨⟨xs[j].dialed.deal.ok, xs[j].dialed.deal.version, a⟩, xs[j].dialed.tries, xs[j].dialed.up⟩⟩).flatMap eLogged := by subst hn; exact set_flat (o := 5) eLogged_len (by omega) h rfl
@[simp high] theorem eLogged_s6 {xs : List Logged} {j : Nat} (h : j < xs.length) (a : Int) : (xs.flatMap eLogged).set (j * 8 + 6) (.sc (.int .i64 a)) = (xs.set j ⟨xs[j].fin, xs[j].tick, xs[j].on, ⟨⟨xs[j].dialed.deal.ok, xs[j].dialed.deal.version, xs[j].dialed.deal.tags⟩, a, xs[j].dialed.up⟩⟩).flatMap eLogged := set_flat (o := 6) eLogged_len (by omega) h rfl
@[simp high] theorem eLogged_s7 {xs : List Logged} {j : Nat} (h : j < xs.length) {n : Nat} (a : List Int) (hn : n = a.length) : (xs.flatMap eLogged).set (j * 8 + 7) (.sl 0 1 n (ints a)) = (xs.set j ⟨xs[j].fin, xs[j].tick, xs[j].on, ⟨⟨xs[j].dialed.deal.ok, xs[j].dialed.deal.version, xs[j].dialed.deal.tags⟩, xs[j].dialed.tries, a⟩⟩).flatMap eLogged := by subst hn; exact set_flat (o := 7) eLogged_len (by omega) h rfl
@[simp high] theorem eEvent_s0 {xs : List Event} {j : Nat} (h : j < xs.length) (a : Int) : (xs.flatMap eEvent).set (j * 6) (.sc (.int .i64 a)) = (xs.set j ⟨a, xs[j].n, ⟨xs[j].box.limit, xs[j].box.drops, xs[j].box.strips, xs[j].box.lists⟩⟩).flatMap eEvent := set_flat (o := 0) eEvent_len (by omega) h rfl
@[simp high] theorem eEvent_s1 {xs : List Event} {j : Nat} (h : j < xs.length) (a : Int) : (xs.flatMap eEvent).set (j * 6 + 1) (.sc (.int .i64 a)) = (xs.set j ⟨xs[j].kind, a, ⟨xs[j].box.limit, xs[j].box.drops, xs[j].box.strips, xs[j].box.lists⟩⟩).flatMap eEvent := set_flat (o := 1) eEvent_len (by omega) h rfl
@[simp high] theorem eEvent_s2 {xs : List Event} {j : Nat} (h : j < xs.length) (a : Int) : (xs.flatMap eEvent).set (j * 6 + 2) (.sc (.int .i64 a)) = (xs.set j ⟨xs[j].kind, xs[j].n, ⟨a, xs[j].box.drops, xs[j].box.strips, xs[j].box.lists⟩⟩).flatMap eEvent := set_flat (o := 2) eEvent_len (by omega) h rfl
@[simp high] theorem eEvent_s3 {xs : List Event} {j : Nat} (h : j < xs.length) {n : Nat} (a : List Int) (hn : n = a.length) : (xs.flatMap eEvent).set (j * 6 + 3) (.sl 0 1 n (ints a)) = (xs.set j ⟨xs[j].kind, xs[j].n, ⟨xs[j].box.limit, a, xs[j].box.strips, xs[j].box.lists⟩⟩).flatMap eEvent := by subst hn; exact set_flat (o := 3) eEvent_len (by omega) h rfl
@[simp high] theorem eEvent_s4 {xs : List Event} {j : Nat} (h : j < xs.length) {n : Nat} (a : List Int) (hn : n = a.length) : (xs.flatMap eEvent).set (j * 6 + 4) (.sl 0 1 n (ints a)) = (xs.set j ⟨xs[j].kind, xs[j].n, ⟨xs[j].box.limit, xs[j].box.drops, a, xs[j].box.lists⟩⟩).flatMap eEvent := by subst hn; exact set_flat (o := 4) eEvent_len (by omega) h rfl
@[simp high] theorem eEvent_s5 {xs : List Event} {j : Nat} (h : j < xs.length) (a : Bool) : (xs.flatMap eEvent).set (j * 6 + 5) (.sc (.bool a)) = (xs.set j ⟨xs[j].kind, xs[j].n, ⟨xs[j].box.limit, xs[j].box.drops, xs[j].box.strips, a⟩⟩).flatMap eEvent := set_flat (o := 5) eEvent_len (by omega) h rfl
def mcDeal (x : Deal) : Nat := x.tags.length
def mkDeal (x : Deal) (k : Int) : Deal := ⟨x.ok, x.version, nums x.tags.length (k)⟩
def mcBox (x : Box) : Nat := 1 + x.drops.length + x.strips.length + 1
def mkBox (x : Box) (k : Int) : Box := ⟨k, nums x.drops.length (k + 1), nums x.strips.length (k + 1 + ((x.drops.length : Nat) : Int)), ((k + 1 + ((x.drops.length : Nat) : Int) + ((x.strips.length : Nat) : Int)).tmod 3 == 0)⟩
def mcDialed (x : Dialed) : Nat := 1 + 1 + x.deal.tags.length + 1 + x.up.length
def mkDialed (x : Dialed) (k : Int) : Dialed := ⟨⟨((k).tmod 3 == 0), k + 1, nums x.deal.tags.length (k + 1 + 1)⟩, k + 1 + 1 + ((x.deal.tags.length : Nat) : Int), nums x.up.length (k + 1 + 1 + ((x.deal.tags.length : Nat) : Int) + 1)⟩
def mcEndpoint (x : Endpoint) : Nat := x.versions.length + x.tags.length + mcL mcBox x.path + 1
def mkEndpoint (x : Endpoint) (k : Int) : Endpoint := ⟨nums x.versions.length (k), nums x.tags.length (k + ((x.versions.length : Nat) : Int)), mkL mcBox mkBox x.path (k + ((x.versions.length : Nat) : Int) + ((x.tags.length : Nat) : Int)), k + ((x.versions.length : Nat) : Int) + ((x.tags.length : Nat) : Int) + ((mcL mcBox x.path : Nat) : Int)⟩
def mcLogged (x : Logged) : Nat := 1 + 1 + 1 + 1 + 1 + x.dialed.deal.tags.length + 1 + x.dialed.up.length
def mkLogged (x : Logged) (k : Int) : Logged := ⟨k, k + 1, ((k + 1 + 1).tmod 3 == 0), ⟨⟨((k + 1 + 1 + 1).tmod 3 == 0), k + 1 + 1 + 1 + 1, nums x.dialed.deal.tags.length (k + 1 + 1 + 1 + 1 + 1)⟩, k + 1 + 1 + 1 + 1 + 1 + ((x.dialed.deal.tags.length : Nat) : Int), nums x.dialed.up.length (k + 1 + 1 + 1 + 1 + 1 + ((x.dialed.deal.tags.length : Nat) : Int) + 1)⟩⟩
def mcEvent (x : Event) : Nat := 1 + 1 + 1 + x.box.drops.length + x.box.strips.length + 1
def mkEvent (x : Event) (k : Int) : Event := ⟨k, k + 1, ⟨k + 1 + 1, nums x.box.drops.length (k + 1 + 1 + 1), nums x.box.strips.length (k + 1 + 1 + 1 + ((x.box.drops.length : Nat) : Int)), ((k + 1 + 1 + 1 + ((x.box.drops.length : Nat) : Int) + ((x.box.strips.length : Nat) : Int)).tmod 3 == 0)⟩⟩
def mcRollout (x : Rollout) : Nat := x.stages.length
def mkRollout (x : Rollout) (k : Int) : Rollout := ⟨x.version, nums x.stages.length (k), x.pos, x.off⟩
def mcWorld (x : World) : Nat := x.server.length + x.tags.length + mcL mcEndpoint x.ends + x.rollout.stages.length + mcL mcDialed x.stage + mcL mcLogged x.log
def mkWorld (x : World) (k : Int) : World := ⟨nums x.server.length (k), nums x.tags.length (k + ((x.server.length : Nat) : Int)), x.key, mkL mcEndpoint mkEndpoint x.ends (k + ((x.server.length : Nat) : Int) + ((x.tags.length : Nat) : Int)), ⟨x.rollout.version, nums x.rollout.stages.length (k + ((x.server.length : Nat) : Int) + ((x.tags.length : Nat) : Int) + ((mcL mcEndpoint x.ends : Nat) : Int)), x.rollout.pos, x.rollout.off⟩, x.least, x.percent, mkL mcDialed mkDialed x.stage (k + ((x.server.length : Nat) : Int) + ((x.tags.length : Nat) : Int) + ((mcL mcEndpoint x.ends : Nat) : Int) + ((x.rollout.stages.length : Nat) : Int)), mkL mcLogged mkLogged x.log (k + ((x.server.length : Nat) : Int) + ((x.tags.length : Nat) : Int) + ((mcL mcEndpoint x.ends : Nat) : Int) + ((x.rollout.stages.length : Nat) : Int) + ((mcL mcDialed x.stage : Nat) : Int)), x.now, x.hurt, x.reached⟩
def mcTBox (x : Box) : Nat := x.drops.length + x.strips.length
def mkTBox (x : Box) (k : Int) : Box := ⟨x.limit, nums x.drops.length (k), nums x.strips.length (k + ((x.drops.length : Nat) : Int)), x.lists⟩
def mcTDialed (x : Dialed) : Nat := x.deal.tags.length + x.up.length
def mkTDialed (x : Dialed) (k : Int) : Dialed := ⟨⟨x.deal.ok, x.deal.version, nums x.deal.tags.length (k)⟩, x.tries, nums x.up.length (k + ((x.deal.tags.length : Nat) : Int))⟩
def mcTEndpoint (x : Endpoint) : Nat := x.versions.length + x.tags.length + mcL mcBox x.path
def mkTEndpoint (x : Endpoint) (k : Int) : Endpoint := ⟨nums x.versions.length (k), nums x.tags.length (k + ((x.versions.length : Nat) : Int)), mkL mcBox mkBox x.path (k + ((x.versions.length : Nat) : Int) + ((x.tags.length : Nat) : Int)), x.cls⟩
def mcTLogged (x : Logged) : Nat := x.dialed.deal.tags.length + x.dialed.up.length
def mkTLogged (x : Logged) (k : Int) : Logged := ⟨x.fin, x.tick, x.on, ⟨⟨x.dialed.deal.ok, x.dialed.deal.version, nums x.dialed.deal.tags.length (k)⟩, x.dialed.tries, nums x.dialed.up.length (k + ((x.dialed.deal.tags.length : Nat) : Int))⟩⟩
def mcTEvent (x : Event) : Nat := x.box.drops.length + x.box.strips.length
def mkTEvent (x : Event) (k : Int) : Event := ⟨x.kind, x.n, ⟨x.box.limit, nums x.box.drops.length (k), nums x.box.strips.length (k + ((x.box.drops.length : Nat) : Int)), x.box.lists⟩⟩
end Go.Eng.T

namespace Go.Eng.T
theorem datL_cons {y : Ty} {ys : List Ty} {cs : List V} (h : DatL (y :: ys) cs) : ∃ a b, Dat y a ∧ DatL ys b ∧ cs = a ++ b := by simp only [DatL] at h; exact h
theorem datL_nil {cs : List V} (h : DatL [] cs) : cs = [] := by simp only [DatL] at h; exact h
theorem dat_st {ys : List Ty} {cs : List V} (h : Dat (.st ys) cs) : DatL ys cs := by simp only [Dat] at h; exact h
def rgI (n : Int) : Prop := -9223372036854775808 ≤ n ∧ n ≤ 9223372036854775807
theorem rg_of {n : Int} (h : (Lit.int .i64 n).wf = true) : rgI n := by
  simp only [Lit.wf, IntKind.min, IntKind.max, IntKind.bits, IntKind.signed, Bool.and_eq_true, decide_eq_true_eq] at h
  exact ⟨h.1, h.2⟩
theorem datI {cs : List V} (h : Dat (.int .i64) cs) : ∃ n, cs = [.sc (.int .i64 n)] ∧ rgI n := by
  simp only [Dat] at h
  obtain ⟨n, h1, h2⟩ := h
  exact ⟨n, h2, rg_of h1⟩
theorem datB {cs : List V} (h : Dat .bool cs) : ∃ b, cs = [.sc (.bool b)] := by simp only [Dat] at h; exact h
theorem datS {cs : List V} (h : Dat .str cs) : ∃ s : ByteArray, cs = [.sc (.string s)] ∧ s.size ≤ maxLen := by
  simp only [Dat] at h
  obtain ⟨n, h1, h2⟩ := h
  exact ⟨n, h2, h1⟩
theorem choose_row {α : Type} {f : α → List V} {p : α → Prop} : ∀ {xs : List (List V)}, (∀ x, x ∈ xs → ∃ d, x = f d ∧ p d) → ∃ ds : List α, xs = ds.map f ∧ ∀ d, d ∈ ds → p d
  | [], _ => ⟨[], rfl, by simp⟩
  | x :: xs, h => by
    obtain ⟨d, rfl, hd⟩ := h x (by simp)
    obtain ⟨ds, rfl, hds⟩ := choose_row (xs := xs) fun y hy => h y (by simp [hy])
    exact ⟨d :: ds, rfl, by intro y hy; rcases List.mem_cons.1 hy with rfl | hy; exact hd; exact hds y hy⟩
theorem datRow {α : Type} {y : Ty} {f : α → List V} {p : α → Prop} (hf : ∀ cs, Dat y cs → ∃ d, cs = f d ∧ p d) {cs : List V} (h : Dat (.sl y) cs) :
    ∃ ds : List α, cs = [.sl 0 y.cells ds.length (ds.flatMap f)] ∧ ds.length ≤ maxLen ∧ ∀ d, d ∈ ds → p d := by
  simp only [Dat] at h
  obtain ⟨xs, h1, h2, rfl⟩ := h
  obtain ⟨ds, rfl, h3⟩ := choose_row (f := f) (p := p) (xs := xs) fun x hx => hf x (h2 x hx)
  exact ⟨ds, by simp [List.flatMap_def], by simpa using h1, h3⟩
def rgInts (xs : List Int) : Prop := ∀ x, x ∈ xs → rgI x
def rgS {α : Type} (f : α → Prop) (xs : List α) : Prop := ∀ x, x ∈ xs → f x
theorem datInts {cs : List V} (h : Dat (.sl (.int .i64)) cs) : ∃ xs : List Int, cs = [.sl 0 1 xs.length (ints xs)] ∧ lnInts xs ∧ rgInts xs := by
  obtain ⟨ds, h1, h2, h3⟩ := datRow (f := fun n => [V.sc (.int .i64 n)]) (p := rgI) (fun cs h => datI h) h
  refine ⟨ds, ?_, h2, h3⟩
  have e : ds.flatMap (fun n => [V.sc (.int .i64 n)]) = ints ds := by
    clear h1 h2 h3
    induction ds with
    | nil => rfl
    | cons a ds ih => rw [List.flatMap_cons, ih]; rfl
  rw [h1, e]
  rfl
def tyDeal : Ty := .st [.bool, .int .i64, .sl (.int .i64)]
def rgDeal (d : Deal) : Prop := rgI d.version ∧ rgInts d.tags
theorem datDeal {cs : List V} (h : Dat tyDeal cs) : ∃ x : Deal, cs = eDeal x ∧ lnDeal x ∧ rgDeal x := by
  have h0 := dat_st h
  obtain ⟨a0, r0, g0, h1, e0⟩ := datL_cons h0
  obtain ⟨x0, rfl⟩ := datB g0
  obtain ⟨a1, r1, g1, h2, e1⟩ := datL_cons h1
  obtain ⟨x1, rfl, w1⟩ := datI g1
  obtain ⟨a2, r2, g2, h3, e2⟩ := datL_cons h2
  obtain ⟨x2, rfl, l2, w2⟩ := datInts g2
  have z := datL_nil h3
  subst z; subst e2; subst e1; subst e0
  exact ⟨⟨x0, x1, x2⟩, rfl, l2, ⟨w1, w2⟩⟩
def tyBox : Ty := .st [.int .i64, .sl (.int .i64), .sl (.int .i64), .bool]
def rgBox (d : Box) : Prop := rgI d.limit ∧ rgInts d.drops ∧ rgInts d.strips
theorem datBox {cs : List V} (h : Dat tyBox cs) : ∃ x : Box, cs = eBox x ∧ lnBox x ∧ rgBox x := by
  have h0 := dat_st h
  obtain ⟨a0, r0, g0, h1, e0⟩ := datL_cons h0
  obtain ⟨x0, rfl, w0⟩ := datI g0
  obtain ⟨a1, r1, g1, h2, e1⟩ := datL_cons h1
  obtain ⟨x1, rfl, l1, w1⟩ := datInts g1
  obtain ⟨a2, r2, g2, h3, e2⟩ := datL_cons h2
  obtain ⟨x2, rfl, l2, w2⟩ := datInts g2
  obtain ⟨a3, r3, g3, h4, e3⟩ := datL_cons h3
  obtain ⟨x3, rfl⟩ := datB g3
  have z := datL_nil h4
  subst z; subst e3; subst e2; subst e1; subst e0
  exact ⟨⟨x0, x1, x2, x3⟩, rfl, ⟨l1, l2⟩, ⟨w0, w1, w2⟩⟩
theorem datBoxS {cs : List V} (h : Dat (.sl tyBox) cs) : ∃ xs : List Box, cs = [.sl 0 4 xs.length (xs.flatMap eBox)] ∧ lnS lnBox xs ∧ rgS rgBox xs := by
  obtain ⟨ds, h1, h2, h3⟩ := datRow (f := eBox) (p := fun x => lnBox x ∧ rgBox x) (fun cs h => datBox h) h
  exact ⟨ds, h1, ⟨h2, fun j hj => (h3 _ (List.getElem_mem hj)).1⟩, fun x hx => (h3 x hx).2⟩
def tyDialed : Ty := .st [tyDeal, .int .i64, .sl (.int .i64)]
def rgDialed (d : Dialed) : Prop := rgDeal d.deal ∧ rgI d.tries ∧ rgInts d.up
theorem datDialed {cs : List V} (h : Dat tyDialed cs) : ∃ x : Dialed, cs = eDialed x ∧ lnDialed x ∧ rgDialed x := by
  have h0 := dat_st h
  obtain ⟨a0, r0, g0, h1, e0⟩ := datL_cons h0
  obtain ⟨x0, rfl, l0, w0⟩ := datDeal g0
  obtain ⟨a1, r1, g1, h2, e1⟩ := datL_cons h1
  obtain ⟨x1, rfl, w1⟩ := datI g1
  obtain ⟨a2, r2, g2, h3, e2⟩ := datL_cons h2
  obtain ⟨x2, rfl, l2, w2⟩ := datInts g2
  have z := datL_nil h3
  subst z; subst e2; subst e1; subst e0
  exact ⟨⟨x0, x1, x2⟩, rfl, ⟨l0, l2⟩, ⟨w0, w1, w2⟩⟩
theorem datDialedS {cs : List V} (h : Dat (.sl tyDialed) cs) : ∃ xs : List Dialed, cs = [.sl 0 5 xs.length (xs.flatMap eDialed)] ∧ lnS lnDialed xs ∧ rgS rgDialed xs := by
  obtain ⟨ds, h1, h2, h3⟩ := datRow (f := eDialed) (p := fun x => lnDialed x ∧ rgDialed x) (fun cs h => datDialed h) h
  exact ⟨ds, h1, ⟨h2, fun j hj => (h3 _ (List.getElem_mem hj)).1⟩, fun x hx => (h3 x hx).2⟩
def tyRollout : Ty := .st [.int .i64, .sl (.int .i64), .int .i64, .bool]
def rgRollout (d : Rollout) : Prop := rgI d.version ∧ rgInts d.stages ∧ rgI d.pos
theorem datRollout {cs : List V} (h : Dat tyRollout cs) : ∃ x : Rollout, cs = eRollout x ∧ lnRollout x ∧ rgRollout x := by
  have h0 := dat_st h
  obtain ⟨a0, r0, g0, h1, e0⟩ := datL_cons h0
  obtain ⟨x0, rfl, w0⟩ := datI g0
  obtain ⟨a1, r1, g1, h2, e1⟩ := datL_cons h1
  obtain ⟨x1, rfl, l1, w1⟩ := datInts g1
  obtain ⟨a2, r2, g2, h3, e2⟩ := datL_cons h2
  obtain ⟨x2, rfl, w2⟩ := datI g2
  obtain ⟨a3, r3, g3, h4, e3⟩ := datL_cons h3
  obtain ⟨x3, rfl⟩ := datB g3
  have z := datL_nil h4
  subst z; subst e3; subst e2; subst e1; subst e0
  exact ⟨⟨x0, x1, x2, x3⟩, rfl, l1, ⟨w0, w1, w2⟩⟩
def tyEndpoint : Ty := .st [.sl (.int .i64), .sl (.int .i64), .sl tyBox, .int .i64]
def rgEndpoint (d : Endpoint) : Prop := rgInts d.versions ∧ rgInts d.tags ∧ rgS rgBox d.path ∧ rgI d.cls
theorem datEndpoint {cs : List V} (h : Dat tyEndpoint cs) : ∃ x : Endpoint, cs = eEndpoint x ∧ lnEndpoint x ∧ rgEndpoint x := by
  have h0 := dat_st h
  obtain ⟨a0, r0, g0, h1, e0⟩ := datL_cons h0
  obtain ⟨x0, rfl, l0, w0⟩ := datInts g0
  obtain ⟨a1, r1, g1, h2, e1⟩ := datL_cons h1
  obtain ⟨x1, rfl, l1, w1⟩ := datInts g1
  obtain ⟨a2, r2, g2, h3, e2⟩ := datL_cons h2
  obtain ⟨x2, rfl, l2, w2⟩ := datBoxS g2
  obtain ⟨a3, r3, g3, h4, e3⟩ := datL_cons h3
  obtain ⟨x3, rfl, w3⟩ := datI g3
  have z := datL_nil h4
  subst z; subst e3; subst e2; subst e1; subst e0
  exact ⟨⟨x0, x1, x2, x3⟩, rfl, ⟨l0, l1, l2⟩, ⟨w0, w1, w2, w3⟩⟩
theorem datEndpointS {cs : List V} (h : Dat (.sl tyEndpoint) cs) : ∃ xs : List Endpoint, cs = [.sl 0 4 xs.length (xs.flatMap eEndpoint)] ∧ lnS lnEndpoint xs ∧ rgS rgEndpoint xs := by
  obtain ⟨ds, h1, h2, h3⟩ := datRow (f := eEndpoint) (p := fun x => lnEndpoint x ∧ rgEndpoint x) (fun cs h => datEndpoint h) h
  exact ⟨ds, h1, ⟨h2, fun j hj => (h3 _ (List.getElem_mem hj)).1⟩, fun x hx => (h3 x hx).2⟩
def tyLogged : Ty := .st [.int .i64, .int .i64, .bool, tyDialed]
def rgLogged (d : Logged) : Prop := rgI d.fin ∧ rgI d.tick ∧ rgDialed d.dialed
theorem datLogged {cs : List V} (h : Dat tyLogged cs) : ∃ x : Logged, cs = eLogged x ∧ lnLogged x ∧ rgLogged x := by
  have h0 := dat_st h
  obtain ⟨a0, r0, g0, h1, e0⟩ := datL_cons h0
  obtain ⟨x0, rfl, w0⟩ := datI g0
  obtain ⟨a1, r1, g1, h2, e1⟩ := datL_cons h1
  obtain ⟨x1, rfl, w1⟩ := datI g1
  obtain ⟨a2, r2, g2, h3, e2⟩ := datL_cons h2
  obtain ⟨x2, rfl⟩ := datB g2
  obtain ⟨a3, r3, g3, h4, e3⟩ := datL_cons h3
  obtain ⟨x3, rfl, l3, w3⟩ := datDialed g3
  have z := datL_nil h4
  subst z; subst e3; subst e2; subst e1; subst e0
  exact ⟨⟨x0, x1, x2, x3⟩, rfl, l3, ⟨w0, w1, w3⟩⟩
theorem datLoggedS {cs : List V} (h : Dat (.sl tyLogged) cs) : ∃ xs : List Logged, cs = [.sl 0 8 xs.length (xs.flatMap eLogged)] ∧ lnS lnLogged xs ∧ rgS rgLogged xs := by
  obtain ⟨ds, h1, h2, h3⟩ := datRow (f := eLogged) (p := fun x => lnLogged x ∧ rgLogged x) (fun cs h => datLogged h) h
  exact ⟨ds, h1, ⟨h2, fun j hj => (h3 _ (List.getElem_mem hj)).1⟩, fun x hx => (h3 x hx).2⟩
def tyWorld : Ty := .st [.sl (.int .i64), .sl (.int .i64), .int .i64, .sl tyEndpoint, tyRollout, .int .i64, .int .i64, .sl tyDialed, .sl tyLogged, .int .i64, .int .i64, .int .i64]
def rgWorld (d : World) : Prop := rgInts d.server ∧ rgInts d.tags ∧ rgI d.key ∧ rgS rgEndpoint d.ends ∧ rgRollout d.rollout ∧ rgI d.least ∧ rgI d.percent ∧ rgS rgDialed d.stage ∧ rgS rgLogged d.log ∧ rgI d.now ∧ rgI d.hurt ∧ rgI d.reached
theorem datWorld {cs : List V} (h : Dat tyWorld cs) : ∃ x : World, cs = eWorld x ∧ lnWorld x ∧ rgWorld x := by
  have h0 := dat_st h
  obtain ⟨a0, r0, g0, h1, e0⟩ := datL_cons h0
  obtain ⟨x0, rfl, l0, w0⟩ := datInts g0
  obtain ⟨a1, r1, g1, h2, e1⟩ := datL_cons h1
  obtain ⟨x1, rfl, l1, w1⟩ := datInts g1
  obtain ⟨a2, r2, g2, h3, e2⟩ := datL_cons h2
  obtain ⟨x2, rfl, w2⟩ := datI g2
  obtain ⟨a3, r3, g3, h4, e3⟩ := datL_cons h3
  obtain ⟨x3, rfl, l3, w3⟩ := datEndpointS g3
  obtain ⟨a4, r4, g4, h5, e4⟩ := datL_cons h4
  obtain ⟨x4, rfl, l4, w4⟩ := datRollout g4
  obtain ⟨a5, r5, g5, h6, e5⟩ := datL_cons h5
  obtain ⟨x5, rfl, w5⟩ := datI g5
  obtain ⟨a6, r6, g6, h7, e6⟩ := datL_cons h6
  obtain ⟨x6, rfl, w6⟩ := datI g6
  obtain ⟨a7, r7, g7, h8, e7⟩ := datL_cons h7
  obtain ⟨x7, rfl, l7, w7⟩ := datDialedS g7
  obtain ⟨a8, r8, g8, h9, e8⟩ := datL_cons h8
  obtain ⟨x8, rfl, l8, w8⟩ := datLoggedS g8
  obtain ⟨a9, r9, g9, h10, e9⟩ := datL_cons h9
  obtain ⟨x9, rfl, w9⟩ := datI g9
  obtain ⟨a10, r10, g10, h11, e10⟩ := datL_cons h10
  obtain ⟨x10, rfl, w10⟩ := datI g10
  obtain ⟨a11, r11, g11, h12, e11⟩ := datL_cons h11
  obtain ⟨x11, rfl, w11⟩ := datI g11
  have z := datL_nil h12
  subst z; subst e11; subst e10; subst e9; subst e8; subst e7; subst e6; subst e5; subst e4; subst e3; subst e2; subst e1; subst e0
  exact ⟨⟨x0, x1, x2, x3, x4, x5, x6, x7, x8, x9, x10, x11⟩, rfl, ⟨l0, l1, l3, l4, l7, l8⟩, ⟨w0, w1, w2, w3, w4, w5, w6, w7, w8, w9, w10, w11⟩⟩
def tyEvent : Ty := .st [.int .i64, .int .i64, tyBox]
def rgEvent (d : Event) : Prop := rgI d.kind ∧ rgI d.n ∧ rgBox d.box
theorem datEvent {cs : List V} (h : Dat tyEvent cs) : ∃ x : Event, cs = eEvent x ∧ lnEvent x ∧ rgEvent x := by
  have h0 := dat_st h
  obtain ⟨a0, r0, g0, h1, e0⟩ := datL_cons h0
  obtain ⟨x0, rfl, w0⟩ := datI g0
  obtain ⟨a1, r1, g1, h2, e1⟩ := datL_cons h1
  obtain ⟨x1, rfl, w1⟩ := datI g1
  obtain ⟨a2, r2, g2, h3, e2⟩ := datL_cons h2
  obtain ⟨x2, rfl, l2, w2⟩ := datBox g2
  have z := datL_nil h3
  subst z; subst e2; subst e1; subst e0
  exact ⟨⟨x0, x1, x2⟩, rfl, l2, ⟨w0, w1, w2⟩⟩
theorem datEventS {cs : List V} (h : Dat (.sl tyEvent) cs) : ∃ xs : List Event, cs = [.sl 0 6 xs.length (xs.flatMap eEvent)] ∧ lnS lnEvent xs ∧ rgS rgEvent xs := by
  obtain ⟨ds, h1, h2, h3⟩ := datRow (f := eEvent) (p := fun x => lnEvent x ∧ rgEvent x) (fun cs h => datEvent h) h
  exact ⟨ds, h1, ⟨h2, fun j hj => (h3 _ (List.getElem_mem hj)).1⟩, fun x hx => (h3 x hx).2⟩

theorem argI {v : V} (h : ArgV (.int .i64) v) : ∃ n, v = I n ∧ rgI n := by
  obtain ⟨c, hd, rfl⟩ := h
  obtain ⟨n, e, w⟩ := datI hd
  cases e
  exact ⟨n, rfl, w⟩
theorem argB {v : V} (h : ArgV .bool v) : ∃ b, v = B b := by
  obtain ⟨c, hd, rfl⟩ := h
  obtain ⟨n, e⟩ := datB hd
  cases e
  exact ⟨n, rfl⟩
theorem argS {v : V} (h : ArgV .str v) : ∃ s : ByteArray, v = S s ∧ s.size ≤ maxLen := by
  obtain ⟨c, hd, rfl⟩ := h
  obtain ⟨n, e, w⟩ := datS hd
  cases e
  exact ⟨n, rfl, w⟩
theorem argInts {v : V} (h : ArgV (.sl (.int .i64)) v) : ∃ xs : List Int, v = .sl 1 1 xs.length (ints xs) ∧ lnInts xs ∧ rgInts xs := by
  obtain ⟨c, hd, rfl⟩ := h
  obtain ⟨xs, e, w⟩ := datInts hd
  cases e
  exact ⟨xs, rfl, w⟩
theorem argDeal {v : V} (h : ArgV tyDeal v) : ∃ x : Deal, v = arg (eDeal x) ∧ lnDeal x ∧ rgDeal x := by
  obtain ⟨cs, hd, rfl⟩ := h
  obtain ⟨x, rfl, w⟩ := datDeal hd
  exact ⟨x, rfl, w⟩
theorem argBox {v : V} (h : ArgV tyBox v) : ∃ x : Box, v = arg (eBox x) ∧ lnBox x ∧ rgBox x := by
  obtain ⟨cs, hd, rfl⟩ := h
  obtain ⟨x, rfl, w⟩ := datBox hd
  exact ⟨x, rfl, w⟩
theorem argBoxS {v : V} (h : ArgV (.sl tyBox) v) : ∃ xs : List Box, v = .sl 1 4 xs.length (xs.flatMap eBox) ∧ lnS lnBox xs ∧ rgS rgBox xs := by
  obtain ⟨c, hd, rfl⟩ := h
  obtain ⟨xs, e, w⟩ := datBoxS hd
  cases e
  exact ⟨xs, rfl, w⟩
theorem argDialed {v : V} (h : ArgV tyDialed v) : ∃ x : Dialed, v = arg (eDialed x) ∧ lnDialed x ∧ rgDialed x := by
  obtain ⟨cs, hd, rfl⟩ := h
  obtain ⟨x, rfl, w⟩ := datDialed hd
  exact ⟨x, rfl, w⟩
theorem argDialedS {v : V} (h : ArgV (.sl tyDialed) v) : ∃ xs : List Dialed, v = .sl 1 5 xs.length (xs.flatMap eDialed) ∧ lnS lnDialed xs ∧ rgS rgDialed xs := by
  obtain ⟨c, hd, rfl⟩ := h
  obtain ⟨xs, e, w⟩ := datDialedS hd
  cases e
  exact ⟨xs, rfl, w⟩
theorem argRollout {v : V} (h : ArgV tyRollout v) : ∃ x : Rollout, v = arg (eRollout x) ∧ lnRollout x ∧ rgRollout x := by
  obtain ⟨cs, hd, rfl⟩ := h
  obtain ⟨x, rfl, w⟩ := datRollout hd
  exact ⟨x, rfl, w⟩
theorem argEndpoint {v : V} (h : ArgV tyEndpoint v) : ∃ x : Endpoint, v = arg (eEndpoint x) ∧ lnEndpoint x ∧ rgEndpoint x := by
  obtain ⟨cs, hd, rfl⟩ := h
  obtain ⟨x, rfl, w⟩ := datEndpoint hd
  exact ⟨x, rfl, w⟩
theorem argEndpointS {v : V} (h : ArgV (.sl tyEndpoint) v) : ∃ xs : List Endpoint, v = .sl 1 4 xs.length (xs.flatMap eEndpoint) ∧ lnS lnEndpoint xs ∧ rgS rgEndpoint xs := by
  obtain ⟨c, hd, rfl⟩ := h
  obtain ⟨xs, e, w⟩ := datEndpointS hd
  cases e
  exact ⟨xs, rfl, w⟩
theorem argLogged {v : V} (h : ArgV tyLogged v) : ∃ x : Logged, v = arg (eLogged x) ∧ lnLogged x ∧ rgLogged x := by
  obtain ⟨cs, hd, rfl⟩ := h
  obtain ⟨x, rfl, w⟩ := datLogged hd
  exact ⟨x, rfl, w⟩
theorem argLoggedS {v : V} (h : ArgV (.sl tyLogged) v) : ∃ xs : List Logged, v = .sl 1 8 xs.length (xs.flatMap eLogged) ∧ lnS lnLogged xs ∧ rgS rgLogged xs := by
  obtain ⟨c, hd, rfl⟩ := h
  obtain ⟨xs, e, w⟩ := datLoggedS hd
  cases e
  exact ⟨xs, rfl, w⟩
theorem argWorld {v : V} (h : ArgV tyWorld v) : ∃ x : World, v = arg (eWorld x) ∧ lnWorld x ∧ rgWorld x := by
  obtain ⟨cs, hd, rfl⟩ := h
  obtain ⟨x, rfl, w⟩ := datWorld hd
  exact ⟨x, rfl, w⟩
theorem argEvent {v : V} (h : ArgV tyEvent v) : ∃ x : Event, v = arg (eEvent x) ∧ lnEvent x ∧ rgEvent x := by
  obtain ⟨cs, hd, rfl⟩ := h
  obtain ⟨x, rfl, w⟩ := datEvent hd
  exact ⟨x, rfl, w⟩
theorem argEventS {v : V} (h : ArgV (.sl tyEvent) v) : ∃ xs : List Event, v = .sl 1 6 xs.length (xs.flatMap eEvent) ∧ lnS lnEvent xs ∧ rgS rgEvent xs := by
  obtain ⟨c, hd, rfl⟩ := h
  obtain ⟨xs, e, w⟩ := datEventS hd
  cases e
  exact ⟨xs, rfl, w⟩
end Go.Eng.T

namespace Go.Eng.T
theorem szl_lt {n : Nat} {l : Int} (h : l < n) : szl n l = -1 := by unfold szl; rw [if_pos h]
theorem szl_ge {n : Nat} {l : Int} (h : ¬ l < n) : szl n l = l - n := by unfold szl; rw [if_neg h]
theorem mcL_sz {α : Type} {mc sz : α → Nat} (c : Nat) (h : ∀ x, mc x ≤ c * (1 + sz x)) (xs : List α) : mcL mc xs ≤ c * sumF sz xs := by
  induction xs with
  | nil => simp [mcL]
  | cons x r ih =>
    have := h x
    simp only [mcL, sumF, List.map_cons, List.sum_cons, List.length_cons] at *
    rw [Nat.mul_add] at *
    rw [Nat.mul_add] at *
    rw [Nat.mul_add]
    omega
theorem mc_szBoxS (xs : List Box) : mcL mcBox xs ≤ 2 * sumF szBox xs := mcL_sz 2 (fun x => by unfold mcBox szBox; omega) xs
theorem mc_szEndpoint (x : Endpoint) : mcEndpoint x ≤ 2 * (1 + szEndpoint x) := by have := mc_szBoxS x.path; unfold mcEndpoint szEndpoint; omega
theorem mc_szEndpointS (xs : List Endpoint) : mcL mcEndpoint xs ≤ 2 * sumF szEndpoint xs := mcL_sz 2 mc_szEndpoint xs
theorem mc_szDialedS (xs : List Dialed) : mcL mcDialed xs ≤ 3 * sumF szDialed xs := mcL_sz 3 (fun x => by unfold mcDialed szDialed szDeal; omega) xs
theorem mc_szLoggedS (xs : List Logged) : mcL mcLogged xs ≤ 6 * sumF szLogged xs := mcL_sz 6 (fun x => by unfold mcLogged szLogged szDialed szDeal; omega) xs
theorem mc_szEventS (xs : List Event) : mcL mcEvent xs ≤ 4 * sumF szEvent xs := mcL_sz 4 (fun x => by unfold mcEvent szEvent szBox; omega) xs
theorem mc_szWorld (x : World) : mcWorld x ≤ 6 * szWorld x := by
  have := mc_szEndpointS x.ends
  have := mc_szDialedS x.stage
  have := mc_szLoggedS x.log
  unfold mcWorld szWorld szRollout; omega
theorem mc_szBox (x : Box) : mcTBox x ≤ szBox x := by unfold mcTBox szBox; omega
theorem mc_szDialed (x : Dialed) : mcTDialed x ≤ szDialed x := by unfold mcTDialed szDialed szDeal; omega
theorem mc_szDeal (x : Deal) : mcDeal x ≤ szDeal x := by unfold mcDeal szDeal; omega
theorem mc_szEvent (x : Event) : mcTEvent x ≤ szEvent x := by unfold mcTEvent szEvent szBox; omega
theorem mc_szRollout (x : Rollout) : mcRollout x ≤ szRollout x := by unfold mcRollout szRollout; omega
theorem mc_szEndpoint' (x : Endpoint) : mcTEndpoint x ≤ 2 * szEndpoint x := by have := mc_szBoxS x.path; unfold mcTEndpoint szEndpoint; omega
/-- sizes of a world's parts -/
theorem world_log {w : World} (h : szWorld w ≤ 4194304) : w.log.length ≤ 4194304 := by have := size_len (f := szLogged) (xs := w.log); unfold szWorld at h; omega
theorem world_ends {w : World} (h : szWorld w ≤ 4194304) : w.ends.length ≤ 4194304 := by have := size_len (f := szEndpoint) (xs := w.ends); unfold szWorld at h; omega
theorem world_stage {w : World} (h : szWorld w ≤ 4194304) : w.stage.length ≤ 4194304 := by have := size_len (f := szDialed) (xs := w.stage); unfold szWorld at h; omega
theorem beqI (a b : Int) : (a == b) = decide (a = b) := by by_cases h : a = b <;> simp [h]
end Go.Eng.T

namespace Go.Eng.T
open Go.Lib
set_option maxRecDepth 20000
set_option maxHeartbeats 1000000

def bts (l : List UInt8) : ByteArray := ⟨l.toArray⟩
@[simp] theorem bts_size (l : List UInt8) : (bts l).size = l.length := by simp [bts, ByteArray.size]
@[simp] theorem bts_app (a b : List UInt8) : bts a ++ bts b = bts (a ++ b) := by
  apply ByteArray.ext
  simp [bts]
@[simp] theorem bts_lit (l : List UInt8) : ByteArray.mk l.toArray = bts l := rfl
@[simp] theorem bts_nil : ByteArray.mk #[] = bts [] := rfl
abbrev Sb (l : List UInt8) : V := .sc (.string (bts l))
def strs (ls : List (List UInt8)) : List V := ls.map fun l => Sb l
@[simp high] theorem strs_len (xs : List (List UInt8)) : (strs xs).length = xs.length := by simp [strs]
@[simp] theorem strs_nil : strs [] = [] := rfl
@[simp] theorem strs_ro (xs : List (List UInt8)) (k : Nat) : (strs xs).map (roCell k) = strs xs := by simp [strs, Function.comp_def, roCell]
@[simp] theorem strs_push (xs : List (List UInt8)) (l : List UInt8) : strs xs ++ [V.sc (.string (bts l))] = strs (xs ++ [l]) := by simp [strs]

theorem itoa_len {n : Int} (h : rgI n) : (itoa n).length ≤ 20 := by
  have key : ∀ u : Nat, u ≤ 9223372036854775808 → (decDigits u).length ≤ 19 := by
    intro u hu
    rw [decDigits_length]
    by_cases h0 : nDigits u ≤ 19
    · exact h0
    have h1 : ¬ u < 10 := by intro h2; rw [nDigits_small h2] at h0; omega
    have h2 := nDigits_unique 18 u
    by_cases h3 : 10 ^ 18 ≤ u
    · have := h2 h3 (by omega); omega
    · have h4 : ∀ k, ∀ v : Nat, v < 10 ^ (k + 1) → nDigits v ≤ k + 1 := by
        intro k
        induction k with
        | zero => intro v hv; rw [nDigits_small (by omega)]; omega
        | succ k ih =>
          intro v hv
          by_cases h5 : v < 10
          · rw [nDigits_small h5]; omega
          · rw [nDigits_big h5]
            have := ih (v / 10) (by rw [Nat.pow_succ] at hv; omega)
            omega
      have := h4 17 u (by omega)
      omega
  unfold rgI at h
  unfold itoa
  split
  · have := key n.natAbs (by omega)
    simp only [List.length_cons]; omega
  · have := key n.toNat (by omega)
    omega

abbrev FormatIntS (R : Rel) : Prop := ∀ n : Int, rgI n → R [I n] [] (Sb (itoa n)) []
abbrev JoinS (R : Rel) : Prop := ∀ (ls : List (List UInt8)) (sep : List UInt8), ls.length ≤ 4194304 → (join ls sep).length ≤ 140737488355328 → R [.sl 1 1 ls.length (strs ls), Sb sep] [] (Sb (join ls sep)) []
theorem iFormatInt_b (D : Dn) (hA : FormatIntS (D gstrconv_Itoa)) : FormatIntS (Body D simpl_FormatInt) := by
  intro n h
  simp -implicitDefEqProofs
  refine callQ_of (hA n h) ?_
  simp -implicitDefEqProofs
theorem dd_step {u : Nat} (h : ¬ u < 10) : decDigits u = decDigits (u / 10) ++ [UInt8.ofNat (48 + u % 10)] := by
  rw [decDigits, dif_neg h]
theorem tdiv_abs (x : Int) : (x.tdiv 10).natAbs = x.natAbs / 10 := by
  rw [Int.natAbs_tdiv]; rfl
theorem tmod_abs (x : Int) : (x.tmod 10).natAbs = x.natAbs % 10 := by
  rw [Int.natAbs_tmod]; rfl
theorem sFormatInt_b (D : Dn) : FormatIntS (Body D sspec_FormatInt) := by
  intro n h
  have hlen := itoa_len h
  unfold rgI at h
  by_cases h0 : n = 0
  · subst h0
    have e : itoa 0 = [48] := by unfold itoa decDigits; rfl
    simp -implicitDefEqProofs [e]
  have hmain : (decDigits n.natAbs).length ≤ 20 := by
    unfold itoa at hlen
    split at hlen
    · simp only [List.length_cons] at hlen; omega
    · rw [show n.natAbs = n.toNat by omega]; exact hlen
  simp -implicitDefEqProofs [h0]
  refine swp_loop (fun k st => ∃ (x : Int) (s : List UInt8) (o : O), k = x.natAbs ∧ x.natAbs ≤ n.natAbs ∧ rgI x ∧ (x = 0 → s = decDigits n.natAbs) ∧ (x ≠ 0 → decDigits n.natAbs = decDigits x.natAbs ++ s) ∧ st = ⟨[I n, .undef, Sb s, I x, .undef, .undef, .undef, .undef, .undef], [o]⟩) ?_ n.natAbs _ ⟨n, [], .free, rfl, Nat.le_refl _, h, fun e => absurd e h0, fun _ => by simp, by simp⟩
  intro k st ⟨x, s, o, hk, hxn, hx, hz, hnz, hs⟩
  subst hs
  unfold rgI at hx
  by_cases hx0 : x = 0
  · have e := hz hx0
    subst hx0
    by_cases hneg : n < 0
    · have e2 : itoa n = [45] ++ s := by unfold itoa; rw [if_pos hneg, e]; rfl
      have hb : 1 + s.length ≤ 1099511627776 := by rw [e]; omega
      simp -implicitDefEqProofs [hneg, e2, hb]
    · have e2 : itoa n = s := by unfold itoa; rw [if_neg hneg, e]; rw [show n.natAbs = n.toNat by omega]
      simp -implicitDefEqProofs [hneg, e2]
  have e := hnz hx0
  have hsl : s.length ≤ 20 := by rw [e] at hmain; simp at hmain; omega
  have hd := tmod_abs x
  have hq := tdiv_abs x
  have hwq : IntKind.i64.wrap (x.tdiv 10) = x.tdiv 10 := wrap_id (by omega) (by omega)
  have hlt : x.natAbs % 10 < 10 := Nat.mod_lt _ (by omega)
  have hs1 : ∀ d : Nat, d < 10 → IntKind.i64.wrap (48 + (d : Int)) = 48 + (d : Int) := fun d hd => wrap_id (by omega) (by omega)
  have hs2 : ∀ d : Nat, d < 10 → IntKind.u8.wrap (48 + (d : Int)) = 48 + (d : Int) := fun d hd => by
    show (if (false && decide ((48 + (d : Int)) % (2 ^ 8 : Int) ≥ (2 ^ 7 : Int))) = true then (48 + (d : Int)) % (2 ^ 8 : Int) - (2 ^ 8 : Int) else (48 + (d : Int)) % (2 ^ 8 : Int)) = _
    rw [if_neg (by simp)]; omega
  have hb : 1 + s.length ≤ 1099511627776 := by omega
  have fin : ∀ s' : List UInt8, s' = UInt8.ofNat (48 + x.natAbs % 10) :: s → ((x.tdiv 10).natAbs < x.natAbs ∧ (x.tdiv 10).natAbs ≤ n.natAbs ∧ rgI (x.tdiv 10) ∧ (x.tdiv 10 = 0 → s' = decDigits n.natAbs) ∧ (x.tdiv 10 ≠ 0 → decDigits n.natAbs = decDigits (x.tdiv 10).natAbs ++ s')) := by
    intro s' hs'
    subst hs'
    refine ⟨by omega, by omega, by unfold rgI; omega, fun h1 => ?_, fun h1 => ?_⟩
    · have h2 : x.natAbs < 10 := by omega
      rw [e, decDigits_one h2, Nat.mod_eq_of_lt h2]; rfl
    · have h2 : ¬ x.natAbs < 10 := by omega
      rw [e, dd_step h2, hq]; simp
  by_cases hneg : x.tmod 10 < 0
  · have hd2 : x.tmod 10 = - ((x.natAbs % 10 : Nat) : Int) := by omega
    have hwn : IntKind.i64.wrap (-x.tmod 10) = ((x.natAbs % 10 : Nat) : Int) := by rw [hd2, wrap_id (by omega) (by omega)]; omega
    obtain ⟨d, hdd⟩ : ∃ d, d = x.natAbs % 10 := ⟨_, rfl⟩
    rw [← hdd] at hwn hlt fin
    simp -implicitDefEqProofs [hx0, hneg, hwn, hs1 d hlt, hs2 d hlt, hb, hwq, bstrV, content, bytesOf?, byteOf?]
    obtain ⟨f1, f2, f3, f4, f5⟩ := fin _ rfl
    exact ⟨(x.tdiv 10).natAbs, by omega, x.tdiv 10, rfl, f2, f3, _, f4, f5, by rw [show (48 + (d : Int)).toNat = 48 + d by omega], rfl⟩
  · have hd2 : x.tmod 10 = ((x.natAbs % 10 : Nat) : Int) := by omega
    obtain ⟨d, hdd⟩ : ∃ d, d = x.natAbs % 10 := ⟨_, rfl⟩
    rw [← hdd] at hd2 hlt fin
    rw [hd2] at hneg
    simp -implicitDefEqProofs [hx0, hneg, hd2, hs1 d hlt, hs2 d hlt, hb, hwq, bstrV, content, bytesOf?, byteOf?]
    obtain ⟨f1, f2, f3, f4, f5⟩ := fin _ rfl
    exact ⟨(x.tdiv 10).natAbs, by omega, x.tdiv 10, rfl, f2, f3, _, f4, f5, by rw [show (48 + (d : Int)).toNat = 48 + d by omega], rfl⟩

/-- numbers, one behind the other -/
def joinI (xs : List Int) (sep : List UInt8) : List UInt8 := join (xs.map itoa) sep
theorem join_snoc (x : List UInt8) (r : List (List UInt8)) (y sep : List UInt8) : join (x :: r ++ [y]) sep = join (x :: r) sep ++ sep ++ y := by
  rw [List.cons_append, join_cons, join_cons]
  simp [joinTail]
theorem joinI_step {xs : List Int} {sep : List UInt8} {j : Nat} (h : j < xs.length) : joinI (xs.take (j + 1)) sep = (if j = 0 then [] else joinI (xs.take j) sep ++ sep) ++ itoa xs[j] := by
  have e : xs.take (j + 1) = xs.take j ++ [xs[j]] := by simp
  unfold joinI
  rw [e, List.map_append]
  by_cases h0 : j = 0
  · subst h0; simp [join_one]
  · rw [if_neg h0]
    cases hx : xs.take j with
    | nil => exact absurd (congrArg List.length hx) (by rw [List.length_take]; simp only [List.length_nil]; omega)
    | cons a r => exact join_snoc _ _ _ _
theorem joinI_len {xs : List Int} {sep : List UInt8} (hr : rgInts xs) (hs : sep.length ≤ 1) : (joinI xs sep).length ≤ 21 * xs.length := by
  have key : ∀ n, n ≤ xs.length → (joinI (xs.take n) sep).length ≤ 21 * n := by
    intro n
    induction n with
    | zero => intro _; simp [joinI, join_nil]
    | succ n ih =>
      intro h
      have h1 := ih (by omega)
      have h2 := itoa_len (hr xs[n] (by simp))
      rw [joinI_step (by omega)]
      split
      · simp; omega
      · simp; omega
  have := key xs.length (Nat.le_refl _)
  rwa [List.take_length] at this
theorem rg_take {xs : List Int} {j : Nat} (h : rgInts xs) : rgInts (xs.take j) := fun x hx => h x (List.mem_of_mem_take hx)
abbrev joinedS (R : Rel) : Prop := ∀ (xs : List Int) (sep : List UInt8), xs.length ≤ 4194304 → rgInts xs → sep.length ≤ 1 → R [.sl 1 1 xs.length (ints xs), Sb sep] [] (Sb (joinI xs sep)) []
theorem l39Join_b (D : Dn) (hF : FormatIntS (D gspec_FormatInt)) : joinedS (Body D sspec_l39Join) := by
  intro xs sep hl hr hs
  simp -implicitDefEqProofs
  refine swp_loop (fun k st => ∃ j, j + k = xs.length ∧ st = ⟨[.sl 1 1 xs.length (ints xs), Sb sep, .undef, Sb (joinI (xs.take j) sep), .sc (.int .i64 j), .undef, .undef], []⟩) ?_ xs.length _ ⟨0, by simp, by simp [joinI, join_nil]⟩
  intro k st ⟨j, hj, hst⟩
  subst hst
  by_cases hjn : j < xs.length
  · have hw : IntKind.i64.wrap ((j : Int) + 1) = (j + 1 : Nat) := by rw [wrap_id (by omega) (by omega)]; simp
    have hstep := joinI_step (sep := sep) hjn
    have h1 := joinI_len (rg_take (j := j) hr) hs
    have h3 : (xs.take j).length ≤ j := by simp; omega
    have h2 := itoa_len (hr xs[j] (by simp))
    have b1 : (joinI (xs.take j) sep).length + sep.length ≤ 1099511627776 := by omega
    by_cases h0 : j = 0
    · subst h0
      rw [if_pos rfl] at hstep
      have b2 : (joinI [] sep).length + (itoa xs[0]).length ≤ 1099511627776 := by simp [joinI, join_nil]; omega
      have b3 : joinI [] sep = [] := rfl
      simp -implicitDefEqProofs [hjn]
      refine callQ_of (hF xs[0] (hr _ (by simp))) ?_
      simp -implicitDefEqProofs [b2]
      exact ⟨k - 1, by omega, 1, by omega, by rw [hstep, b3], by simpa using hw⟩
    · rw [if_neg h0] at hstep
      have h0' : (0 : Int) < j := by omega
      have h0'' : 0 < j := by omega
      have b2 : (joinI (xs.take j) sep).length + sep.length + (itoa xs[j]).length ≤ 1099511627776 := by omega
      have b2' : (joinI (xs.take j) sep).length + (sep.length + (itoa xs[j]).length) ≤ 1099511627776 := by omega
      simp -implicitDefEqProofs [hjn, h0', h0'', b1]
      refine callQ_of (hF xs[j] (hr _ (by simp))) ?_
      simp -implicitDefEqProofs [b2, b2']
      exact ⟨k - 1, by omega, j + 1, by omega, by rw [hstep]; simp, by simp [hw]⟩
  · obtain rfl : j = xs.length := by omega
    simp -implicitDefEqProofs
theorem joined_b (D : Dn) (hF : FormatIntS (D gimpl_FormatInt)) (hJ : JoinS (D gstrings_Join)) : joinedS (Body D simpl_joined) := by
  intro xs sep hl hr hs
  simp -implicitDefEqProofs
  refine swp_loop (fun k st => ∃ j v4 o1 o2, j + k = xs.length ∧ st = ⟨[.undef, Sb sep, .undef, .arr 3, v4, .sl 1 1 xs.length (ints xs), .sc (.int .i64 xs.length), .sc (.int .i64 j), .undef], [.free, o1, o2, .arr 1 0 j (strs ((xs.map itoa).take j))]⟩) ?_ xs.length _ ⟨0, .undef, .free, .free, by simp, by simp⟩
  intro k st ⟨j, v4, o1, o2, hj, hst⟩
  subst hst
  by_cases hjn : j < xs.length
  · have hw : IntKind.i64.wrap ((j : Int) + 1) = (j + 1 : Nat) := by rw [wrap_id (by omega) (by omega)]; simp
    have hjl : min j xs.length = j := by omega
    have b1 : (j + 1) * 16 ≤ 1099511627776 := by omega
    have hstep : strs ((xs.map itoa).take j ++ [itoa xs[j]]) = strs ((xs.map itoa).take (j + 1)) := by
      rw [← List.take_append_getElem (by simpa using hjn)]; simp
    simp -implicitDefEqProofs [hjn]
    refine callQ_of (hF xs[j] (hr _ (by simp))) ?_
    simp -implicitDefEqProofs [hjl, b1]
    exact ⟨k - 1, by omega, j + 1, by omega, by simp [hw], rfl, hstep⟩
  · obtain rfl : j = xs.length := by omega
    have e : (xs.map itoa).take xs.length = xs.map itoa := List.take_of_length_le (by simp)
    have e2 : (xs.map itoa).length = xs.length := by simp
    have hj := hJ (xs.map itoa) sep (by simpa using hl) (by have := joinI_len hr hs; unfold joinI at this; omega)
    rw [e2] at hj
    simp -implicitDefEqProofs [e]
    refine callQ_of hj ?_
    simp -implicitDefEqProofs [joinI]
end Go.Eng.T

namespace Go.Eng.T
abbrev szDealS (R : Rel) : Prop := ∀ (x : Deal) (l : Int), 0 ≤ l → l ≤ 4194304 → lnDeal x → R [arg (eDeal x), I l] [] (I (szl (szDeal x) l)) []
theorem szDeal_b (D : Dn) (hszIntS : szIntSS (D 16)) : szDealS (Body D slaws_szDeal) := by
  intro x l hl1 hl2 hln
  simp only [lnDeal] at hln
  simp -implicitDefEqProofs
  refine callQ_of (hszIntS x.tags (l) (by omega) (by omega) hln) ?_
  by_cases g0 : l < ((x.tags.length : Nat) : Int)
  · have gg : l < ((szDeal x : Nat) : Int) := by simp only [szDeal]; omega
    have e1 : szl (x.tags.length) (l) = -1 := by unfold szl; rw [if_pos g0]
    have e2 : szl (szDeal x) l = -1 := by unfold szl; rw [if_pos gg]
    simp -implicitDefEqProofs [e1, e2]
  have e3 : szl (x.tags.length) (l) = l - ((x.tags.length : Nat) : Int) := by unfold szl; rw [if_neg g0]
  have p0 : ¬ l - ((x.tags.length : Nat) : Int) < 0 := by omega
  simp -implicitDefEqProofs [e3, p0]
  have gg : ¬ l < ((szDeal x : Nat) : Int) := by simp only [szDeal]; omega
  unfold szl; rw [if_neg gg]; simp only [szDeal] <;> omega
abbrev toDealS (R : Rel) : Prop := ∀ x : Deal, szDeal x ≤ 4194304 → R [arg (eDeal x)] [] (.agg (eDeal x)) []
theorem toDeal_b (D : Dn) (htoIntS : toIntSS (D 31)) : toDealS (Body D slaws_toDeal) := by
  intro x h
  simp only [szDeal] at h
  simp -implicitDefEqProofs
  refine callQ_of (htoIntS x.tags (by omega)) ?_
  simp -implicitDefEqProofs
abbrev eqDealS (R : Rel) : Prop := ∀ x y : Deal, szDeal x ≤ 2 ^ 40 → szDeal y ≤ 2 ^ 40 → R [arg (eDeal x), arg (eDeal y)] [] (B (decide (x = y))) []
theorem eqDeal_b (D : Dn) (heqIntS : eqIntSS (D 47)) : eqDealS (Body D slaws_eqDeal) := by
  intro x y h1 h2
  simp only [szDeal] at h1 h2
  by_cases g_ok : x.ok = y.ok
  rotate_left
  · have hne : x ≠ y := fun h => g_ok (by rw [h])
    simp -implicitDefEqProofs [g_ok, hne]
  simp -implicitDefEqProofs [g_ok]
  by_cases g_version : x.version = y.version
  rotate_left
  · have hne : x ≠ y := fun h => g_version (by rw [h])
    simp -implicitDefEqProofs [g_version, hne]
  simp -implicitDefEqProofs [g_version]
  refine callQ_of (heqIntS x.tags y.tags (by unfold maxLen; omega) (by unfold maxLen; omega)) ?_
  by_cases g_tags : x.tags = y.tags
  rotate_left
  · have hne : x ≠ y := fun h => g_tags (by rw [h])
    simp -implicitDefEqProofs [g_tags, hne]
  simp -implicitDefEqProofs [g_tags]
  have hxy : x = y := by cases x; cases y; simp_all
  simp -implicitDefEqProofs [hxy]
abbrev szDialedS (R : Rel) : Prop := ∀ (x : Dialed) (l : Int), 0 ≤ l → l ≤ 4194304 → lnDialed x → R [arg (eDialed x), I l] [] (I (szl (szDialed x) l)) []
theorem szDialed_b (D : Dn) (hszDeal : szDealS (D 140)) (hszIntS : szIntSS (D 16)) : szDialedS (Body D slaws_szDialed) := by
  intro x l hl1 hl2 hln
  simp only [lnDialed] at hln
  simp -implicitDefEqProofs
  refine callQ_of (hszDeal x.deal (l) (by omega) (by omega) hln.1) ?_
  by_cases g0 : l < ((szDeal x.deal : Nat) : Int)
  · have gg : l < ((szDialed x : Nat) : Int) := by simp only [szDialed]; omega
    have e1 : szl (szDeal x.deal) (l) = -1 := by unfold szl; rw [if_pos g0]
    have e2 : szl (szDialed x) l = -1 := by unfold szl; rw [if_pos gg]
    simp -implicitDefEqProofs [e1, e2]
  have e3 : szl (szDeal x.deal) (l) = l - ((szDeal x.deal : Nat) : Int) := by unfold szl; rw [if_neg g0]
  have p0 : ¬ l - ((szDeal x.deal : Nat) : Int) < 0 := by omega
  simp -implicitDefEqProofs [e3, p0]
  refine callQ_of (hszIntS x.up (l - ((szDeal x.deal : Nat) : Int)) (by omega) (by omega) hln.2) ?_
  by_cases g1 : l - ((szDeal x.deal : Nat) : Int) < ((x.up.length : Nat) : Int)
  · have gg : l < ((szDialed x : Nat) : Int) := by simp only [szDialed]; omega
    have e1 : szl (x.up.length) (l - ((szDeal x.deal : Nat) : Int)) = -1 := by unfold szl; rw [if_pos g1]
    have e2 : szl (szDialed x) l = -1 := by unfold szl; rw [if_pos gg]
    simp -implicitDefEqProofs [e1, e2]
  have e4 : szl (x.up.length) (l - ((szDeal x.deal : Nat) : Int)) = l - ((szDeal x.deal : Nat) : Int) - ((x.up.length : Nat) : Int) := by unfold szl; rw [if_neg g1]
  have p1 : ¬ l - ((szDeal x.deal : Nat) : Int) - ((x.up.length : Nat) : Int) < 0 := by omega
  simp -implicitDefEqProofs [e4, p1]
  have gg : ¬ l < ((szDialed x : Nat) : Int) := by simp only [szDialed]; omega
  unfold szl; rw [if_neg gg]; simp only [szDialed] <;> omega
abbrev toDialedS (R : Rel) : Prop := ∀ x : Dialed, szDialed x ≤ 4194304 → R [arg (eDialed x)] [] (.agg (eDialed x)) []
theorem toDialed_b (D : Dn) (htoDeal : toDealS (D 171)) (htoIntS : toIntSS (D 31)) : toDialedS (Body D slaws_toDialed) := by
  intro x h
  simp only [szDialed] at h
  simp -implicitDefEqProofs
  refine callQ_of (htoDeal x.deal (by omega)) ?_
  simp -implicitDefEqProofs
  refine callQ_of (htoIntS x.up (by omega)) ?_
  simp -implicitDefEqProofs
abbrev eqDialedS (R : Rel) : Prop := ∀ x y : Dialed, szDialed x ≤ 2 ^ 40 → szDialed y ≤ 2 ^ 40 → R [arg (eDialed x), arg (eDialed y)] [] (B (decide (x = y))) []
theorem eqDialed_b (D : Dn) (heqDeal : eqDealS (D 205)) (heqIntS : eqIntSS (D 47)) : eqDialedS (Body D slaws_eqDialed) := by
  intro x y h1 h2
  simp only [szDialed] at h1 h2
  simp -implicitDefEqProofs
  refine callQ_of (heqDeal x.deal y.deal (by omega) (by omega)) ?_
  by_cases g_deal : x.deal = y.deal
  rotate_left
  · have hne : x ≠ y := fun h => g_deal (by rw [h])
    simp -implicitDefEqProofs [g_deal, hne]
  simp -implicitDefEqProofs [g_deal]
  by_cases g_tries : x.tries = y.tries
  rotate_left
  · have hne : x ≠ y := fun h => g_tries (by rw [h])
    simp -implicitDefEqProofs [g_tries, hne]
  simp -implicitDefEqProofs [g_tries]
  refine callQ_of (heqIntS x.up y.up (by unfold maxLen; omega) (by unfold maxLen; omega)) ?_
  by_cases g_up : x.up = y.up
  rotate_left
  · have hne : x ≠ y := fun h => g_up (by rw [h])
    simp -implicitDefEqProofs [g_up, hne]
  simp -implicitDefEqProofs [g_up]
  have hxy : x = y := by cases x; cases y; simp_all
  simp -implicitDefEqProofs [hxy]
end Go.Eng.T

namespace Go.Eng.T
open Go.Lib
set_option maxRecDepth 20000
set_option maxHeartbeats 1000000

theorem ifS {α : Type} {a : Nat} {c d : α} (h : a ≤ 1099511627776) : (if a ≤ 1099511627776 then c else d) = c := if_pos h
theorem ifL {α : Type} {a : Nat} {c d : α} (h : a < 1099511627776) : (if a < 1099511627776 then c else d) = c := if_pos h

def fmtList (xs : List Int) : List UInt8 := if xs = [] then [45] else joinI xs [32]
theorem fmtList_len {xs : List Int} (hr : rgInts xs) : (fmtList xs).length ≤ 21 * xs.length + 1 := by
  unfold fmtList
  split
  · simp
  · have := joinI_len (sep := [32]) hr (by simp); omega
abbrev FormatListS (R : Rel) : Prop := ∀ xs : List Int, xs.length ≤ 4194304 → rgInts xs → R [.sl 1 1 xs.length (ints xs)] [] (Sb (fmtList xs)) []
def fmtDeal (d : Deal) : List UInt8 := if d.ok = true then [118] ++ itoa d.version ++ (if d.tags = [] then [] else [58] ++ joinI d.tags [44]) else [110, 111]
theorem fmtDeal_len {d : Deal} (hv : rgI d.version) (hr : rgInts d.tags) : (fmtDeal d).length ≤ 21 * d.tags.length + 23 := by
  have h1 := itoa_len hv
  have h2 := joinI_len (sep := [44]) hr (by simp)
  unfold fmtDeal
  split
  · split <;> simp <;> omega
  · simp
abbrev FormatDealS (R : Rel) : Prop := ∀ d : Deal, d.tags.length ≤ 4194304 → rgI d.version → rgInts d.tags → R [arg (eDeal d)] [] (Sb (fmtDeal d)) []
theorem sFormatDeal_b (D : Dn) (hF : FormatIntS (D gspec_FormatInt)) (hJ : joinedS (D gspec_l39Join)) : FormatDealS (Body D sspec_FormatDeal) := by
  intro d hl hv hr
  have h1 := itoa_len hv
  have h2 := joinI_len (sep := [44]) hr (by simp)
  by_cases ho : d.ok = true
  rotate_left
  · simp -implicitDefEqProofs [ho, fmtDeal]
  simp -implicitDefEqProofs [ho]
  refine callQ_of (hF d.version hv) ?_
  by_cases h0 : d.tags = []
  · simp -implicitDefEqProofs (disch := first | omega | simp) [ifS, ifL, h0, ho, fmtDeal]
  · have h0' : (0 : Int) < d.tags.length := by have := List.length_pos_iff.2 h0; omega
    have h0'' : 0 < d.tags.length := List.length_pos_iff.2 h0
    simp -implicitDefEqProofs (disch := first | omega | simp) [ifS, ifL, h0, h0', h0'', ho, fmtDeal]
    refine callQ_of (hJ d.tags [44] hl hr (by simp)) ?_
    simp -implicitDefEqProofs (disch := first | omega | simp) [ifS, ifL, h0, h0', ho, fmtDeal]
theorem iFormatDeal_b (D : Dn) (hF : FormatIntS (D gimpl_FormatInt)) (hJ : joinedS (D gimpl_joined)) : FormatDealS (Body D simpl_FormatDeal) := by
  intro d hl hv hr
  have h1 := itoa_len hv
  have h2 := joinI_len (sep := [44]) hr (by simp)
  by_cases ho : d.ok = true
  rotate_left
  · simp -implicitDefEqProofs [ho, fmtDeal]
  simp -implicitDefEqProofs [ho]
  refine callQ_of (hF d.version hv) ?_
  by_cases h0 : d.tags = []
  · simp -implicitDefEqProofs (disch := first | omega | simp) [ifS, ifL, h0, ho, fmtDeal]
  · have h0' : (0 : Int) < d.tags.length := by have := List.length_pos_iff.2 h0; omega
    have h0'' : 0 < d.tags.length := List.length_pos_iff.2 h0
    simp -implicitDefEqProofs (disch := first | omega | simp) [ifS, ifL, h0, h0', h0'', ho, fmtDeal]
    refine callQ_of (hJ d.tags [44] hl hr (by simp)) ?_
    simp -implicitDefEqProofs (disch := first | omega | simp) [ifS, ifL, h0, h0', ho, fmtDeal]

def fmtDialed (d : Dialed) : List UInt8 := fmtDeal d.deal ++ [47] ++ itoa d.tries ++ (if d.up = [] then [] else [33] ++ joinI d.up [44])
abbrev FormatDialedS (R : Rel) : Prop := ∀ d : Dialed, d.deal.tags.length ≤ 4194304 → d.up.length ≤ 4194304 → rgI d.deal.version → rgInts d.deal.tags → rgI d.tries → rgInts d.up → R [arg (eDialed d)] [] (Sb (fmtDialed d)) []
theorem sFormatDialed_b (D : Dn) (hF : FormatIntS (D gspec_FormatInt)) (hJ : joinedS (D gspec_l39Join)) (hD : FormatDealS (D gspec_FormatDeal)) : FormatDialedS (Body D sspec_FormatDialed) := by
  intro d hl hl2 hv hr hv2 hr2
  have h1 := itoa_len hv2
  have h2 := joinI_len (sep := [44]) hr2 (by simp)
  have h3 := fmtDeal_len hv hr
  simp -implicitDefEqProofs
  refine callQ_of (hD d.deal hl hv hr) ?_
  simp -implicitDefEqProofs (disch := first | omega | simp) [ifS, ifL, fmtDialed]
  refine callQ_of (hF d.tries hv2) ?_
  by_cases h0 : d.up = []
  · simp -implicitDefEqProofs (disch := first | omega | simp) [ifS, ifL, h0, fmtDialed]
  · have h0' : (0 : Int) < d.up.length := by have := List.length_pos_iff.2 h0; omega
    have h0'' : 0 < d.up.length := List.length_pos_iff.2 h0
    simp -implicitDefEqProofs (disch := first | omega | simp) [ifS, ifL, h0, h0', h0'', fmtDialed]
    refine callQ_of (hJ d.up [44] hl2 hr2 (by simp)) ?_
    simp -implicitDefEqProofs (disch := first | omega | simp) [ifS, ifL, h0, h0', h0'', fmtDialed]
theorem iFormatDialed_b (D : Dn) (hF : FormatIntS (D gimpl_FormatInt)) (hJ : joinedS (D gimpl_joined)) (hD : FormatDealS (D gimpl_FormatDeal)) : FormatDialedS (Body D simpl_FormatDialed) := by
  intro d hl hl2 hv hr hv2 hr2
  have h1 := itoa_len hv2
  have h2 := joinI_len (sep := [44]) hr2 (by simp)
  have h3 := fmtDeal_len hv hr
  simp -implicitDefEqProofs
  refine callQ_of (hD d.deal hl hv hr) ?_
  simp -implicitDefEqProofs (disch := first | omega | simp) [ifS, ifL, fmtDialed]
  refine callQ_of (hF d.tries hv2) ?_
  by_cases h0 : d.up = []
  · simp -implicitDefEqProofs (disch := first | omega | simp) [ifS, ifL, h0, fmtDialed]
  · have h0' : (0 : Int) < d.up.length := by have := List.length_pos_iff.2 h0; omega
    have h0'' : 0 < d.up.length := List.length_pos_iff.2 h0
    simp -implicitDefEqProofs (disch := first | omega | simp) [ifS, ifL, h0, h0', h0'', fmtDialed]
    refine callQ_of (hJ d.up [44] hl2 hr2 (by simp)) ?_
    simp -implicitDefEqProofs (disch := first | omega | simp) [ifS, ifL, h0, h0', h0'', fmtDialed]

def fmtRollout (r : Rollout) : List UInt8 := [118] ++ itoa r.version ++ [32] ++ joinI r.stages [44] ++ (if r.off = true then [111, 102, 102] else [64] ++ itoa r.pos)
theorem fmtRollout_len {r : Rollout} (hv : rgI r.version) (hr : rgInts r.stages) (hp : rgI r.pos) : (fmtRollout r).length ≤ 21 * r.stages.length + 50 := by
  have h1 := itoa_len hv
  have h2 := joinI_len (sep := [44]) hr (by simp)
  have h3 := itoa_len hp
  unfold fmtRollout
  split <;> simp <;> omega
abbrev FormatRolloutS (R : Rel) : Prop := ∀ r : Rollout, r.stages.length ≤ 4194304 → rgI r.version → rgInts r.stages → rgI r.pos → R [arg (eRollout r)] [] (Sb (fmtRollout r)) []
def fmtEnd (e : Endpoint) : List UInt8 := fmtList e.versions ++ [124] ++ fmtList e.tags ++ [124] ++ itoa (e.path.length : Int)
abbrev FormatEndS (R : Rel) : Prop := ∀ e : Endpoint, e.versions.length ≤ 4194304 → rgInts e.versions → e.tags.length ≤ 4194304 → rgInts e.tags → e.path.length ≤ 4194304 → R [arg (eEndpoint e)] [] (Sb (fmtEnd e)) []
end Go.Eng.T

namespace Go.Eng.T

theorem nums_push : ∀ (n : Nat) (k : Int), nums n k ++ [k + n] = nums (n + 1) k
  | 0, k => by simp [nums]
  | n + 1, k => by
    have := nums_push n (k + 1)
    simp only [nums, List.cons_append]
    rw [show k + ((n + 1 : Nat) : Int) = k + 1 + (n : Int) by omega, this]
    rfl
theorem numsJ_set {xs : List Int} {k : Int} {j : Nat} (h : j < xs.length) : (nums j k ++ xs.drop j).set j (k + j) = nums (j + 1) k ++ xs.drop (j + 1) := by
  rw [List.set_append_right _ _ (by simp), nums_len, Nat.sub_self, List.drop_eq_getElem_cons h, List.set_cons_zero, ← nums_push, List.append_assoc]
  rfl

abbrev markIntSS (R : Rel) : Prop := ∀ (xs : List Int) (k : Int), 0 ≤ k → k + xs.length ≤ 4611686018427387904 → R [.arr 0, I k] [.arr 1 0 xs.length (ints xs)] (I (k + xs.length)) [.arr 1 0 xs.length (ints (nums xs.length k))]
abbrev heldIntSS (R : Rel) : Prop := ∀ (n : Nat) (k : Int), 0 ≤ k → k + n ≤ 4611686018427387904 → R [.sl 1 1 n (ints (nums n k)), I k] [] (I (k + n)) []
end Go.Eng.T

namespace Go.Eng.T
abbrev markBoxSS (R : Rel) : Prop := ∀ (xs : List Box) (k : Int), 0 ≤ k → k + mcL mcBox xs ≤ 4611686018427387904 → R [.arr 0, I k] [.arr 4 0 xs.length (xs.flatMap eBox)] (I (k + mcL mcBox xs)) [.arr 4 0 xs.length ((mkL mcBox mkBox xs k).flatMap eBox)]
abbrev heldBoxSS (R : Rel) : Prop := ∀ (xs : List Box) (k : Int), 0 ≤ k → k + mcL mcBox xs ≤ 4611686018427387904 → R [.sl 1 4 xs.length ((mkL mcBox mkBox xs k).flatMap eBox), I k] [] (I (k + mcL mcBox xs)) []
abbrev markEndpointSS (R : Rel) : Prop := ∀ (xs : List Endpoint) (k : Int), 0 ≤ k → k + mcL mcEndpoint xs ≤ 4611686018427387904 → R [.arr 0, I k] [.arr 4 0 xs.length (xs.flatMap eEndpoint)] (I (k + mcL mcEndpoint xs)) [.arr 4 0 xs.length ((mkL mcEndpoint mkEndpoint xs k).flatMap eEndpoint)]
abbrev heldEndpointSS (R : Rel) : Prop := ∀ (xs : List Endpoint) (k : Int), 0 ≤ k → k + mcL mcEndpoint xs ≤ 4611686018427387904 → R [.sl 1 4 xs.length ((mkL mcEndpoint mkEndpoint xs k).flatMap eEndpoint), I k] [] (I (k + mcL mcEndpoint xs)) []
end Go.Eng.T

namespace Go.Eng.T
set_option maxRecDepth 20000
abbrev markDialedSS (R : Rel) : Prop := ∀ (xs : List Dialed) (k : Int), 0 ≤ k → k + mcL mcDialed xs ≤ 4611686018427387904 → R [.arr 0, I k] [.arr 5 0 xs.length (xs.flatMap eDialed)] (I (k + mcL mcDialed xs)) [.arr 5 0 xs.length ((mkL mcDialed mkDialed xs k).flatMap eDialed)]
abbrev heldDialedSS (R : Rel) : Prop := ∀ (xs : List Dialed) (k : Int), 0 ≤ k → k + mcL mcDialed xs ≤ 4611686018427387904 → R [.sl 1 5 xs.length ((mkL mcDialed mkDialed xs k).flatMap eDialed), I k] [] (I (k + mcL mcDialed xs)) []
abbrev markLoggedSS (R : Rel) : Prop := ∀ (xs : List Logged) (k : Int), 0 ≤ k → k + mcL mcLogged xs ≤ 4611686018427387904 → R [.arr 0, I k] [.arr 8 0 xs.length (xs.flatMap eLogged)] (I (k + mcL mcLogged xs)) [.arr 8 0 xs.length ((mkL mcLogged mkLogged xs k).flatMap eLogged)]
abbrev heldLoggedSS (R : Rel) : Prop := ∀ (xs : List Logged) (k : Int), 0 ≤ k → k + mcL mcLogged xs ≤ 4611686018427387904 → R [.sl 1 8 xs.length ((mkL mcLogged mkLogged xs k).flatMap eLogged), I k] [] (I (k + mcL mcLogged xs)) []
end Go.Eng.T

namespace Go.Eng.T
set_option maxRecDepth 20000
abbrev markRolloutS (R : Rel) : Prop := ∀ (x : Rollout) (k : Int), 0 ≤ k → k + mcRollout x ≤ 4611686018427387904 → R [.agg [.sc (.int .i64 x.version), .arr 0, .sc (.int .i64 x.pos), .sc (.bool x.off)], I k] [.arr 1 0 x.stages.length (ints (x.stages))] (I (k + mcRollout x)) [.arr 1 0 x.stages.length (ints ((mkRollout x k).stages))]
abbrev heldRolloutS (R : Rel) : Prop := ∀ (x : Rollout) (k : Int), 0 ≤ k → k + mcRollout x ≤ 4611686018427387904 → R [arg (eRollout (mkRollout x k)), I k] [] (I (k + mcRollout x)) []
abbrev markWorldS (R : Rel) : Prop := ∀ (x : World) (k : Int), 0 ≤ k → k + mcWorld x ≤ 4611686018427387904 → R [.agg [.arr 0, .arr 1, .sc (.int .i64 x.key), .arr 2, .sc (.int .i64 x.rollout.version), .arr 3, .sc (.int .i64 x.rollout.pos), .sc (.bool x.rollout.off), .sc (.int .i64 x.least), .sc (.int .i64 x.percent), .arr 4, .arr 5, .sc (.int .i64 x.now), .sc (.int .i64 x.hurt), .sc (.int .i64 x.reached)], I k] [.arr 1 0 x.server.length (ints (x.server)), .arr 1 0 x.tags.length (ints (x.tags)), .arr 4 0 x.ends.length ((x.ends).flatMap eEndpoint), .arr 1 0 x.rollout.stages.length (ints (x.rollout.stages)), .arr 5 0 x.stage.length ((x.stage).flatMap eDialed), .arr 8 0 x.log.length ((x.log).flatMap eLogged)] (I (k + mcWorld x)) [.arr 1 0 x.server.length (ints ((mkWorld x k).server)), .arr 1 0 x.tags.length (ints ((mkWorld x k).tags)), .arr 4 0 x.ends.length (((mkWorld x k).ends).flatMap eEndpoint), .arr 1 0 x.rollout.stages.length (ints ((mkWorld x k).rollout.stages)), .arr 5 0 x.stage.length (((mkWorld x k).stage).flatMap eDialed), .arr 8 0 x.log.length (((mkWorld x k).log).flatMap eLogged)]
abbrev heldWorldS (R : Rel) : Prop := ∀ (x : World) (k : Int), 0 ≤ k → k + mcWorld x ≤ 4611686018427387904 → R [arg (eWorld (mkWorld x k)), I k] [] (I (k + mcWorld x)) []
end Go.Eng.T

namespace Go.Eng.T
abbrev szBoxS (R : Rel) : Prop := ∀ (x : Box) (l : Int), 0 ≤ l → l ≤ 4194304 → lnBox x → R [arg (eBox x), I l] [] (I (szl (szBox x) l)) []
abbrev toBoxS (R : Rel) : Prop := ∀ x : Box, szBox x ≤ 4194304 → R [arg (eBox x)] [] (.agg (eBox x)) []
abbrev eqBoxS (R : Rel) : Prop := ∀ x y : Box, szBox x ≤ 2 ^ 40 → szBox y ≤ 2 ^ 40 → R [arg (eBox x), arg (eBox y)] [] (B (decide (x = y))) []
abbrev szEventS (R : Rel) : Prop := ∀ (x : Event) (l : Int), 0 ≤ l → l ≤ 4194304 → lnEvent x → R [arg (eEvent x), I l] [] (I (szl (szEvent x) l)) []
abbrev toEventS (R : Rel) : Prop := ∀ x : Event, szEvent x ≤ 4194304 → R [arg (eEvent x)] [] (.agg (eEvent x)) []
abbrev eqEventS (R : Rel) : Prop := ∀ x y : Event, szEvent x ≤ 2 ^ 40 → szEvent y ≤ 2 ^ 40 → R [arg (eEvent x), arg (eEvent y)] [] (B (decide (x = y))) []
abbrev szEventSS (R : Rel) : Prop := ∀ (xs : List Event) (l : Int), 0 ≤ l → l ≤ 4194304 → lnS lnEvent xs → R [.sl 1 6 xs.length (xs.flatMap eEvent), I l] [] (I (szl (sumF szEvent xs) l)) []
abbrev toEventSS (R : Rel) : Prop := ∀ xs : List Event, sumF szEvent xs ≤ 4194304 → R [.sl 1 6 xs.length (xs.flatMap eEvent)] [] (.sl 0 6 xs.length (xs.flatMap eEvent)) []
abbrev eqEventSS (R : Rel) : Prop := ∀ xs ys : List Event, sumF szEvent xs ≤ 2 ^ 40 → sumF szEvent ys ≤ 2 ^ 40 → R [.sl 1 6 xs.length (xs.flatMap eEvent), .sl 1 6 ys.length (ys.flatMap eEvent)] [] (B (decide (xs = ys))) []
end Go.Eng.T

namespace Go.Eng.T
abbrev toBoxSS (R : Rel) : Prop := ∀ xs : List Box, sumF szBox xs ≤ 4194304 → R [.sl 1 4 xs.length (xs.flatMap eBox)] [] (.sl 0 4 xs.length (xs.flatMap eBox)) []
abbrev szBoxSS (R : Rel) : Prop := ∀ (xs : List Box) (l : Int), 0 ≤ l → l ≤ 4194304 → lnS lnBox xs → R [.sl 1 4 xs.length (xs.flatMap eBox), I l] [] (I (szl (sumF szBox xs) l)) []
abbrev szEndpointS (R : Rel) : Prop := ∀ (x : Endpoint) (l : Int), 0 ≤ l → l ≤ 4194304 → lnEndpoint x → R [arg (eEndpoint x), I l] [] (I (szl (szEndpoint x) l)) []
abbrev toEndpointS (R : Rel) : Prop := ∀ x : Endpoint, szEndpoint x ≤ 4194304 → R [arg (eEndpoint x)] [] (.agg (eEndpoint x)) []
abbrev szEndpointSS (R : Rel) : Prop := ∀ (xs : List Endpoint) (l : Int), 0 ≤ l → l ≤ 4194304 → lnS lnEndpoint xs → R [.sl 1 4 xs.length (xs.flatMap eEndpoint), I l] [] (I (szl (sumF szEndpoint xs) l)) []
abbrev toEndpointSS (R : Rel) : Prop := ∀ xs : List Endpoint, sumF szEndpoint xs ≤ 4194304 → R [.sl 1 4 xs.length (xs.flatMap eEndpoint)] [] (.sl 0 4 xs.length (xs.flatMap eEndpoint)) []
abbrev szRolloutS (R : Rel) : Prop := ∀ (x : Rollout) (l : Int), 0 ≤ l → l ≤ 4194304 → lnRollout x → R [arg (eRollout x), I l] [] (I (szl (szRollout x) l)) []
abbrev toRolloutS (R : Rel) : Prop := ∀ x : Rollout, szRollout x ≤ 4194304 → R [arg (eRollout x)] [] (.agg (eRollout x)) []
abbrev eqRolloutS (R : Rel) : Prop := ∀ x y : Rollout, szRollout x ≤ 2 ^ 40 → szRollout y ≤ 2 ^ 40 → R [arg (eRollout x), arg (eRollout y)] [] (B (decide (x = y))) []
end Go.Eng.T

namespace Go.Eng.T
abbrev szDialedSS (R : Rel) : Prop := ∀ (xs : List Dialed) (l : Int), 0 ≤ l → l ≤ 4194304 → lnS lnDialed xs → R [.sl 1 5 xs.length (xs.flatMap eDialed), I l] [] (I (szl (sumF szDialed xs) l)) []
abbrev toDialedSS (R : Rel) : Prop := ∀ xs : List Dialed, sumF szDialed xs ≤ 4194304 → R [.sl 1 5 xs.length (xs.flatMap eDialed)] [] (.sl 0 5 xs.length (xs.flatMap eDialed)) []
abbrev eqDialedSS (R : Rel) : Prop := ∀ xs ys : List Dialed, sumF szDialed xs ≤ 2 ^ 40 → sumF szDialed ys ≤ 2 ^ 40 → R [.sl 1 5 xs.length (xs.flatMap eDialed), .sl 1 5 ys.length (ys.flatMap eDialed)] [] (B (decide (xs = ys))) []
abbrev szLoggedS (R : Rel) : Prop := ∀ (x : Logged) (l : Int), 0 ≤ l → l ≤ 4194304 → lnLogged x → R [arg (eLogged x), I l] [] (I (szl (szLogged x) l)) []
abbrev toLoggedS (R : Rel) : Prop := ∀ x : Logged, szLogged x ≤ 4194304 → R [arg (eLogged x)] [] (.agg (eLogged x)) []
abbrev eqLoggedS (R : Rel) : Prop := ∀ x y : Logged, szLogged x ≤ 2 ^ 40 → szLogged y ≤ 2 ^ 40 → R [arg (eLogged x), arg (eLogged y)] [] (B (decide (x = y))) []
abbrev szLoggedSS (R : Rel) : Prop := ∀ (xs : List Logged) (l : Int), 0 ≤ l → l ≤ 4194304 → lnS lnLogged xs → R [.sl 1 8 xs.length (xs.flatMap eLogged), I l] [] (I (szl (sumF szLogged xs) l)) []
abbrev toLoggedSS (R : Rel) : Prop := ∀ xs : List Logged, sumF szLogged xs ≤ 4194304 → R [.sl 1 8 xs.length (xs.flatMap eLogged)] [] (.sl 0 8 xs.length (xs.flatMap eLogged)) []
abbrev eqLoggedSS (R : Rel) : Prop := ∀ xs ys : List Logged, sumF szLogged xs ≤ 2 ^ 40 → sumF szLogged ys ≤ 2 ^ 40 → R [.sl 1 8 xs.length (xs.flatMap eLogged), .sl 1 8 ys.length (ys.flatMap eLogged)] [] (B (decide (xs = ys))) []
end Go.Eng.T

namespace Go.Eng.T
abbrev eqBoxSS (R : Rel) : Prop := ∀ xs ys : List Box, sumF szBox xs ≤ 2 ^ 40 → sumF szBox ys ≤ 2 ^ 40 → R [.sl 1 4 xs.length (xs.flatMap eBox), .sl 1 4 ys.length (ys.flatMap eBox)] [] (B (decide (xs = ys))) []
abbrev eqEndpointS (R : Rel) : Prop := ∀ x y : Endpoint, szEndpoint x ≤ 2 ^ 40 → szEndpoint y ≤ 2 ^ 40 → R [arg (eEndpoint x), arg (eEndpoint y)] [] (B (decide (x = y))) []
abbrev eqEndpointSS (R : Rel) : Prop := ∀ xs ys : List Endpoint, sumF szEndpoint xs ≤ 2 ^ 40 → sumF szEndpoint ys ≤ 2 ^ 40 → R [.sl 1 4 xs.length (xs.flatMap eEndpoint), .sl 1 4 ys.length (ys.flatMap eEndpoint)] [] (B (decide (xs = ys))) []
end Go.Eng.T

namespace Go.Eng.T
set_option maxRecDepth 20000
abbrev szWorldS (R : Rel) : Prop := ∀ (x : World) (l : Int), 0 ≤ l → l ≤ 4194304 → lnWorld x → R [arg (eWorld x), I l] [] (I (szl (szWorld x) l)) []
abbrev toWorldS (R : Rel) : Prop := ∀ x : World, szWorld x ≤ 4194304 → R [arg (eWorld x)] [] (.agg (eWorld x)) []
abbrev eqWorldS (R : Rel) : Prop := ∀ x y : World, szWorld x ≤ 2 ^ 40 → szWorld y ≤ 2 ^ 40 → R [arg (eWorld x), arg (eWorld y)] [] (B (decide (x = y))) []
end Go.Eng.T

namespace Go.Eng.T
set_option maxRecDepth 20000

abbrev cpRolloutS (R : Rel) : Prop := ∀ r : Rollout, szRollout r ≤ 4194304 → R [arg (eRollout r)] [] (.agg (eRollout r)) []
abbrev cpDialedS (R : Rel) : Prop := ∀ d : Dialed, szDialed d ≤ 4194304 → R [arg (eDialed d)] [] (.agg (eDialed d)) []
theorem take_flat {α : Type} {f : α → List V} {xs : List α} {j : Nat} (h : j < xs.length) : (xs.take j).flatMap f ++ f xs[j] = (xs.take (j + 1)).flatMap f := by
  have e : xs.take (j + 1) = xs.take j ++ [xs[j]] := by simp
  rw [e, List.flatMap_append]; simp
abbrev cpPathS (R : Rel) : Prop := ∀ xs : List Box, sumF szBox xs ≤ 4194304 → R [.sl 1 4 xs.length (xs.flatMap eBox)] [] (.sl 0 4 xs.length (xs.flatMap eBox)) []
abbrev cpEndpointS (R : Rel) : Prop := ∀ x : Endpoint, szEndpoint x ≤ 4194304 → R [arg (eEndpoint x)] [] (.agg (eEndpoint x)) []
end Go.Eng.T

namespace Go.Eng.T
set_option maxRecDepth 20000
theorem world_roll' {w : World} (h : szWorld w ≤ 4194304) : szRollout w.rollout ≤ 4194304 := by unfold szWorld at h; omega
theorem world_szs {w : World} (h : szWorld w ≤ 4194304) : w.server.length ≤ 4194304 ∧ w.tags.length ≤ 4194304 ∧ sumF szEndpoint w.ends ≤ 4194304 ∧ sumF szDialed w.stage ≤ 4194304 ∧ sumF szLogged w.log ≤ 4194304 := by unfold szWorld at h; omega
abbrev cpWorldS (R : Rel) : Prop := ∀ w : World, szWorld w ≤ 4194304 → R [arg (eWorld w)] [] (.agg (eWorld w)) []
end Go.Eng.T

namespace Go.Eng.T
open Go.Lib
set_option maxRecDepth 20000
set_option maxHeartbeats 2000000

theorem joinI3 (a b c : Int) : joinI [a, b, c] [32] = itoa a ++ 32 :: (itoa b ++ 32 :: itoa c) := by
  unfold joinI
  simp [join_cons, joinTail]
def fmtWorld (w : World) : List UInt8 := itoa w.now ++ [32] ++ joinI w.server [44] ++ [32] ++ fmtRollout w.rollout ++ [32] ++ joinI [(w.ends.length : Int), (w.log.length : Int), w.hurt] [32]
abbrev FormatWorldS (R : Rel) : Prop := ∀ w : World, w.server.length ≤ 4194304 → rgInts w.server → w.rollout.stages.length ≤ 4194304 → rgI w.rollout.version → rgInts w.rollout.stages → rgI w.rollout.pos → w.ends.length ≤ 4194304 → w.log.length ≤ 4194304 → rgI w.now → rgI w.hurt → R [arg (eWorld w)] [] (Sb (fmtWorld w)) []
end Go.Eng.T

namespace Go.Eng.T
set_option maxRecDepth 20000
set_option maxHeartbeats 2000000
abbrev FnExactFormatListS (R : Rel) : Prop := ∀ (aL : List Int), lnInts aL → rgInts aL → R [.sl 1 1 aL.length (ints aL)] [] (B true) []
abbrev FnExactFormatDealS (R : Rel) : Prop := ∀ (aD : Deal), lnDeal aD → rgDeal aD → R [arg (eDeal aD)] [] (B true) []
abbrev FnExactFormatDialedS (R : Rel) : Prop := ∀ (aD : Dialed), lnDialed aD → rgDialed aD → R [arg (eDialed aD)] [] (B true) []
theorem FnExactFormatDialed_b (D : Dn) (hs : FormatDialedS (D gspec_FormatDialed)) (hi : FormatDialedS (D gimpl_FormatDialed)) (hszDialed : szDialedS (D glaws_szDialed)) (htoDialed : toDialedS (D glaws_toDialed)) (heqDialed : eqDialedS (D glaws_eqDialed)) : FnExactFormatDialedS (Body D slaws_FnExactFormatDialed) := by
  intro aD l_aD w_aD
  simp -implicitDefEqProofs []
  refine callQ_of (hszDialed aD ((1048576 : Int)) (by omega) (by omega) l_aD) ?_
  by_cases g1 : (1048576 : Int) < ((szDialed aD : Nat) : Int)
  · simp -implicitDefEqProofs [szl_lt g1]
  have p1 : ¬ (1048576 : Int) - ((szDialed aD : Nat) : Int) < 0 := by omega
  simp -implicitDefEqProofs [szl_ge g1, p1]
  have hs' := hs aD (by have e : szDialed aD = aD.deal.tags.length + aD.up.length := rfl; omega) (by have e : szDialed aD = aD.deal.tags.length + aD.up.length := rfl; omega) w_aD.1.1 w_aD.1.2 w_aD.2.1 w_aD.2.2
  have hi' := hi aD (by have e : szDialed aD = aD.deal.tags.length + aD.up.length := rfl; omega) (by have e : szDialed aD = aD.deal.tags.length + aD.up.length := rfl; omega) w_aD.1.1 w_aD.1.2 w_aD.2.1 w_aD.2.2
  refine callQ_of (htoDialed aD (by omega)) ?_
  simp -implicitDefEqProofs [szl_ge g1, p1]
  refine callQ_of (hs') ?_
  simp -implicitDefEqProofs [szl_ge g1, p1]
  refine callQ_of (htoDialed aD (by omega)) ?_
  simp -implicitDefEqProofs [szl_ge g1, p1]
  refine callQ_of (hi') ?_
  simp -implicitDefEqProofs [szl_ge g1, p1]
  refine callQ_of (htoDialed aD (by omega)) ?_
  simp -implicitDefEqProofs [szl_ge g1, p1]
  refine callQ_of (heqDialed aD aD (by omega) (by omega)) ?_
  simp -implicitDefEqProofs [szl_ge g1, p1]
abbrev FnExactFormatRolloutS (R : Rel) : Prop := ∀ (aR : Rollout), lnRollout aR → rgRollout aR → R [arg (eRollout aR)] [] (B true) []
abbrev FnExactFormatEndS (R : Rel) : Prop := ∀ (aE : Endpoint), lnEndpoint aE → rgEndpoint aE → R [arg (eEndpoint aE)] [] (B true) []
abbrev FnExactFormatWorldS (R : Rel) : Prop := ∀ (aW : World), lnWorld aW → rgWorld aW → R [arg (eWorld aW)] [] (B true) []
end Go.Eng.T

namespace Go.Eng
open Go.Lib Go.RowKit

/-- what is read only -/
inductive RdArgs (fid : Nat → Option FuncId) (w : World) : List V → List Value → Prop where
  | nil : RdArgs fid w [] []
  | sc {v : Value} {azs : List V} {xs : List Value} (h : RdArgs fid w azs xs) : RdArgs fid w (.sc v :: azs) (v :: xs)
  | sl {e len : Nat} {cells : List V} {x : Value} {azs : List V} {xs : List Value} (h1 : Rd fid w (· < w.heap.size) (.sl 1 e len cells) x) (h : RdArgs fid w azs xs) : RdArgs fid w (.sl 1 e len cells :: azs) (x :: xs)

def plainA : V → Prop
  | .sc _ => True
  | .sl 1 _ _ _ => True
  | _ => False

theorem rdArgs_of {F : Fr} {w : World} {β : Nat → Base} {own : Nat → Option (Nat × List Nat)} {H : Hp} (hw : w = F.w0) : ∀ {azs : List V} {xs : List Value}, (∀ a, a ∈ azs → plainA a) → Pw (VR F β own H w) azs xs → RdArgs F.fid w azs xs
  | [], xs, _, h => by rw [h.unnil]; exact .nil
  | a :: azs, xs, hp, h => by
    obtain ⟨x, r, rfl, h1, h2⟩ := h.uncons
    have ih := rdArgs_of hw (fun a ha => hp a (List.mem_cons_of_mem _ ha)) h2
    have ha := hp a (by simp)
    cases h1 with
    | sc h => exact .sc ih
    | @rd fl e len cells _ h3 h =>
      match fl, ha, h with
      | 1, _, h => exact .sl (Rd.move h (fun b hb => by rw [hw]; exact hb.1) (fun _ _ => rfl)) ih
    | _ => exact absurd ha (by simp [plainA])

theorem den_read {P : Program} {fid : Nat → Option FuncId} {G : Gl} {g : Nat} {args : List V} {v : Value} (hv : v.oneCell' = true) (hp' : ∀ a, a ∈ args → plainA a)
    (h : ∀ id, fid g = some id → ∀ w : World, (∀ b, G b → b < w.heap.size ∧ w.heap[b]? = G.is b) → ∀ xs, RdArgs fid w args xs → Calls P id xs.toArray w fun e w' => e = .returned v ∧ Below w.heap.size w w') : Den P fid G g args [] (.sc v) [] := by
  intro id hid F hF hG hb ht hn inv xs hx
  have hr := rdArgs_of (F := F) rfl hp' hx
  rw [hF] at hr
  refine (h id hid F.w0 (fun b hb => ?_) xs hr).mono fun e w' ⟨he, hw⟩ => ?_
  · have := inv.glob b (by rw [hG]; exact hb)
    exact ⟨this.1, by rw [← hG]; exact this.2.2⟩
  · subst he
    refine ⟨F.own0, ⟨hw.size, hw.os, hw.tape, hw.output, fun b hb _ => hw.block b hb, fun b p hb => ⟨Nat.lt_of_lt_of_le (inv.ownb b p hb).1 hw.size, fun _ => ?_⟩, .sc hv, hn.symm, fun i o hi => ?_⟩⟩
    · rw [hb]; simp
    · simp at hi

theorem below_grow {w : World} {k : Nat} {os : Array Obj} : Below w.heap.size w (Sort.grow (w.drewN k) os) :=
  ⟨rfl, rfl, rfl, by simp [Sort.grow, World.drewN], fun b hb => by simp [Sort.grow, World.drewN, Array.getElem?_append, hb]⟩

/-- a table that nobody writes reads azs it did -/
theorem tab_same {P : Program} {W w : World} {name : String} {k : IntKind} {zs : List Int} {b : Nat} (hg : P.globalNamed name = some b) (h : TabIs P W name k zs) (he : w.heap[b]? = W.heap[b]?) : TabIs P w name k zs := by
  unfold TabIs World.var? at *
  rw [hg] at h ⊢
  simp only [Option.bind_some] at h ⊢
  rw [he]
  exact h
theorem tab_of_laid {P : Program} {W : World} {name : String} {k : IntKind} {zs : List Int} {rest : List (String × DataW Unit)} {g : Nat} {t e : TypeId} {n : Nat} {ps : List MemPlace}
    (hg : P.globalNamed name = some g) (hty : (P.globals[g]?).map (·.type) = some t) (ht : P.underlying t = some (.array n e)) (he : P.underlying e = some (.int k)) (hce : P.cellsOf e = 1) (hct : P.cellsOf t = n)
    (h : DataW.LaidVars P W ((name, tabData k zs) :: rest) ps) : TabIs P W name k zs := by
  obtain ⟨g', t', cs, fuel, p, q, hg', ht', hvar, hd, _, _⟩ := h
  obtain rfl := Option.some.inj (hg.symm.trans hg')
  obtain rfl := Option.some.inj (hty.symm.trans ht')
  unfold TabIs
  rw [hvar, ← cells_of_tab ht he hce hct hd]
theorem laid_tail {P : Program} {W : World} {x : String × DataW Unit} {rest : List (String × DataW Unit)} {ps : List MemPlace} (h : DataW.LaidVars P W (x :: rest) ps) : ∃ q, DataW.LaidVars P W rest q := by
  obtain ⟨g', t', cs, fuel, p, q, hg', ht', hvar, hd, hr, _⟩ := h
  exact ⟨q, hr⟩
theorem tab_third {P : Program} {W : World} {name : String} {k : IntKind} {zs : List Int} {a b : String × DataW Unit} {rest : List (String × DataW Unit)} {g : Nat} {t e : TypeId} {n : Nat}
    (hg : P.globalNamed name = some g) (hty : (P.globals[g]?).map (·.type) = some t) (ht : P.underlying t = some (.array n e)) (he : P.underlying e = some (.int k)) (hce : P.cellsOf e = 1) (hct : P.cellsOf t = n)
    (h : laidMet P (a :: b :: (name, tabData k zs) :: rest) W) : TabIs P W name k zs := by
  obtain ⟨ps, h1, _⟩ := h
  obtain ⟨q1, h2⟩ := laid_tail h1
  obtain ⟨q2, h3⟩ := laid_tail h2
  exact tab_of_laid hg hty ht he hce hct h3
theorem tab_size {P : Program} {W : World} {name : String} {k : IntKind} {zs : List Int} {b : Nat} (hg : P.globalNamed name = some b) (h : TabIs P W name k zs) : b < W.heap.size := by
  unfold TabIs World.var? at h
  rw [hg] at h
  simp only [Option.bind_some] at h
  by_cases hb : b < W.heap.size
  · exact hb
  · rw [Array.getElem?_eq_none (by omega)] at h; cases h
end Go.Eng

namespace Go.Eng.T
open Go.Lib Go.RowKit

theorem itoa_den {P : Program} {fid : Nat → Option FuncId} {G : Gl} {g k b : Nat} {W : Go.World} (hid : fid g = some k) (hg : P.globalNamed "internal/strconv.uint64pow10" = some b) (hb : G b) (hW : G.is b = W.heap[b]?)
    (ht : TabIs P W "internal/strconv.uint64pow10" .u64 pow10Tab)
    (hc : ∀ n : Int, -9223372036854775808 ≤ n → n ≤ 9223372036854775807 → ∀ w : Go.World, TabIs P w "internal/strconv.uint64pow10" .u64 pow10Tab → Calls P k #[.int .i64 n] w fun e w' => e = .returned (.string ⟨(itoa n).toArray⟩) ∧ ∃ j os, w' = Sort.grow (w.drewN j) os) :
    FormatIntS (Den P fid G g) := by
  intro n hn
  refine den_read (v := .string (bts (itoa n))) rfl (fun a ha => ?_) ?_
  · simp only [List.mem_singleton] at ha; subst ha; trivial
  intro id hi w hw xs hx
  rw [hid] at hi
  cases hi
  cases hx with
  | sc h =>
    cases h
    refine (hc n hn.1 hn.2 w (tab_same hg ht ?_)).mono fun e w' ⟨he, j, os, hw'⟩ => ⟨he, ?_⟩
    · rw [(hw b hb).2, hW]
    · rw [hw']; exact below_grow

theorem join_den {P : Program} {fid : Nat → Option FuncId} {G : Gl} {g k : Nat} (hid : fid g = some k)
    (h0 : ∀ (a : Option Addr) (c : Nat) (sep : ByteArray) (w : Go.World), Calls P k #[.slice a 0 c, .string sep] w fun e w' => e = .returned (.string ⟨#[]⟩) ∧ w' = w)
    (hc : ∀ (bk o c : Nat) (xs : List ByteArray) (sep : ByteArray) (w : Go.World), (∀ (j : Nat) x, xs[j]? = some x → w.cell? ⟨bk, o + j, none⟩ = some (.string x)) → bk < w.heap.size → xs.length ≤ 140737488355328 → xs.length ≤ c → (join (xs.map (·.data.toList)) sep.data.toList).length ≤ 140737488355328 →
      Calls P k #[.slice (some ⟨bk, o, none⟩) xs.length c, .string sep] w fun e w' => e = .returned (.string ⟨(join (xs.map (·.data.toList)) sep.data.toList).toArray⟩) ∧ Below w.heap.size w w') :
    JoinS (Den P fid G g) := by
  intro ls sep hl hj
  refine den_read (v := .string (bts (join ls sep))) rfl (fun a ha => ?_) ?_
  · simp only [List.mem_cons, List.not_mem_nil, or_false] at ha
    rcases ha with rfl | rfl <;> trivial
  intro id hi w hw xs hx
  rw [hid] at hi
  cases hi
  cases hx with
  | sl h1 h2 =>
    cases h2 with
    | sc h3 =>
      cases h3
      cases h1 with
      | @sl _ _ _ _ a cap vs hle hwd hvl hm hcs =>
        have eb : ∀ l : List UInt8, (bts l).data.toList = l := fun l => rfl
        have em : (ls.map bts).map (·.data.toList) = ls := by rw [List.map_map]; exact (List.map_congr_left fun l _ => eb l).trans (List.map_id ls)
        have es : (bts sep).data.toList = sep := eb sep
        rcases hm with hm | ⟨b, o, rfl, hbk, hr⟩
        · have : ls = [] := by
            cases ls with
            | nil => rfl
            | cons x r => simp [strs] at hm
          subst this
          refine (h0 a cap (bts sep) w).mono fun e w' ⟨he, hw'⟩ => ⟨?_, by rw [hw']; exact Below.refl _ _⟩
          rw [he, join_nil]; rfl
        · have hvlen : vs.length = ls.length := by rw [hvl]; simp
          have := hc b o cap (ls.map bts) (bts sep) w (fun j x hx => ?_) hbk (by simp; omega) (by simpa using hle) (by rw [em, es]; exact hj)
          · rw [em, es] at this
            simp only [List.length_map] at this
            exact this
          · simp only [List.getElem?_map, Option.map_eq_some_iff] at hx
            obtain ⟨l, hl', rfl⟩ := hx
            have hj' : j < ls.length := by
              by_cases h : j < ls.length
              · exact h
              · rw [List.getElem?_eq_none (by omega)] at hl'; cases hl'
            rw [hr.2 j (by omega)]
            have hv : vs[j]? = some vs[j] := by simp
            rw [hv]
            have hrd := hcs j (Sb l) vs[j] (by simp [strs, hl']) hv
            generalize vs[j] = y at hrd ⊢
            cases hrd with
            | sc _ => rfl
end Go.Eng.T

namespace Go.Proofs
open Go.Shelf
def Tryd.lays156_ren : Go.Shelf.Ren := ⟨fun | 156 => 24 | 165 => 26 | 166 => 27 | 169 => 28 | 240 => 30 | 241 => 31 | 276 => 33 | 277 => 34 | n => n, fun | 31 => 46 | 9 => 9 | 3 => 3 | 4 => 4 | 0 => 0 | 20 => 20 | 72 => 51 | 76 => 55 | 70 => 49 | 37 => 48 | 75 => 54 | 127 => 58 | 164 => 60 | 5 => 5 | 80 => 57 | n => n, fun | n => n⟩
theorem Tryd.lays156 : Go.Proofs.Lays.n156 Tryd.prog Tryd.lays156_ren := {
  mixed := by kernel_rfl
  f156 := Tryd.func24.trans (congrArg some (by kernel_rfl))
  f165 := Tryd.func26.trans (congrArg some (by kernel_rfl))
  f166 := Tryd.func27.trans (congrArg some (by kernel_rfl))
  f169 := Tryd.func28.trans (congrArg some (by kernel_rfl))
  f240 := Tryd.func30.trans (congrArg some (by kernel_rfl))
  f241 := Tryd.func31.trans (congrArg some (by kernel_rfl))
  f276 := Tryd.func33.trans (congrArg some (by kernel_rfl))
  f277 := Tryd.func34.trans (congrArg some (by kernel_rfl))
  t0 := Tryd.underlying0
  a0 := Tryd.isAgg0
  z0 := Tryd.sizeOf0
  v0 := Tryd.zeroValue0
  t3 := Tryd.underlying3
  a3 := Tryd.isAgg3
  z3 := Tryd.sizeOf3
  v3 := Tryd.zeroValue3
  t4 := Tryd.underlying4
  a4 := Tryd.isAgg4
  z4 := Tryd.sizeOf4
  v4 := Tryd.zeroValue4
  t9 := Tryd.underlying9
  a9 := Tryd.isAgg9
  z9 := Tryd.sizeOf9
  v9 := Tryd.zeroValue9
  t20 := Tryd.underlying20
  a20 := Tryd.isAgg20
  z20 := Tryd.sizeOf20
  v20 := Tryd.zeroValue20
  t31 := Tryd.underlying46
  a31 := Tryd.isAgg46
  z31 := Tryd.sizeOf46
  v31 := Tryd.zeroValue46
  t37 := Tryd.underlying48
  a37 := Tryd.isAgg48
  z37 := Tryd.sizeOf48
  v37 := Tryd.zeroValue48
  t70 := Tryd.underlying49
  a70 := Tryd.isAgg49
  z70 := Tryd.sizeOf49
  v70 := Tryd.zeroValue49
  t72 := Tryd.underlying51
  a72 := Tryd.isAgg51
  z72 := Tryd.sizeOf51
  v72 := Tryd.zeroValue51
  t75 := Tryd.underlying54
  a75 := Tryd.isAgg54
  z75 := Tryd.sizeOf54
  v75 := Tryd.zeroValue54
  t76 := Tryd.underlying55
  a76 := Tryd.isAgg55
  z76 := Tryd.sizeOf55
  v76 := Tryd.zeroValue55
  t127 := Tryd.underlying58
  a127 := Tryd.isAgg58
  z127 := Tryd.sizeOf58
  v127 := Tryd.zeroValue58
  t164 := Tryd.underlying60
  a164 := Tryd.isAgg60
  z164 := Tryd.sizeOf60
  v164 := Tryd.zeroValue60 }
theorem Tryd.Builder_Extra_156 : Builder.Extra Tryd.prog Tryd.lays156_ren := {
  sizeBuilder := by kernel_rfl
  liesBuilder := by kernel_rfl
  t5 := Tryd.underlying5
  a5 := Tryd.isAgg5
  z5 := Tryd.sizeOf5
  v5 := Tryd.zeroValue5
  infoByte := by kernel_rfl
  cellsByte := by kernel_rfl
  sizeByte := by kernel_rfl
  neB5 := by decide }
open Go.RowKit in
theorem Tryd.strings_Join_none (a : Option Addr) (c : Nat) (sep : ByteArray) (w : World) :
    Calls Tryd.prog 24 #[.slice a 0 c, .string sep] w fun e w' => e = .returned (.string ⟨#[]⟩) ∧ w' = w := Any.strings_Join_none Tryd.lays156 Tryd.Builder_Extra_156 a c sep w
open Go.RowKit in
theorem Tryd.strings_Join (bk o c : Nat) (xs : List ByteArray) (sep : ByteArray) (w : World) (hcells : ∀ (j : Nat) x, xs[j]? = some x → w.cell? ⟨bk, o + j, none⟩ = some (.string x)) (hbk : bk < w.heap.size) (hN : xs.length ≤ 140737488355328) (hcap : xs.length ≤ c) (hlen : (Lib.join (xs.map (·.data.toList)) sep.data.toList).length ≤ 140737488355328) :
    Calls Tryd.prog 24 #[.slice (some ⟨bk, o, none⟩) xs.length c, .string sep] w fun e w' => e = .returned (.string ⟨(Lib.join (xs.map (·.data.toList)) sep.data.toList).toArray⟩) ∧ Below w.heap.size w w' := Any.strings_Join Tryd.lays156 Tryd.Builder_Extra_156 bk o c xs sep w hcells hbk hN hcap hlen
def Tryd.laysM171_ren : Go.Shelf.Ren := ⟨fun | 171 => 25 | 243 => 29 | 246 => 32 | 283 => 35 | 284 => 36 | 285 => 37 | 286 => 38 | 129 => 40 | 317 => 39 | 318 => 41 | 319 => 42 | 320 => 43 | 337 => 44 | 338 => 45 | n => n, fun | 3 => 3 | 9 => 9 | 2 => 2 | 4 => 4 | 171 => 63 | 0 => 0 | 53 => 64 | 37 => 48 | 5 => 5 | 173 => 67 | 212 => 71 | 51 => 72 | 20 => 20 | 213 => 73 | 46 => 75 | 232 => 78 | 233 => 79 | n => n, fun | 17 => 1 | 18 => 2 | 19 => 3 | n => n⟩
theorem Tryd.laysM171 : Go.Proofs.LaysM.n171 Tryd.prog Tryd.laysM171_ren := {
  mixed := by kernel_rfl
  f129 := Tryd.func40.trans (congrArg some (by kernel_rfl))
  f171 := Tryd.func25.trans (congrArg some (by kernel_rfl))
  f243 := Tryd.func29.trans (congrArg some (by kernel_rfl))
  f246 := Tryd.func32.trans (congrArg some (by kernel_rfl))
  f283 := Tryd.func35.trans (congrArg some (by kernel_rfl))
  f284 := Tryd.func36.trans (congrArg some (by kernel_rfl))
  f285 := Tryd.func37.trans (congrArg some (by kernel_rfl))
  f286 := Tryd.func38.trans (congrArg some (by kernel_rfl))
  f317 := Tryd.func39.trans (congrArg some (by kernel_rfl))
  f318 := Tryd.func41.trans (congrArg some (by kernel_rfl))
  f319 := Tryd.func42.trans (congrArg some (by kernel_rfl))
  f320 := Tryd.func43.trans (congrArg some (by kernel_rfl))
  f337 := Tryd.func44.trans (congrArg some (by kernel_rfl))
  f338 := Tryd.func45.trans (congrArg some (by kernel_rfl))
  t0 := Tryd.underlying0
  a0 := Tryd.isAgg0
  z0 := Tryd.sizeOf0
  v0 := Tryd.zeroValue0
  t2 := Tryd.underlying2
  a2 := Tryd.isAgg2
  z2 := Tryd.sizeOf2
  v2 := Tryd.zeroValue2
  t3 := Tryd.underlying3
  a3 := Tryd.isAgg3
  z3 := Tryd.sizeOf3
  v3 := Tryd.zeroValue3
  t4 := Tryd.underlying4
  a4 := Tryd.isAgg4
  z4 := Tryd.sizeOf4
  v4 := Tryd.zeroValue4
  t5 := Tryd.underlying5
  a5 := Tryd.isAgg5
  z5 := Tryd.sizeOf5
  v5 := Tryd.zeroValue5
  t9 := Tryd.underlying9
  a9 := Tryd.isAgg9
  z9 := Tryd.sizeOf9
  v9 := Tryd.zeroValue9
  t20 := Tryd.underlying20
  a20 := Tryd.isAgg20
  z20 := Tryd.sizeOf20
  v20 := Tryd.zeroValue20
  t37 := Tryd.underlying48
  a37 := Tryd.isAgg48
  z37 := Tryd.sizeOf48
  v37 := Tryd.zeroValue48
  t46 := Tryd.underlying75
  a46 := Tryd.isAgg75
  z46 := Tryd.sizeOf75
  v46 := Tryd.zeroValue75
  t51 := Tryd.underlying72
  a51 := Tryd.isAgg72
  z51 := Tryd.sizeOf72
  v51 := Tryd.zeroValue72
  t53 := Tryd.underlying64
  a53 := Tryd.isAgg64
  z53 := Tryd.sizeOf64
  v53 := Tryd.zeroValue64
  t171 := Tryd.underlying63
  a171 := Tryd.isAgg63
  z171 := Tryd.sizeOf63
  v171 := Tryd.zeroValue63
  t173 := Tryd.underlying67
  a173 := Tryd.isAgg67
  z173 := Tryd.sizeOf67
  v173 := Tryd.zeroValue67
  t212 := Tryd.underlying71
  a212 := Tryd.isAgg71
  z212 := Tryd.sizeOf71
  v212 := Tryd.zeroValue71
  t213 := Tryd.underlying73
  a213 := Tryd.isAgg73
  z213 := Tryd.sizeOf73
  t232 := Tryd.underlying78
  a232 := Tryd.isAgg78
  z232 := Tryd.sizeOf78
  v232 := Tryd.zeroValue78
  t233 := Tryd.underlying79
  a233 := Tryd.isAgg79
  z233 := Tryd.sizeOf79
  v233 := Tryd.zeroValue79
  g17 := by kernel_rfl
  g18 := by kernel_rfl
  g19 := by kernel_rfl
  i0 := by kernel_rfl
  i2 := by kernel_rfl
  i3 := by kernel_rfl
  i4 := by kernel_rfl
  i5 := by kernel_rfl
  i9 := by kernel_rfl
  i20 := by kernel_rfl
  i37 := by kernel_rfl
  i46 := by kernel_rfl
  i51 := by kernel_rfl
  i53 := by kernel_rfl
  i171 := by kernel_rfl
  i173 := by kernel_rfl
  i212 := by kernel_rfl
  i232 := by kernel_rfl
  i233 := by kernel_rfl
  m17 := by kernel_rfl
  m18 := by kernel_rfl
  m19 := by kernel_rfl }
open Go.RowKit Go.Sort Go.Lib in
theorem Tryd.strconv_Itoa (n : Int) (h0 : -9223372036854775808 ≤ n) (h1 : n ≤ 9223372036854775807) (w : World) (htab : Lib.TabIs Tryd.prog w "internal/strconv.uint64pow10" .u64 Lib.pow10Tab) :
    Calls Tryd.prog 25 #[.int .i64 n] w fun e w' => e = .returned (.string ⟨(Lib.itoa n).toArray⟩) ∧ ∃ k os, w' = grow (w.drewN k) os := Any.strconv_Itoa Tryd.laysM171 n h0 h1 w htab
end Go.Proofs

