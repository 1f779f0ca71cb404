/- Own work: part 45 of the proof of FnExactStepStart. -/
import Derived.Test.YtncobgjmochecabP44
import Derived.Lib.SlicesCompact
import Derived.Below
import Derived.Sort.Grow
import Derived.Deep.Draws
import Derived.Lib.LaidTab
import Derived.Sort.Row
import Derived.Laws.IdiomCopy
import Derived.Laws.AppendOwn
import Derived.Lib.RowBridge
import Derived.Shelf.Small.Bits
import Derived.Shelf.Strconv.Itoa0
import Derived.Shelf.Sort.Plain
import Derived.Shelf.Slices.Turned
import Derived.Shelf.Slices.Reverse
import Derived.Ground.Names2Prog
import Derived.Shelf.Slices.CompactI
import Derived.Shelf.Slices.SearchI
import Derived.Shelf.Slices.Cells
import Derived.Shelf.Slices.In.SortNone
import Derived.Shelf.Spec.SlicesInsertGrow
import Derived.Test.YtncobgjmochecabProg
set_option linter.unusedSimpArgs false
set_option linter.unusedVariables false
namespace Go.Eng.T
set_option maxRecDepth 20000

theorem allIn_step {xs : List Int} {lo hi : Int} {j : Nat} (h : j < xs.length) : allIn (xs.take (j + 1)) lo hi = (allIn (xs.take j) lo hi && decide (InR xs[j] lo hi)) := by
  have e : xs.take (j + 1) = xs.take j ++ [xs[j]] := by simp
  unfold allIn
  rw [e, List.all_append]; simp
theorem allIn_no {xs : List Int} {lo hi : Int} {j : Nat} (h : j < xs.length) (hn : ¬ InR xs[j] lo hi) : allIn xs lo hi = false := by
  unfold allIn
  rw [List.all_eq_false]
  exact ⟨xs[j], List.getElem_mem h, by simp [hn]⟩
theorem allIn_all {xs : List Int} {lo hi : Int} {j : Nat} (h : xs.length ≤ j) (ha : allIn (xs.take j) lo hi = true) : allIn xs lo hi = true := by rwa [List.take_of_length_le h] at ha
abbrev l9ByteS (R : Rel) : Prop := ∀ xs : List Int, xs.length ≤ maxLen → R [.sl 1 1 xs.length (ints xs)] [] (B (allIn xs 0 255)) []
def isBox (b : Box) : Bool := decide (InR b.limit 0 9) && decide (b.drops.length ≤ 6) && decide (b.strips.length ≤ 6) && allIn b.drops 0 255 && allIn b.strips 0 255
abbrev IsBoxS (R : Rel) : Prop := ∀ b : Box, lnBox b → R [arg (eBox b)] [] (B (isBox b)) []
def stepBox (w : World) (i : Int) (b : Box) : World × Bool :=
  if 0 ≤ i then (match w.ends[i.toNat]? with
    | some x => if isBox b = true ∧ x.path.length < 4 then ({ w with ends := w.ends.set i.toNat ⟨x.versions, x.tags, x.path ++ [b], x.cls⟩ }, true) else (w, false)
    | none => (w, false)) else (w, false)
abbrev StepBoxS (R : Rel) : Prop := ∀ (w : World) (i : Int) (b : Box), szWorld w ≤ 4194304 → szBox b ≤ 4194304 → R [arg (eWorld w), I i, arg (eBox b)] [] (.tup [.agg (eWorld (stepBox w i b).1), B (stepBox w i b).2]) []
theorem stepBox_out {w : World} {i : Int} {b : Box} (h : ¬ InQ i 0 ((w.ends.length : Int) - 1)) : stepBox w i b = (w, false) := by
  unfold stepBox
  by_cases h0 : 0 ≤ i
  · rw [if_pos h0, List.getElem?_eq_none (by omega)]
  · rw [if_neg h0]
theorem ln_of_sz {b : Box} (h : szBox b ≤ 4194304) : lnBox b := by unfold szBox at h; unfold lnBox lnInts maxLen; omega
theorem stepBox_sz (w : World) (i : Int) (b : Box) : szWorld (stepBox w i b).1 ≤ szWorld w + 1 + szBox b := by
  unfold stepBox
  split
  · split
    · rename_i x hx
      split
      · obtain ⟨hj, rfl⟩ := List.getElem?_eq_some_iff.1 hx
        have := size_set (f := szEndpoint) hj ⟨w.ends[i.toNat].versions, w.ends[i.toNat].tags, w.ends[i.toNat].path ++ [b], w.ends[i.toNat].cls⟩
        have e1 : szEndpoint ⟨w.ends[i.toNat].versions, w.ends[i.toNat].tags, w.ends[i.toNat].path ++ [b], w.ends[i.toNat].cls⟩ = szEndpoint w.ends[i.toNat] + 1 + szBox b := by unfold szEndpoint sumF; simp; omega
        simp only [szWorld]
        omega
      · show szWorld w ≤ _; omega
    · show szWorld w ≤ _; omega
  · show szWorld w ≤ _; omega
end Go.Eng.T

namespace Go.Eng.T
set_option maxRecDepth 20000
abbrev IndexFuncEndpointS (D : Dn) (R : Rel) : Prop := ∀ (xs : List Endpoint) (g : Nat) (caps : List V) (p : Endpoint → Bool), xs.length ≤ maxLen → CapOk caps → (∀ (j : Nat) (h : j < xs.length), D g (arg (eEndpoint xs[j]) :: caps) [] (B (p xs[j])) []) → R [.sl 1 4 xs.length (xs.flatMap eEndpoint), .fn g caps] [] (I (idxP p xs 0)) []
abbrev ContainsFuncEndpointS (D : Dn) (R : Rel) : Prop := ∀ (xs : List Endpoint) (g : Nat) (caps : List V) (p : Endpoint → Bool), xs.length ≤ maxLen → CapOk caps → (∀ (j : Nat) (h : j < xs.length), D g (arg (eEndpoint xs[j]) :: caps) [] (B (p xs[j])) []) → R [.sl 1 4 xs.length (xs.flatMap eEndpoint), .fn g caps] [] (B (xs.any p)) []
abbrev IndexFuncLoggedS (D : Dn) (R : Rel) : Prop := ∀ (xs : List Logged) (g : Nat) (caps : List V) (p : Logged → Bool), xs.length ≤ maxLen → CapOk caps → (∀ (j : Nat) (h : j < xs.length), D g (arg (eLogged xs[j]) :: caps) [] (B (p xs[j])) []) → R [.sl 1 8 xs.length (xs.flatMap eLogged), .fn g caps] [] (I (idxP p xs 0)) []
abbrev ContainsFuncLoggedS (D : Dn) (R : Rel) : Prop := ∀ (xs : List Logged) (g : Nat) (caps : List V) (p : Logged → Bool), xs.length ≤ maxLen → CapOk caps → (∀ (j : Nat) (h : j < xs.length), D g (arg (eLogged xs[j]) :: caps) [] (B (p xs[j])) []) → R [.sl 1 8 xs.length (xs.flatMap eLogged), .fn g caps] [] (B (xs.any p)) []
abbrev IndexFuncBoxS (D : Dn) (R : Rel) : Prop := ∀ (xs : List Box) (g : Nat) (caps : List V) (p : Box → Bool), xs.length ≤ maxLen → CapOk caps → (∀ (j : Nat) (h : j < xs.length), D g (arg (eBox xs[j]) :: caps) [] (B (p xs[j])) []) → R [.sl 1 4 xs.length (xs.flatMap eBox), .fn g caps] [] (I (idxP p xs 0)) []
abbrev ContainsFuncBoxS (D : Dn) (R : Rel) : Prop := ∀ (xs : List Box) (g : Nat) (caps : List V) (p : Box → Bool), xs.length ≤ maxLen → CapOk caps → (∀ (j : Nat) (h : j < xs.length), D g (arg (eBox xs[j]) :: caps) [] (B (p xs[j])) []) → R [.sl 1 4 xs.length (xs.flatMap eBox), .fn g caps] [] (B (xs.any p)) []
end Go.Eng.T

namespace Go.Eng.T
set_option maxRecDepth 20000

theorem sz_up {xs : List Logged} {j : Nat} (h : j < xs.length) : xs[j].dialed.up.length ≤ sumF szLogged xs := by
  have := size_at (f := szLogged) h
  simp only [szLogged, szDialed] at this ⊢
  omega
theorem world_up {w : World} (h : szWorld w ≤ 4194304) {j : Nat} (hj : j < w.log.length) : w.log[j].dialed.up.length ≤ maxLen := by
  have := sz_up hj
  unfold szWorld at h
  unfold maxLen; omega

def hurtL (w : World) (l : Logged) : Bool := l.on && badD w.rollout.version l.dialed
abbrev HurtS (R : Rel) : Prop := ∀ (w : World) (l : Logged), l.dialed.up.length ≤ maxLen → R [arg (eWorld w), arg (eLogged l)] [] (B (hurtL w l)) []
abbrev IsCountedS (R : Rel) : Prop := ∀ (w : World), szWorld w ≤ 4194304 → R [arg (eWorld w)] [] (B (decide (w.hurt = cntF (hurtL w) w.log))) []
end Go.Eng.T

namespace Go.Eng.T
set_option maxRecDepth 20000

def isReserved (t : Int) : Bool := decide (InR t 0 255) && decide (t.tmod 16 = 10)
abbrev IsReservedS (R : Rel) : Prop := ∀ t : Int, R [I t] [] (B (isReserved t)) []
abbrev IsHardenedS (R : Rel) : Prop := ∀ xs : List Int, xs.length ≤ maxLen → R [.sl 1 1 xs.length (ints xs)] [] (B (xs.any isReserved)) []
theorem any_here {α : Type} {p : α → Bool} {xs : List α} {j : Nat} (h : j < xs.length) (hp : p xs[j] = true) : xs.any p = true := List.any_eq_true.2 ⟨_, List.getElem_mem h, hp⟩
theorem any_step {α : Type} {p : α → Bool} {xs : List α} {j : Nat} (h : j < xs.length) : (xs.take (j + 1)).any p = ((xs.take j).any p || p xs[j]) := by
  have e : xs.take (j + 1) = xs.take j ++ [xs[j]] := by simp
  rw [e, List.any_append]; simp
theorem any_none {α : Type} {p : α → Bool} {xs : List α} {j : Nat} (h : xs.length ≤ j) (ha : (xs.take j).any p = false) : xs.any p = false := by rwa [List.take_of_length_le h] at ha
def drunkL (l : Logged) : Bool := l.dialed.deal.ok && (l.dialed.deal.tags.any isReserved || !decide (InR l.dialed.deal.version 1 9))
abbrev IsSoberS (R : Rel) : Prop := ∀ w : World, szWorld w ≤ 4194304 → R [arg (eWorld w)] [] (B (!w.log.any drunkL)) []
theorem world_dtags {w : World} (h : szWorld w ≤ 4194304) {j : Nat} (hj : j < w.log.length) : w.log[j].dialed.deal.tags.length ≤ maxLen := by
  have := size_at (f := szLogged) hj
  have e : szLogged w.log[j] = w.log[j].dialed.deal.tags.length + w.log[j].dialed.up.length := rfl
  unfold szWorld at h
  unfold maxLen; omega
abbrev IsSober1S (R : Rel) : Prop := ∀ l : Logged, l.dialed.deal.tags.length ≤ maxLen → R [arg (eLogged l)] [] (B (drunkL l)) []
end Go.Eng.T

namespace Go.Eng.T
def slaws_FnExactStepStart_r0 : Reg :=
  { id := 0, ops := [{ op := .box 0 (.slot 0) },
      { op := .mv (.con (.sc (.bool false))) }], sets := [(1, 0)], clr := [0, 2] }
def slaws_FnExactStepStart_r1 : Reg :=
  { id := 1, ops := [{ op := .mv (.con (.sc (.int .i64 1048576))) }], sets := [(3, 0)] }
def slaws_FnExactStepStart_r2 : Reg :=
  { id := 2, ops := [{ op := .load (some 15) (.slot 1) },
      { op := .mv (.slot 3) },
      { op := .call 7 [(false, .loc 0), (false, .loc 1)] [] },
      { op := .mv (.loc 2) }], sets := [(3, 3)] }
def slaws_FnExactStepStart_r3 : Reg :=
  { id := 3, ops := [{ op := .mv (.slot 3) },
      { op := .bin .lss (.loc 0) (.con (.sc (.int .i64 0))) }], sets := [(14, 1)], clr := [3] }
def slaws_FnExactStepStart_r4 : Reg :=
  { id := 4, ops := [{ op := .mv (.con (.sc (.bool true))) }], sets := [(2, 0)], clr := [1] }
def slaws_FnExactStepStart_r5 : Reg :=
  { id := 5, ops := [{ op := .load (some 15) (.slot 1) },
      { op := .call 8 [(false, .loc 0)] [1, 2, 3, 4, 5, 6] },
      { op := .call 74 [(false, .loc 1)] [7, 8, 9, 10, 11, 12] },
      { op := .mv (.loc 2) },
      { op := .extract (.loc 3) 0 },
      { op := .extract (.loc 3) 1 },
      { op := .alloc 13 [.nil 1, .nil 1, .sc (.int .i64 0), .nil 4, .sc (.int .i64 0), .nil 1, .sc (.int .i64 0), .sc (.bool false), .sc (.int .i64 0), .sc (.int .i64 0), .nil 5, .nil 8, .sc (.int .i64 0), .sc (.int .i64 0), .sc (.int .i64 0)] },
      { op := .store 15 (.loc 6) (.loc 4) },
      { op := .mv (.loc 5) }], sets := [(4, 6), (5, 8)] }
def slaws_FnExactStepStart_r6 : Reg :=
  { id := 6, ops := [{ op := .load (some 15) (.slot 1) },
      { op := .call 8 [(false, .loc 0)] [14, 15, 16, 17, 18, 19] },
      { op := .alloc 20 [.nil 1, .nil 1, .sc (.int .i64 0), .nil 4, .sc (.int .i64 0), .nil 1, .sc (.int .i64 0), .sc (.bool false), .sc (.int .i64 0), .sc (.int .i64 0), .nil 5, .nil 8, .sc (.int .i64 0), .sc (.int .i64 0), .sc (.int .i64 0)] },
      { op := .store 15 (.loc 2) (.loc 1) }], sets := [(6, 2)] }
def slaws_FnExactStepStart_r7 : Reg :=
  { id := 7, ops := [{ op := .load (some 15) (.slot 6) },
      { op := .call 107 [(false, .loc 0)] [21, 22, 23, 24, 25, 26] },
      { op := .mv (.loc 1) },
      { op := .extract (.loc 2) 0 },
      { op := .extract (.loc 2) 1 },
      { op := .alloc 27 [.nil 1, .nil 1, .sc (.int .i64 0), .nil 4, .sc (.int .i64 0), .nil 1, .sc (.int .i64 0), .sc (.bool false), .sc (.int .i64 0), .sc (.int .i64 0), .nil 5, .nil 8, .sc (.int .i64 0), .sc (.int .i64 0), .sc (.int .i64 0)] },
      { op := .store 15 (.loc 5) (.loc 3) },
      { op := .mv (.loc 4) }], sets := [(7, 5), (8, 7)] }
def slaws_FnExactStepStart_r8 : Reg :=
  { id := 8, ops := [{ op := .load (some 15) (.slot 7) },
      { op := .load (some 15) (.slot 4) },
      { op := .call 11 [(false, .loc 0), (false, .loc 1)] [] },
      { op := .un .not (.loc 2) },
      { op := .mv (.loc 3) },
      { op := .mv (.slot 8), guard := some (4, false) },
      { op := .mv (.slot 5), guard := some (4, false) },
      { op := .beq true (.loc 5) (.loc 6), guard := some (4, false) },
      { op := .pick (.loc 4) (.con (.sc (.bool true))) (.loc 7) }], sets := [(15, 8)] }
def slaws_FnExactStepStart_r9 : Reg :=
  { id := 9, ops := [{ op := .mv (.con (.sc (.bool false))) }], sets := [(2, 0)], clr := [1, 4, 5, 6, 7, 8] }
def slaws_FnExactStepStart_r10 : Reg :=
  { id := 10, draw := true, ops := [{ op := .load (some 15) (.slot 6), tau := some [20], om := [] },
      { op := .load (some 15) (.slot 1), tau := some [0], om := [] },
      { op := .call 8 [(false, .loc 1)] [28, 29, 30, 31, 32, 33], tau := some [28, 29, 30, 31, 32, 33], om := [28, 29, 30, 31, 32, 33] },
      { op := .call 11 [(false, .loc 0), (false, .loc 2)] [], tau := some [14, 15, 16, 17, 18, 19, 28, 29, 30, 31, 32, 33], om := [] },
      { op := .un .not (.loc 3), tau := some [], om := [] }], sets := [(16, 4)] }
def slaws_FnExactStepStart_r11 : Reg :=
  { id := 11, ops := [{ op := .mv (.con (.sc (.bool false))) }], sets := [(2, 0)], clr := [1, 4, 5, 6, 7, 8] }
def slaws_FnExactStepStart_r12 : Reg :=
  { id := 12, ops := [{ op := .mv (.con (.sc (.int .i64 1))) }], sets := [(9, 0)] }
def slaws_FnExactStepStart_r13 : Reg :=
  { id := 13, ops := [{ op := .load (some 15) (.slot 6) },
      { op := .mv (.slot 9) },
      { op := .call 12 [(true, .loc 0), (false, .loc 1)] [] },
      { op := .mv (.loc 2) }], sets := [(9, 3)], clr := [6] }
def slaws_FnExactStepStart_r14 : Reg :=
  { id := 14, ops := [{ op := .mv (.slot 9) },
      { op := .bin .lss (.loc 0) (.con (.sc (.int .i64 0))) },
      { op := .mv (.loc 1) },
      { op := .load (some 15) (.slot 7), guard := some (2, false) },
      { op := .load (some 15) (.slot 4), guard := some (2, false) },
      { op := .call 11 [(false, .loc 3), (false, .loc 4)] [], guard := some (2, false) },
      { op := .un .not (.loc 5), guard := some (2, false) },
      { op := .pick (.loc 2) (.con (.sc (.bool true))) (.loc 6) },
      { op := .mv (.loc 7) },
      { op := .mv (.slot 8), guard := some (8, false) },
      { op := .mv (.slot 5), guard := some (8, false) },
      { op := .beq true (.loc 9) (.loc 10), guard := some (8, false) },
      { op := .pick (.loc 8) (.con (.sc (.bool true))) (.loc 11) }], sets := [(17, 12)], clr := [8, 9] }
def slaws_FnExactStepStart_r15 : Reg :=
  { id := 15, ops := [{ op := .mv (.con (.sc (.bool false))) }], sets := [(2, 0)], clr := [1, 4, 5, 7] }
def slaws_FnExactStepStart_r16 : Reg :=
  { id := 16, ops := [{ op := .mv (.con (.sc (.int .i64 1))) }], sets := [(10, 0)] }
def slaws_FnExactStepStart_r17 : Reg :=
  { id := 17, ops := [{ op := .load (some 15) (.slot 7) },
      { op := .mv (.slot 10) },
      { op := .call 12 [(true, .loc 0), (false, .loc 1)] [] },
      { op := .mv (.loc 2) }], sets := [(10, 3)] }
def slaws_FnExactStepStart_r18 : Reg :=
  { id := 18, ops := [{ op := .mv (.con (.sc (.int .i64 1))) }], sets := [(11, 0)] }
def slaws_FnExactStepStart_r19 : Reg :=
  { id := 19, ops := [{ op := .load (some 15) (.slot 7) },
      { op := .mv (.slot 11) },
      { op := .call 13 [(false, .loc 0), (false, .loc 1)] [] },
      { op := .mv (.loc 2) }], sets := [(11, 3)] }
def slaws_FnExactStepStart_r20 : Reg :=
  { id := 20, ops := [{ op := .mv (.slot 11) },
      { op := .bin .lss (.loc 0) (.con (.sc (.int .i64 0))) }], sets := [(18, 1)] }
def slaws_FnExactStepStart_r21 : Reg :=
  { id := 21, ops := [{ op := .mv (.con (.sc (.bool false))) }], sets := [(2, 0)], clr := [1, 4, 5, 7, 10, 11] }
def slaws_FnExactStepStart_r22 : Reg :=
  { id := 22, ops := [{ op := .mv (.slot 11) },
      { op := .mv (.slot 10) },
      { op := .bin .neq (.loc 0) (.loc 1) }], sets := [(19, 2)], clr := [11] }
def slaws_FnExactStepStart_r23 : Reg :=
  { id := 23, ops := [{ op := .mv (.con (.sc (.bool false))) }], sets := [(2, 0)], clr := [1, 4, 5, 7, 10] }
def slaws_FnExactStepStart_r24 : Reg :=
  { id := 24, ops := [{ op := .load (some 15) (.slot 1) },
      { op := .call 8 [(false, .loc 0)] [34, 35, 36, 37, 38, 39] },
      { op := .call 107 [(false, .loc 1)] [40, 41, 42, 43, 44, 45] },
      { op := .mv (.loc 2) },
      { op := .extract (.loc 3) 0 },
      { op := .extract (.loc 3) 1 },
      { op := .alloc 46 [.nil 1, .nil 1, .sc (.int .i64 0), .nil 4, .sc (.int .i64 0), .nil 1, .sc (.int .i64 0), .sc (.bool false), .sc (.int .i64 0), .sc (.int .i64 0), .nil 5, .nil 8, .sc (.int .i64 0), .sc (.int .i64 0), .sc (.int .i64 0)] },
      { op := .store 15 (.loc 6) (.loc 4) },
      { op := .mv (.loc 5) }], sets := [(12, 6), (13, 8)], clr := [1] }
def slaws_FnExactStepStart_r25 : Reg :=
  { id := 25, ops := [{ op := .load (some 15) (.slot 12) },
      { op := .load (some 15) (.slot 4) },
      { op := .call 11 [(false, .loc 0), (false, .loc 1)] [] },
      { op := .un .not (.loc 2) },
      { op := .mv (.loc 3) },
      { op := .mv (.slot 13), guard := some (4, false) },
      { op := .mv (.slot 5), guard := some (4, false) },
      { op := .beq true (.loc 5) (.loc 6), guard := some (4, false) },
      { op := .pick (.loc 4) (.con (.sc (.bool true))) (.loc 7) }], sets := [(20, 8)], clr := [4, 5, 12, 13] }
def slaws_FnExactStepStart_r26 : Reg :=
  { id := 26, ops := [{ op := .mv (.con (.sc (.bool false))) }], sets := [(2, 0)], clr := [7, 10] }
def slaws_FnExactStepStart_r27 : Reg :=
  { id := 27, ops := [{ op := .mv (.con (.sc (.int .i64 1))) }], sets := [(11, 0)] }
def slaws_FnExactStepStart_r28 : Reg :=
  { id := 28, ops := [{ op := .load (some 15) (.slot 7) },
      { op := .mv (.slot 11) },
      { op := .call 13 [(false, .loc 0), (false, .loc 1)] [] },
      { op := .mv (.loc 2) }], sets := [(11, 3)], clr := [7] }
def slaws_FnExactStepStart_r29 : Reg :=
  { id := 29, ops := [{ op := .mv (.slot 11) },
      { op := .bin .lss (.loc 0) (.con (.sc (.int .i64 0))) }], sets := [(21, 1)] }
def slaws_FnExactStepStart_r30 : Reg :=
  { id := 30, ops := [{ op := .mv (.con (.sc (.bool false))) }], sets := [(2, 0)], clr := [10, 11] }
def slaws_FnExactStepStart_r31 : Reg :=
  { id := 31, ops := [{ op := .mv (.slot 11) },
      { op := .mv (.slot 10) },
      { op := .bin .neq (.loc 0) (.loc 1) }], sets := [(22, 2)], clr := [10, 11] }
def slaws_FnExactStepStart_r32 : Reg :=
  { id := 32, ops := [{ op := .mv (.con (.sc (.bool false))) }], sets := [(2, 0)] }
def slaws_FnExactStepStart_r33 : Reg :=
  { id := 33, ops := [{ op := .mv (.con (.sc (.bool true))) }], sets := [(2, 0)] }
def slaws_FnExactStepStart_b : SC := .seq (.reg slaws_FnExactStepStart_r0) (.seq (.reg slaws_FnExactStepStart_r1) (.seq (.reg slaws_FnExactStepStart_r2) (.seq (.seq (.reg slaws_FnExactStepStart_r3) (.cond 14 (.seq (.reg slaws_FnExactStepStart_r4) (.ret)) (.skip))) (.seq (.reg slaws_FnExactStepStart_r5) (.seq (.reg slaws_FnExactStepStart_r6) (.seq (.reg slaws_FnExactStepStart_r7) (.seq (.seq (.reg slaws_FnExactStepStart_r8) (.cond 15 (.seq (.reg slaws_FnExactStepStart_r9) (.ret)) (.skip))) (.seq (.seq (.reg slaws_FnExactStepStart_r10) (.cond 16 (.seq (.reg slaws_FnExactStepStart_r11) (.ret)) (.skip))) (.seq (.reg slaws_FnExactStepStart_r12) (.seq (.reg slaws_FnExactStepStart_r13) (.seq (.seq (.reg slaws_FnExactStepStart_r14) (.cond 17 (.seq (.reg slaws_FnExactStepStart_r15) (.ret)) (.skip))) (.seq (.reg slaws_FnExactStepStart_r16) (.seq (.reg slaws_FnExactStepStart_r17) (.seq (.reg slaws_FnExactStepStart_r18) (.seq (.reg slaws_FnExactStepStart_r19) (.seq (.seq (.reg slaws_FnExactStepStart_r20) (.cond 18 (.seq (.reg slaws_FnExactStepStart_r21) (.ret)) (.skip))) (.seq (.seq (.reg slaws_FnExactStepStart_r22) (.cond 19 (.seq (.reg slaws_FnExactStepStart_r23) (.ret)) (.skip))) (.seq (.reg slaws_FnExactStepStart_r24) (.seq (.seq (.reg slaws_FnExactStepStart_r25) (.cond 20 (.seq (.reg slaws_FnExactStepStart_r26) (.ret)) (.skip))) (.seq (.reg slaws_FnExactStepStart_r27) (.seq (.reg slaws_FnExactStepStart_r28) (.seq (.seq (.reg slaws_FnExactStepStart_r29) (.cond 21 (.seq (.reg slaws_FnExactStepStart_r30) (.ret)) (.skip))) (.seq (.seq (.reg slaws_FnExactStepStart_r31) (.cond 22 (.seq (.reg slaws_FnExactStepStart_r32) (.ret)) (.skip))) (.seq (.reg slaws_FnExactStepStart_r33) (.ret)))))))))))))))))))))))))
def slaws_FnExactStepStart : SFn := { nslots := 23, nobjs := 47, params := [0], ngiven := 0, bor := false, takes := [], body := slaws_FnExactStepStart_b, results := [.slot 2] }
def slaws_FnExactStepStart_t : List Tmp := [0, 1, 2, 3, 4, 5, 6, 7, 8, 9, 10, 11, 12, 13, 18, 40, 45, 61, 69, 72, 87, 92, 95]
attribute [simp] slaws_FnExactStepStart_r0 slaws_FnExactStepStart_r1 slaws_FnExactStepStart_r2 slaws_FnExactStepStart_r3 slaws_FnExactStepStart_r4 slaws_FnExactStepStart_r5 slaws_FnExactStepStart_r6 slaws_FnExactStepStart_r7 slaws_FnExactStepStart_r8 slaws_FnExactStepStart_r9 slaws_FnExactStepStart_r10 slaws_FnExactStepStart_r11 slaws_FnExactStepStart_r12 slaws_FnExactStepStart_r13 slaws_FnExactStepStart_r14 slaws_FnExactStepStart_r15 slaws_FnExactStepStart_r16 slaws_FnExactStepStart_r17 slaws_FnExactStepStart_r18 slaws_FnExactStepStart_r19 slaws_FnExactStepStart_r20 slaws_FnExactStepStart_r21 slaws_FnExactStepStart_r22 slaws_FnExactStepStart_r23 slaws_FnExactStepStart_r24 slaws_FnExactStepStart_r25 slaws_FnExactStepStart_r26 slaws_FnExactStepStart_r27 slaws_FnExactStepStart_r28 slaws_FnExactStepStart_r29 slaws_FnExactStepStart_r30 slaws_FnExactStepStart_r31 slaws_FnExactStepStart_r32 slaws_FnExactStepStart_r33 slaws_FnExactStepStart_b slaws_FnExactStepStart
def simplV_EnterStage_r0 : Reg :=
  { id := 0, ops := [{ op := .box 0 (.slot 0) },
      { op := .alloc 1 [.nil 1, .nil 1, .sc (.int .i64 0), .nil 4, .sc (.int .i64 0), .nil 1, .sc (.int .i64 0), .sc (.bool false), .sc (.int .i64 0), .sc (.int .i64 0), .nil 5, .nil 8, .sc (.int .i64 0), .sc (.int .i64 0), .sc (.int .i64 0)] }], sets := [(1, 0), (2, 1)], clr := [0] }
def simplV_EnterStage_r1 : Reg :=
  { id := 1, draw := true, ops := [{ op := .load (some 15) (.slot 1), tau := some [0], om := [] },
      { op := .call 38 [(false, .loc 0)] [2, 3, 4, 5, 6, 7], tau := some [2, 3, 4, 5, 6, 7], om := [2, 3, 4, 5, 6, 7] },
      { op := .fieldAddr (.slot 1) 4, tau := some [], om := [] },
      { op := .load (some 4) (.loc 2), tau := some [0], om := [] },
      { op := .alloc 8 [.nil 1, .nil 1, .sc (.int .i64 0), .nil 4, .sc (.int .i64 0), .nil 1, .sc (.int .i64 0), .sc (.bool false), .sc (.int .i64 0), .sc (.int .i64 0), .nil 5, .nil 8, .sc (.int .i64 0), .sc (.int .i64 0), .sc (.int .i64 0)], tau := some [8], om := [8] },
      { op := .alloc 9 [.sc (.int .i64 0), .nil 1, .sc (.int .i64 0), .sc (.bool false)], tau := some [9], om := [9] },
      { op := .store 15 (.loc 4) (.loc 1), tau := some [8, 11], om := [8] },
      { op := .store 4 (.loc 5) (.loc 3), tau := some [9, 11], om := [9] }], sets := [(3, 4), (4, 5)] }
def simplV_EnterStage_r2 : Reg :=
  { id := 2, ops := [{ op := .load (some 4) (.slot 4) },
      { op := .call 176 [(false, .loc 0)] [] },
      { op := .un .not (.loc 1) },
      { op := .mv (.loc 2) },
      { op := .fieldAddr (.slot 4) 3, guard := some (3, false) },
      { op := .load none (.loc 4), guard := some (3, false) },
      { op := .pick (.loc 3) (.con (.sc (.bool true))) (.loc 5) }], sets := [(6, 6)] }
def simplV_EnterStage_r3 : Reg :=
  { id := 3, ops := [{ op := .load (some 15) (.slot 3) },
      { op := .store 15 (.slot 2) (.loc 0) }], clr := [1, 3, 4] }
def simplV_EnterStage_r4 : Reg :=
  { id := 4, ops := [{ op := .fieldAddr (.slot 3) 3 },
      { op := .load none (.loc 0) },
      { op := .len false (.loc 1) },
      { op := .mv (.con (.sc (.int .i64 0))) }], sets := [(7, 2), (8, 3)] }
def simplV_EnterStage_r5 : Reg :=
  { id := 5, ops := [{ op := .bin .lss (.slot 8) (.slot 7) }], sets := [(9, 0)] }
def simplV_EnterStage_r6 : Reg :=
  { id := 6, ops := [{ op := .mv (.slot 8) },
      { op := .mv (.loc 0) }], sets := [(5, 1)] }
def simplV_EnterStage_r7 : Reg :=
  { id := 7, ops := [{ op := .load (some 4) (.slot 4) },
      { op := .mv (.slot 5) },
      { op := .fieldAddr (.slot 3) 3 },
      { op := .load none (.loc 2) },
      { op := .len false (.loc 3) },
      { op := .call 228 [(false, .loc 0), (false, .loc 1), (false, .loc 4)] [] }], sets := [(10, 5)] }
def simplV_EnterStage_r8 : Reg :=
  { id := 8, draw := true, fresh := [10, 11], ops := [{ op := .fieldAddr (.slot 3) 3, tau := some [], om := [] },
      { op := .load none (.loc 0), tau := some [8], om := [] },
      { op := .mv (.slot 5), tau := some [], om := [] },
      { op := .fieldAddr (.slot 3) 3, tau := some [], om := [] },
      { op := .load none (.loc 3), tau := some [8], om := [] },
      { op := .mv (.slot 5), tau := some [], om := [] },
      { op := .indexAddr 4 (.loc 4) (.loc 5), tau := some [4], om := [] },
      { op := .fieldAddr (.loc 6) 0, tau := some [], om := [] },
      { op := .take 11 (.loc 7), tau := some [4, 11], om := [4, 11] },
      { op := .fieldAddr (.slot 4) 0, tau := some [], om := [] },
      { op := .load none (.loc 9), tau := some [9], om := [] },
      { op := .call 230 [(true, .loc 8), (false, .loc 10)] [10], tau := some [10, 11], om := [10, 11] },
      { op := .indexAddr 4 (.loc 1) (.loc 2), tau := some [4], om := [] },
      { op := .fieldAddr (.loc 12) 0, tau := some [], om := [] },
      { op := .store 1 (.loc 13) (.loc 11), tau := some [4, 10, 11], om := [4, 10] }], clr := [5] }
def simplV_EnterStage_r9 : Reg :=
  { id := 9, ops := [{ op := .bin .add (.slot 8) (.con (.sc (.int .i64 1))) },
      { op := .mv (.loc 0) }], sets := [(8, 1)] }
def simplV_EnterStage_r10 : Reg :=
  { id := 10, draw := true, ops := [{ op := .fieldAddr (.slot 1) 14, tau := some [], om := [] },
      { op := .load none (.loc 0), tau := some [0], om := [] },
      { op := .fieldAddr (.slot 4) 2, tau := some [], om := [] },
      { op := .load none (.loc 2), tau := some [9], om := [] },
      { op := .bin .add (.loc 3) (.con (.sc (.int .i64 1))), tau := some [], om := [] },
      { op := .minmax true (.loc 1) [.loc 4], tau := some [], om := [] },
      { op := .fieldAddr (.slot 3) 10, tau := some [], om := [] },
      { op := .store 1 (.loc 6) (.con (.nil 5)), tau := some [8, 11], om := [8] },
      { op := .fieldAddr (.slot 3) 14, tau := some [], om := [] },
      { op := .store 1 (.loc 8) (.loc 5), tau := some [8, 11], om := [8] }], clr := [1, 4, 7, 8] }
def simplV_EnterStage_r11 : Reg :=
  { id := 11, ops := [{ op := .load (some 15) (.slot 3) },
      { op := .store 15 (.slot 2) (.loc 0) }], clr := [3] }
def simplV_EnterStage_b : SC := .seq (.reg simplV_EnterStage_r0) (.seq (.reg simplV_EnterStage_r1) (.seq (.seq (.reg simplV_EnterStage_r2) (.cond 6 (.seq (.reg simplV_EnterStage_r3) (.ret)) (.skip))) (.seq (.seq (.reg simplV_EnterStage_r4) (.block 0 (.loop (.seq (.reg simplV_EnterStage_r5) (.seq (.cond 9 (.skip) (.exit 0)) (.seq (.block 1 (.seq (.reg simplV_EnterStage_r6) (.seq (.reg simplV_EnterStage_r7) (.cond 10 (.reg simplV_EnterStage_r8) (.skip))))) (.reg simplV_EnterStage_r9))))))) (.seq (.reg simplV_EnterStage_r10) (.seq (.reg simplV_EnterStage_r11) (.ret))))))
def simplV_EnterStage : SFn := { nslots := 11, nobjs := 12, params := [0], ngiven := 0, bor := false, takes := [11], body := simplV_EnterStage_b, results := [.cell 2 (some 15)] }
def simplV_EnterStage_t : List Tmp := [0, 1, 2, 3, 4, 5, 16, 20, 21, 22, 29]
attribute [simp] simplV_EnterStage_r0 simplV_EnterStage_r1 simplV_EnterStage_r2 simplV_EnterStage_r3 simplV_EnterStage_r4 simplV_EnterStage_r5 simplV_EnterStage_r6 simplV_EnterStage_r7 simplV_EnterStage_r8 simplV_EnterStage_r9 simplV_EnterStage_r10 simplV_EnterStage_r11 simplV_EnterStage_b simplV_EnterStage
def simplV_withVersion_r0 : Reg :=
  { id := 0, ops := [{ op := .mv (.con (.nil 1)) }], clr := [2] }
def simplV_withVersion_r1 : Reg :=
  { id := 1, ops := [{ op := .mv (.con (.sc (.int .i64 0))) }], sets := [(3, 0)] }
def simplV_withVersion_r2 : Reg :=
  { id := 2, ops := [{ op := .mv (.slot 3) },
      { op := .mv (.slot 0) },
      { op := .len false (.loc 1) },
      { op := .bin .lss (.loc 0) (.loc 2) },
      { op := .mv (.loc 3) },
      { op := .mv (.slot 0), guard := some (4, true) },
      { op := .mv (.slot 3), guard := some (4, true) },
      { op := .indexAddr 1 (.loc 5) (.loc 6), guard := some (4, true) },
      { op := .load none (.loc 7), guard := some (4, true) },
      { op := .mv (.slot 1), guard := some (4, true) },
      { op := .bin .lss (.loc 8) (.loc 9), guard := some (4, true) },
      { op := .pick (.loc 4) (.loc 10) (.con (.sc (.bool false))) }], sets := [(4, 11)] }
def simplV_withVersion_r3 : Reg :=
  { id := 3, ops := [{ op := .mv (.slot 3) },
      { op := .bin .add (.loc 0) (.con (.sc (.int .i64 1))) },
      { op := .mv (.loc 1) }], sets := [(3, 2)] }
def simplV_withVersion_r4 : Reg :=
  { id := 4, ops := [{ op := .mv (.slot 3) },
      { op := .mv (.slot 0) },
      { op := .len false (.loc 1) },
      { op := .bin .lss (.loc 0) (.loc 2) },
      { op := .mv (.loc 3) },
      { op := .mv (.slot 0), guard := some (4, true) },
      { op := .mv (.slot 3), guard := some (4, true) },
      { op := .indexAddr 1 (.loc 5) (.loc 6), guard := some (4, true) },
      { op := .load none (.loc 7), guard := some (4, true) },
      { op := .mv (.slot 1), guard := some (4, true) },
      { op := .bin .eql (.loc 8) (.loc 9), guard := some (4, true) },
      { op := .pick (.loc 4) (.loc 10) (.con (.sc (.bool false))) }], sets := [(5, 11)] }
def simplV_withVersion_r5 : Reg :=
  { id := 5, ops := [{ op := .mv (.slot 0) },
      { op := .mv (.loc 0) }], sets := [(2, 1)], clr := [0, 1, 3] }
def simplV_withVersion_r6 : Reg :=
  { id := 6, ops := [{ op := .mv (.slot 0) },
      { op := .mv (.slot 3) },
      { op := .mv (.slot 1) },
      { op := .buildSlice 1 1 1 [.loc 2] },
      { op := .call 264 [(true, .loc 0), (false, .loc 1), (true, .loc 3)] [2] },
      { op := .mv (.loc 4) }], sets := [(2, 5)], clr := [0, 1, 3] }
def simplV_withVersion_b : SC := .seq (.reg simplV_withVersion_r0) (.seq (.reg simplV_withVersion_r1) (.seq (.block 0 (.loop (.seq (.seq (.reg simplV_withVersion_r2) (.cond 4 (.skip) (.exit 0))) (.block 1 (.reg simplV_withVersion_r3))))) (.seq (.seq (.reg simplV_withVersion_r4) (.cond 5 (.seq (.reg simplV_withVersion_r5) (.ret)) (.skip))) (.seq (.reg simplV_withVersion_r6) (.ret)))))
def simplV_withVersion : SFn := { nslots := 6, nobjs := 3, params := [0, 1], ngiven := 1, bor := false, takes := [], body := simplV_withVersion_b, results := [.slot 2] }
def simplV_withVersion_t : List Tmp := [0, 1, 4, 5, 17, 31]
attribute [simp] simplV_withVersion_r0 simplV_withVersion_r1 simplV_withVersion_r2 simplV_withVersion_r3 simplV_withVersion_r4 simplV_withVersion_r5 simplV_withVersion_r6 simplV_withVersion_b simplV_withVersion
end Go.Eng.T

namespace Go.Eng.T
set_option maxRecDepth 20000
abbrev IndexFuncExtS (D : Dn) (R : Rel) : Prop := ∀ (xs : List Ext) (g : Nat) (caps : List V) (p : Ext → Bool), xs.length ≤ maxLen → CapOk caps → (∀ (j : Nat) (h : j < xs.length), D g (arg (eExt xs[j]) :: caps) [] (B (p xs[j])) []) → R [.sl 1 2 xs.length (xs.flatMap eExt), .fn g caps] [] (I (idxP p xs 0)) []
abbrev ContainsFuncExtS (D : Dn) (R : Rel) : Prop := ∀ (xs : List Ext) (g : Nat) (caps : List V) (p : Ext → Bool), xs.length ≤ maxLen → CapOk caps → (∀ (j : Nat) (h : j < xs.length), D g (arg (eExt xs[j]) :: caps) [] (B (p xs[j])) []) → R [.sl 1 2 xs.length (xs.flatMap eExt), .fn g caps] [] (B (xs.any p)) []
end Go.Eng.T

namespace Go.Eng.T
set_option maxRecDepth 20000

def hasTag (t : Int) (x : Ext) : Bool := decide (x.tag = t)
def extOf (l : List Ext) (t : Int) : Int := idxP (hasTag t) l 0
abbrev ExtOfS (R : Rel) : Prop := ∀ (l : List Ext) (t : Int), l.length ≤ maxLen → R [.sl 1 2 l.length (l.flatMap eExt), I t] [] (I (extOf l t)) []
abbrev ExtOf1S (R : Rel) : Prop := ∀ (x : Ext) (t : Int), R [arg (eExt x), .rptr 1 [I t] 0] [] (B (hasTag t x)) []
def okExt (x : Ext) : Bool := decide (InR x.tag 0 255) && (decide (x.body.length ≤ 4) && allIn x.body 0 255)
def newTag (l : List Ext) (i : Nat) : Bool := match l[i]? with
  | some x => okExt x && !(l.take i).any (hasTag x.tag)
  | none => true
theorem newTag_at {l : List Ext} {i : Nat} (h : i < l.length) : newTag l i = (okExt l[i] && !(l.take i).any (hasTag l[i].tag)) := by
  unfold newTag
  rw [List.getElem?_eq_getElem h]
def areExts (l : List Ext) : Bool := allTo (newTag l) l.length && decide (l.length ≤ 6)
theorem idxP_range {α : Type} {p : α → Bool} : ∀ {xs : List α} {i : Int}, idxP p xs i = -1 ∨ (i ≤ idxP p xs i ∧ idxP p xs i < i + xs.length)
  | [], i => .inl rfl
  | x :: r, i => by
    by_cases hp : p x = true
    · right; simp [idxP, hp]; omega
    · rcases idxP_range (p := p) (xs := r) (i := i + 1) with h | h
      · left; simp [idxP, hp, h]
      · right; simp [idxP, hp] at *; omega
/-- the first place lies before j -/
theorem idxP_lt {α : Type} {p : α → Bool} : ∀ {xs : List α} {i : Int} {j : Nat}, 0 ≤ i → (h : j < xs.length) → p xs[j] = true → (idxP p xs i < i + j ↔ (xs.take j).any p = true)
  | x :: r, i, 0, hi, h, hp => by
    have : p x = true := hp
    simp [idxP, this]
  | x :: r, i, j + 1, hi, h, hp => by
    by_cases hx : p x = true
    · simp [idxP, hx]; omega
    · have := idxP_lt (p := p) (xs := r) (i := i + 1) (j := j) (by omega) (by simpa using h) (by simpa using hp)
      simp only [idxP, hx, List.take_succ_cons, List.any_cons, Bool.false_or]
      rw [← this]
      simp
      omega
theorem extOf_lt {l : List Ext} {j : Nat} (h : j < l.length) : (extOf l l[j].tag < (j : Int)) = ((l.take j).any (hasTag l[j].tag) = true) := by
  have := idxP_lt (p := hasTag l[j].tag) (i := 0) (by omega) h (by simp [hasTag])
  rw [Int.zero_add] at this
  exact propext this
theorem extOf_take {l : List Ext} {j : Nat} {t : Int} : (0 ≤ extOf (l.take j) t) = ((l.take j).any (hasTag t) = true) := idxP_ge (by omega)
theorem areExts_no {l : List Ext} {j : Nat} (h : j < l.length) (hn : newTag l j = false) : areExts l = false := by
  unfold areExts
  rw [allTo_no h hn]; rfl
abbrev AreExtsS (R : Rel) : Prop := ∀ l : List Ext, exB l → R [.sl 1 2 l.length (l.flatMap eExt)] [] (B (areExts l)) []
def tagsOf (l : List Ext) : List Int := l.map (·.tag)
theorem tags_step {l : List Ext} {j : Nat} (h : j < l.length) : tagsOf (l.take (j + 1)) = tagsOf (l.take j) ++ [l[j].tag] := by
  have e : l.take (j + 1) = l.take j ++ [l[j]] := by simp
  unfold tagsOf
  rw [e, List.map_append]; rfl
abbrev TagsOfS (R : Rel) : Prop := ∀ l : List Ext, l.length ≤ 4194304 → R [.sl 1 2 l.length (l.flatMap eExt)] [] (.sl 0 1 (tagsOf l).length (ints (tagsOf l))) []
end Go.Eng.T

namespace Go.Eng.T
set_option maxRecDepth 20000
def kept (p : Int → Bool) (l : List Ext) : List Ext := l.filter fun x => p x.tag
theorem kept_step {p : Int → Bool} {l : List Ext} {j : Nat} (h : j < l.length) : kept p (l.take (j + 1)) = kept p (l.take j) ++ (if p l[j].tag then [l[j]] else []) := filtE_step (p := fun x : Ext => p x.tag) h
theorem kept_all {p : Int → Bool} {l : List Ext} {j : Nat} (h : l.length ≤ j) : kept p (l.take j) = kept p l := filtE_all h
theorem kept_len {p : Int → Bool} {l : List Ext} {j : Nat} : (kept p (l.take j)).length ≤ j := filtE_len
theorem exB_kept {l : List Ext} (h : exB l) (p : Int → Bool) : exB (kept p l) := exB_filter h _
theorem kept_push {p : Int → Bool} {l : List Ext} {j : Nat} (h : j < l.length) (hp : p l[j].tag = true) :
    (kept p (l.take j)).flatMap eExt ++ [.sc (.int .i64 l[j].tag), .sl 0 1 l[j].body.length (ints l[j].body)] = (kept p (l.take (j + 1))).flatMap eExt := by
  rw [kept_step h, if_pos hp, List.flatMap_append]; simp
theorem kept_push_len {p : Int → Bool} {l : List Ext} {j : Nat} (h : j < l.length) (hp : p l[j].tag = true) : (kept p (l.take (j + 1))).length = (kept p (l.take j)).length + 1 := by
  rw [kept_step h, if_pos hp]; simp
theorem kept_skip {p : Int → Bool} {l : List Ext} {j : Nat} (h : j < l.length) (hp : ¬ p l[j].tag = true) : kept p (l.take (j + 1)) = kept p (l.take j) := by
  rw [kept_step h, if_neg hp, List.append_nil]
/-- what is captured holds nothing of the frame -/
def NoObj (caps : List V) : Prop := ∀ k, caps.any (m1 k) = false
theorem noObj_nil : NoObj [] := fun _ => rfl
theorem noObj_rptr {fl : Nat} {cs : List V} {o : Nat} {r : List V} (h : NoObj r) : NoObj (.rptr fl cs o :: r) := fun k => by
  have := h k
  simp only [List.any_cons, this, m1, Bool.or_self]
theorem killV_cap {k g : Nat} {caps : List V} (h : NoObj caps) : killV k (.fn g caps) = .fn g caps := by
  have := h k
  simp only [killV, m3, m2, this]
  rfl
theorem renV_cap {a b g : Nat} {caps : List V} (h : NoObj caps) : renV a b (.fn g caps) = .fn g caps := by
  have := h a
  simp only [renV, m3, m2, this]
  rfl
abbrev keptExtsS (D : Dn) (R : Rel) : Prop := ∀ (l : List Ext) (g : Nat) (caps : List V) (p : Int → Bool), exB l → CapOk caps → NoObj caps → (∀ t : Int, D g (I t :: caps) [] (B (p t)) []) →
  R [.sl 1 2 l.length (l.flatMap eExt), .fn g caps] [] (.sl 0 2 (kept p l).length ((kept p l).flatMap eExt)) []
abbrev KeepAllS (R : Rel) : Prop := ∀ t : Int, R [I t] [] (B true) []
abbrev KeepUnresS (R : Rel) : Prop := ∀ t : Int, R [I t] [] (B (!isReserved t)) []
theorem kept_true (l : List Ext) : kept (fun _ => true) l = l := by simp [kept]
abbrev cpExtsS (R : Rel) : Prop := ∀ l : List Ext, exB l → R [.sl 1 2 l.length (l.flatMap eExt)] [] (.sl 0 2 l.length (l.flatMap eExt)) []
def stripG (l : List Ext) : List Ext := kept (fun t => !isReserved t) l
def knownOf (l : List Ext) (tags : List Int) : List Ext := kept (fun t => decide (t ∈ tags)) l
abbrev StripGreaseS (R : Rel) : Prop := ∀ l : List Ext, exB l → R [.sl 1 2 l.length (l.flatMap eExt)] [] (.sl 0 2 (stripG l).length ((stripG l).flatMap eExt)) []
abbrev KnownOfS (R : Rel) : Prop := ∀ (l : List Ext) (tags : List Int), exB l → tags.length ≤ maxLen → R [.sl 1 2 l.length (l.flatMap eExt), .sl 1 1 tags.length (ints tags)] [] (.sl 0 2 (knownOf l tags).length ((knownOf l tags).flatMap eExt)) []
abbrev KnownOf1S (R : Rel) : Prop := ∀ (t : Int) (tags : List Int), tags.length ≤ maxLen → R [I t, .rptr 1 [.sl 0 1 tags.length (ints tags)] 0] [] (B (decide (t ∈ tags))) []
theorem capOk_ints {a : List Int} {r : List V} (h : CapOk r) : CapOk (.rptr 1 [.sl 0 1 a.length (ints a)] 0 :: r) := capOk_cons (fun H => by simp) (fun H => by simp) h
theorem known_self (l : List Ext) : knownOf l (tagsOf l) = l := by
  unfold knownOf kept
  rw [List.filter_eq_self]
  intro x hx
  simp only [decide_eq_true_eq]
  exact List.mem_map.2 ⟨x, hx, rfl⟩
theorem tags_len (l : List Ext) : (tagsOf l).length = l.length := by simp [tagsOf]
end Go.Eng.T

namespace Go.Eng.T
set_option maxRecDepth 20000
abbrev InV (a b c : Int) : Prop := b ≤ a ∧ a ≤ c
/-- numbers that rise, each from 1 to 9 -/
def risesV (xs : List Int) (j : Nat) : Bool := (List.range j).all fun i => decide (InV (xs.getD i 0) 1 9) && (decide (i = 0) || decide (xs.getD (i - 1) 0 < xs.getD i 0))
theorem risesV_step (xs : List Int) (j : Nat) : risesV xs (j + 1) = (risesV xs j && (decide (InV (xs.getD j 0) 1 9) && (decide (j = 0) || decide (xs.getD (j - 1) 0 < xs.getD j 0)))) := by
  unfold risesV
  rw [List.range_succ, List.all_append]
  simp
theorem risesV_no {xs : List Int} {j : Nat} (h : j < xs.length) (hn : risesV xs (j + 1) = false) : risesV xs xs.length = false := by
  have : ∀ n, risesV xs (j + 1 + n) = false := by
    intro n
    induction n with
    | zero => exact hn
    | succ n ih => rw [show j + 1 + (n + 1) = (j + 1 + n) + 1 by omega, risesV_step, ih]; rfl
  have := this (xs.length - (j + 1))
  rwa [show j + 1 + (xs.length - (j + 1)) = xs.length by omega] at this
theorem getDV {xs : List Int} {j : Nat} (h : j < xs.length) : xs.getD j 0 = xs[j] := by simp [h]
def areVers (xs : List Int) : Bool := risesV xs xs.length && decide (0 < xs.length)
abbrev AreVersionsS (R : Rel) : Prop := ∀ xs : List Int, xs.length ≤ maxLen → R [.sl 1 1 xs.length (ints xs)] [] (B (areVers xs)) []
theorem filt_step {p : Int → Bool} {xs : List Int} {j : Nat} (h : j < xs.length) : (xs.take (j + 1)).filter p = (xs.take j).filter p ++ (if p xs[j] then [xs[j]] else []) := by
  have e : xs.take (j + 1) = xs.take j ++ [xs[j]] := by simp
  rw [e, List.filter_append]
  by_cases hp : p xs[j] = true <;> simp [hp]
theorem filt_all {p : Int → Bool} {xs : List Int} {j : Nat} (h : xs.length ≤ j) : (xs.take j).filter p = xs.filter p := by rw [List.take_of_length_le h]
theorem filt_len {p : Int → Bool} {xs : List Int} {j : Nat} : ((xs.take j).filter p).length ≤ j := by
  have := List.length_filter_le p (xs.take j)
  have h2 : (xs.take j).length ≤ j := by simp; omega
  omega
def common (a b : List Int) : List Int := a.filter fun v => decide (v ∈ b)
def withoutV (a : List Int) (v : Int) : List Int := a.filter fun x => !decide (x = v)
abbrev CommonOfS (R : Rel) : Prop := ∀ a b : List Int, a.length ≤ 4194304 → b.length ≤ maxLen → R [.sl 1 1 a.length (ints a), .sl 1 1 b.length (ints b)] [] (.sl 0 1 (common a b).length (ints (common a b))) []
abbrev l12WithoutS (R : Rel) : Prop := ∀ (a : List Int) (v : Int), a.length ≤ 4194304 → R [.sl 1 1 a.length (ints a), I v] [] (.sl 0 1 (withoutV a v).length (ints (withoutV a v))) []
abbrev withoutS (R : Rel) : Prop := ∀ (a : List Int) (v : Int), a.length ≤ 4194304 → R [.sl 1 1 a.length (ints a), .sl 1 1 1 (ints [v])] [] (.sl 0 1 (withoutV a v).length (ints (withoutV a v))) []
end Go.Eng.T

namespace Go.Eng.T
set_option maxRecDepth 20000
def hB (h : Hello) : Prop := h.versions.length ≤ 4194304 ∧ exB h.exts
def isHello (h : Hello) : Bool := areVers h.versions && areExts h.exts
abbrev IsHelloS (R : Rel) : Prop := ∀ h : Hello, hB h → R [arg (eHello h)] [] (B (isHello h)) []
abbrev cpHelloS (R : Rel) : Prop := ∀ h : Hello, hB h → R [arg (eHello h)] [] (.agg (eHello h)) []
def lossy (b : Box) (x : Ext) : Bool := decide (x.tag ∈ b.drops) || (b.lists && (!decide (x.tag ∈ b.strips) && !decide (InR x.tag 1 3)))
def topV (vs : List Int) : Int := vs.getLastD 0
def losesB (b : Box) (h : Hello) : Bool := (decide (0 < b.limit) && decide (b.limit < topV h.versions)) || h.exts.any (lossy b)
def stays (b : Box) (t : Int) : Bool := !decide (t ∈ b.strips)
def noHello : Hello := ⟨[], []⟩
def passBox (b : Box) (h : Hello) : Hello × Bool := if isBox b && (isHello h && !losesB b h) then (⟨h.versions, kept (stays b) h.exts⟩, true) else (noHello, false)
abbrev PassBoxS (R : Rel) : Prop := ∀ (b : Box) (h : Hello), lnBox b → hB h → R [arg (eBox b), arg (eHello h)] [] (.tup [.agg (eHello (passBox b h).1), B (passBox b h).2]) []
theorem vers_pos {xs : List Int} (h : areVers xs = true) : 0 < xs.length := by
  unfold areVers at h
  simp only [Bool.and_eq_true, decide_eq_true_eq] at h
  exact h.2
theorem topV_at {xs : List Int} (h : xs.length - 1 < xs.length) : topV xs = xs[xs.length - 1] := by
  unfold topV
  rw [List.getLastD_eq_getLast?, List.getLast?_eq_getElem?, List.getElem?_eq_getElem h]; rfl
abbrev PassBox1S (R : Rel) : Prop := ∀ (t : Int) (b : Box), lnBox b → R [I t, .rptr 1 (eBox b) 0] [] (B (stays b t)) []
abbrev loses1S (R : Rel) : Prop := ∀ (x : Ext) (b : Box), lnBox b → R [arg (eExt x), .rptr 1 (eBox b) 0] [] (B (lossy b x)) []
def maxL (xs : List Int) : Int := xs.foldl max (xs.headD 0)
abbrev MaxS (R : Rel) : Prop := ∀ xs : List Int, 0 < xs.length → xs.length ≤ 4194304 → R [.sl 1 1 xs.length (ints xs)] [] (I (maxL xs)) []
abbrev CloneS (R : Rel) : Prop := ∀ xs : List Int, xs.length ≤ 4194304 → R [.sl 1 1 xs.length (ints xs)] [] (.sl 0 1 xs.length (ints xs)) []
abbrev losesS (R : Rel) : Prop := ∀ (b : Box) (h : Hello), lnBox b → hB h → isBox b = true → areVers h.versions = true → R [arg (eBox b), arg (eHello h)] [] (B (losesB b h)) []
theorem foldmax_last : ∀ (xs : List Int) (a : Int), (∀ x, x ∈ xs → a ≤ x) → (∀ i, (h : i + 1 < xs.length) → xs[i] ≤ xs[i + 1]) → xs.foldl max a = (xs.getLast?.getD a)
  | [], a, _, _ => rfl
  | x :: r, a, h1, h2 => by
    have hx := h1 x (by simp)
    have hr : ∀ y, y ∈ r → x ≤ y := by
      intro y hy
      obtain ⟨n, hn, rfl⟩ := List.getElem_of_mem hy
      have key : ∀ m, (hm : m < r.length) → x ≤ r[m] := by
        intro m
        induction m with
        | zero => intro hm; have := h2 0 (by simp; omega); simpa using this
        | succ m ih =>
          intro hm
          have h3 := ih (by omega)
          have := h2 (m + 1) (by simp; omega)
          simp only [List.getElem_cons_succ] at this
          omega
      exact key n hn
    have ih := foldmax_last r x hr (fun i h => by have := h2 (i + 1) (by simp; omega); simpa using this)
    simp only [List.foldl_cons]
    rw [show max a x = x by omega, ih]
    cases r with
    | nil => rfl
    | cons y s => simp [List.getLast?_cons_cons, List.getLast?_cons]
theorem vers_up {xs : List Int} (h : areVers xs = true) {i : Nat} (hi : i + 1 < xs.length) : xs[i] < xs[i + 1] := by
  unfold areVers risesV at h
  simp only [Bool.and_eq_true, List.all_eq_true, List.mem_range] at h
  have := (h.1 (i + 1) hi).2
  rw [getDV hi, show i + 1 - 1 = i by omega, getDV (by omega)] at this
  simpa using this
theorem vers_at {xs : List Int} (h : areVers xs = true) {i : Nat} (hi : i < xs.length) : InV xs[i] 1 9 := by
  unfold areVers risesV at h
  simp only [Bool.and_eq_true, List.all_eq_true, List.mem_range] at h
  have := (h.1 i hi).1
  rw [getDV hi] at this
  simpa using this
theorem maxL_vers {xs : List Int} (h : areVers xs = true) : maxL xs = topV xs := by
  cases xs with
  | nil => rfl
  | cons x r =>
    unfold maxL topV
    simp only [List.headD_cons, List.foldl_cons]
    rw [show max x x = x by omega, foldmax_last r x ?_ ?_]
    · cases r with
      | nil => rfl
      | cons y s => simp [List.getLastD_eq_getLast?, List.getLast?_cons_cons, List.getLast?_cons]
    · intro y hy
      obtain ⟨n, hn, rfl⟩ := List.getElem_of_mem hy
      induction n with
      | zero => have := vers_up h (i := 0) (by simp; omega); simp at this; omega
      | succ m ih =>
        have h3 := ih (by omega) (List.getElem_mem _)
        have := vers_up h (i := m + 1) (by simp; omega)
        simp only [List.getElem_cons_succ] at this
        omega
    · intro i hi
      have := vers_up h (i := i + 1) (by simp; omega)
      simp only [List.getElem_cons_succ] at this
      omega
theorem capOk_box {b : Box} {r : List V} (h : CapOk r) : CapOk (.rptr 1 (eBox b) 0 :: r) := capOk_cons (fun H => by simp) (fun H => by simp) h
end Go.Eng.T

namespace Go.Eng.T
set_option maxRecDepth 20000
def passGo : List Box → Hello → Hello × Bool
  | [], h => (h, true)
  | b :: r, h => if (passBox b h).2 = true then passGo r (passBox b h).1 else (noHello, false)
theorem passGo_drop {path : List Box} {j : Nat} {x : Hello} (h : j < path.length) : passGo (path.drop j) x = if (passBox path[j] x).2 = true then passGo (path.drop (j + 1)) (passBox path[j] x).1 else (noHello, false) := by
  rw [List.drop_eq_getElem_cons h]; rfl
theorem passGo_end {path : List Box} {j : Nat} {x : Hello} (h : path.length ≤ j) : passGo (path.drop j) x = (x, true) := by rw [List.drop_eq_nil_of_le h]; rfl
def passPath (path : List Box) (h : Hello) : Hello × Bool := if decide (path.length ≤ 4) && isHello h then passGo path h else (noHello, false)
theorem hB_no : hB noHello := ⟨by simp [noHello], exB_nil⟩
theorem hB_pass {b : Box} {h : Hello} (hh : hB h) : hB (passBox b h).1 := by
  unfold passBox
  split
  · exact ⟨hh.1, exB_kept hh.2 _⟩
  · exact hB_no
theorem passBox_no {b : Box} {h : Hello} (hk : (passBox b h).2 = false) : (passBox b h).1 = noHello := by
  unfold passBox at *
  split at hk
  · cases hk
  · rename_i hc; rw [if_neg hc]
abbrev PassPathS (R : Rel) : Prop := ∀ (path : List Box) (h : Hello), lnS lnBox path → hB h → R [.sl 1 4 path.length (path.flatMap eBox), arg (eHello h)] [] (.tup [.agg (eHello (passPath path h).1), B (passPath path h).2]) []
def isClear (b : Box) : Bool := decide (b.limit = 0) && (decide (b.drops.length = 0) && (decide (b.strips.length = 0) && !b.lists))
abbrev IsClearS (R : Rel) : Prop := ∀ b : Box, lnBox b → R [arg (eBox b)] [] (B (isClear b)) []
theorem clear_box {b : Box} (h : isClear b = true) : isBox b = true := by
  unfold isClear at h
  simp only [Bool.and_eq_true, decide_eq_true_eq] at h
  obtain ⟨h1, h2, h3, _⟩ := h
  have h2' := List.eq_nil_of_length_eq_zero h2
  have h3' := List.eq_nil_of_length_eq_zero h3
  simp [isBox, h1, h2', h3', allIn]
def isClearPath (path : List Box) : Bool := decide (path.length ≤ 4) && path.all isClear
abbrev IsClearPathS (R : Rel) : Prop := ∀ path : List Box, lnS lnBox path → R [.sl 1 4 path.length (path.flatMap eBox)] [] (B (isClearPath path)) []
theorem all_here {α : Type} {p : α → Bool} {xs : List α} {j : Nat} (h : j < xs.length) (hp : p xs[j] = false) : xs.all p = false := List.all_eq_false.2 ⟨_, List.getElem_mem h, by simp [hp]⟩
theorem all_step {α : Type} {p : α → Bool} {xs : List α} {j : Nat} (h : j < xs.length) : (xs.take (j + 1)).all p = ((xs.take j).all p && p xs[j]) := by
  have e : xs.take (j + 1) = xs.take j ++ [xs[j]] := by simp
  rw [e, List.all_append]; simp
theorem all_all {α : Type} {p : α → Bool} {xs : List α} {j : Nat} (h : xs.length ≤ j) : (xs.take j).all p = xs.all p := by rw [List.take_of_length_le h]
abbrev IsClearPath1S (R : Rel) : Prop := ∀ b : Box, lnBox b → R [arg (eBox b)] [] (B (!isClear b)) []
abbrev PlainHelloS (R : Rel) : Prop := ∀ xs : List Int, xs.length ≤ 4194304 → R [.sl 1 1 xs.length (ints xs)] [] (.agg (eHello ⟨xs, []⟩)) []
def isOpen (path : List Box) (vs : List Int) : Bool := areVers vs && (passPath path ⟨vs.take 1, []⟩).2
abbrev IsOpenPathS (R : Rel) : Prop := ∀ (path : List Box) (vs : List Int), lnS lnBox path → vs.length ≤ 4194304 → R [.sl 1 4 path.length (path.flatMap eBox), .sl 1 1 vs.length (ints vs)] [] (B (isOpen path vs)) []
def lostV (path : List Box) (v : Int) : Bool := !(passPath path ⟨[v], []⟩).2
def lostVersions (path : List Box) (vs : List Int) : List Int := if areVers vs = true then vs.filter (lostV path) else []
abbrev LostVersionsS (R : Rel) : Prop := ∀ (path : List Box) (vs : List Int), lnS lnBox path → vs.length ≤ 4194304 → R [.sl 1 4 path.length (path.flatMap eBox), .sl 1 1 vs.length (ints vs)] [] (.sl 0 1 (lostVersions path vs).length (ints (lostVersions path vs))) []
theorem isOpen_one (path : List Box) (v : Int) : isOpen path [v] = !lostV path v := by
  unfold isOpen lostV
  by_cases h : areVers [v] = true
  · simp [h]
  · have : passPath path ⟨[v], []⟩ = (noHello, false) := by
      unfold passPath isHello
      have h' : areVers [v] = false := by simpa using h
      simp [h']
    simp [h, this]
end Go.Eng.T

namespace Go.Eng.T
set_option maxRecDepth 20000
set_option maxHeartbeats 1000000

def maxF (l : List Int) : Int := l.foldl (fun a v => if v > a then v else a) 0
theorem maxF_lt {x : Int} : ∀ (l : List Int) (a : Int), (∀ y, y ∈ l → y < x) → a < x → l.foldl (fun a v => if v > a then v else a) a < x
  | [], a, _, h => h
  | y :: l, a, hl, h => by
    simp only [List.foldl_cons]
    refine maxF_lt l _ (fun z hz => hl z (by simp [hz])) ?_
    split
    · exact hl y (by simp)
    · exact h
theorem rises_lt {xs : List Int} : ∀ (n : Nat), risesV xs n = true → ∀ i j, i < j → j < n → xs.getD i 0 < xs.getD j 0
  | 0, _, i, j, _, h => by omega
  | n + 1, hr, i, j, hij, hj => by
    rw [risesV_step] at hr
    simp only [Bool.and_eq_true, Bool.or_eq_true, decide_eq_true_eq] at hr
    obtain ⟨h1, _, h3⟩ := hr
    by_cases hjn : j < n
    · exact rises_lt n h1 i j hij hjn
    · obtain rfl : j = n := by omega
      have h4 : xs.getD (j - 1) 0 < xs.getD j 0 := by
        rcases h3 with h3 | h3
        · omega
        · exact h3
      by_cases he : i = j - 1
      · rw [he]; exact h4
      · have := rises_lt j h1 i (j - 1) (by omega) (by omega)
        omega
theorem rises_in {xs : List Int} {n i : Nat} (h : risesV xs n = true) (hi : i < n) : InV (xs.getD i 0) 1 9 := by
  unfold risesV at h
  have := List.all_eq_true.1 h i (List.mem_range.2 hi)
  simp at this
  exact ⟨this.1.1, this.1.2⟩
theorem vers_pair {xs : List Int} (h : areVers xs = true) : xs.Pairwise (· < ·) := by
  unfold areVers at h
  simp only [Bool.and_eq_true, decide_eq_true_eq] at h
  rw [List.pairwise_iff_getElem]
  intro i j hi hj hij
  have := rises_lt _ h.1 i j hij hj
  rwa [getDV hi, getDV hj] at this
theorem vers_in {xs : List Int} (h : areVers xs = true) : ∀ x, x ∈ xs → InV x 1 9 := by
  unfold areVers at h
  simp only [Bool.and_eq_true, decide_eq_true_eq] at h
  intro x hx
  obtain ⟨i, hi, rfl⟩ := List.getElem_of_mem hx
  have := rises_in h.1 hi
  rwa [getDV hi] at this
theorem maxF_last {l : List Int} (hp : l.Pairwise (· < ·)) (h0 : ∀ x, x ∈ l → 0 < x) (hn : 0 < l.length) : maxF l = l[l.length - 1] := by
  obtain ⟨l', x, rfl⟩ : ∃ l' x, l = l' ++ [x] := by
    rcases List.eq_nil_or_concat l with h | ⟨l', x, h⟩
    · rw [h] at hn; simp at hn
    · exact ⟨l', x, by simpa using h⟩
  rw [List.pairwise_append] at hp
  have h1 : maxF l' < x := maxF_lt l' 0 (fun y hy => hp.2.2 y hy x (by simp)) (h0 x (by simp))
  have h2 : maxF (l' ++ [x]) = if x > maxF l' then x else maxF l' := by unfold maxF; rw [List.foldl_append]; rfl
  rw [h2, if_pos h1]
  simp
def bestCommon (a b : List Int) : Int := if areVers a = true ∧ areVers b = true then maxF (common a b) else 0
abbrev BestCommonS (R : Rel) : Prop := ∀ a b : List Int, a.length ≤ 4194304 → b.length ≤ 4194304 → R [.sl 1 1 a.length (ints a), .sl 1 1 b.length (ints b)] [] (I (bestCommon a b)) []
theorem ml {n : Nat} (h : n ≤ 4194304) : n ≤ maxLen := by unfold maxLen; omega
end Go.Eng.T

namespace Go.Eng.T
set_option maxRecDepth 20000

/-- the places, from i on, at which p holds -/
def idxL {α : Type} (p : α → Bool) : List α → Nat → List Int
  | [], _ => []
  | x :: r, i => if p x then (i : Int) :: idxL p r (i + 1) else idxL p r (i + 1)
theorem idxL_append {α : Type} {p : α → Bool} (b : List α) : ∀ (a : List α) (i : Nat), idxL p (a ++ b) i = idxL p a i ++ idxL p b (i + a.length)
  | [], i => by simp [idxL]
  | x :: r, i => by
    have := idxL_append (p := p) b r (i + 1)
    simp only [List.cons_append, idxL, this, List.length_cons]
    rw [show i + 1 + r.length = i + (r.length + 1) by omega]
    by_cases h : p x = true <;> simp [h]
theorem idxL_step {α : Type} {p : α → Bool} {xs : List α} {j : Nat} (h : j < xs.length) : idxL p (xs.take (j + 1)) 0 = idxL p (xs.take j) 0 ++ (if p xs[j] then [(j : Int)] else []) := by
  have e : xs.take (j + 1) = xs.take j ++ [xs[j]] := by simp
  rw [e, idxL_append]
  have hl : (xs.take j).length = j := by simp; omega
  by_cases hp : p xs[j] = true <;> simp [idxL, hp, hl]
theorem idxL_all {α : Type} {p : α → Bool} {xs : List α} {j : Nat} (h : xs.length ≤ j) : idxL p (xs.take j) 0 = idxL p xs 0 := by rw [List.take_of_length_le h]
theorem idxL_len {α : Type} {p : α → Bool} : ∀ (xs : List α) (i : Nat), (idxL p xs i).length ≤ xs.length
  | [], _ => by simp [idxL]
  | x :: r, i => by
    have := idxL_len (p := p) r (i + 1)
    by_cases h : p x = true
    · simp [idxL, h]; omega
    · simp [idxL, h]; omega

def hasE (v : Int) (e : Endpoint) : Bool := decide (v ∈ e.versions)
theorem world_vers {w : World} (h : szWorld w ≤ 4194304) {j : Nat} (hj : j < w.ends.length) : w.ends[j].versions.length ≤ maxLen := by
  have := size_at (f := szEndpoint) hj
  have e : szEndpoint w.ends[j] = w.ends[j].versions.length + w.ends[j].tags.length + sumF szBox w.ends[j].path := rfl
  unfold szWorld at h
  unfold maxLen; omega
abbrev HasVersionS (R : Rel) : Prop := ∀ (w : World) (v : Int), szWorld w ≤ 4194304 → R [arg (eWorld w), I v] [] (.sl 0 1 (idxL (hasE v) w.ends 0).length (ints (idxL (hasE v) w.ends 0))) []
end Go.Eng.T

namespace Go.Eng.T
set_option maxRecDepth 20000
set_option maxHeartbeats 1000000

def rowsV (xs : List (List Int)) : List V := xs.map fun l => .sl 0 1 l.length (ints l)
@[simp high] theorem rowsV_len (xs : List (List Int)) : (rowsV xs).length = xs.length := by simp [rowsV]
@[simp] theorem rowsV_nil : rowsV [] = [] := rfl
@[simp] theorem rowsV_ro (xs : List (List Int)) : (rowsV xs).map (roCell 0) = rowsV xs := by simp [rowsV, Function.comp_def, roCell]
@[simp high] theorem rowsV_at {xs : List (List Int)} {j : Nat} (h : j < xs.length) : (rowsV xs)[j]? = some (V.sl 0 1 xs[j].length (ints xs[j])) := by simp [rowsV, h]
theorem rowsV_push (xs : List (List Int)) (l : List Int) {n : Nat} (h : n = l.length) : rowsV xs ++ [.sl 0 1 n (ints l)] = rowsV (xs ++ [l]) := by subst h; simp [rowsV]
def szRows (xs : List (List Int)) : Nat := sumF List.length xs
theorem rows_at {xs : List (List Int)} {j : Nat} (h : j < xs.length) : xs[j].length ≤ szRows xs := size_at (f := List.length) h
theorem rows_len {xs : List (List Int)} : xs.length ≤ szRows xs := size_len

def listsOf (w : World) : List (List Int) := w.ends.map (·.versions)
abbrev ListsOfS (R : Rel) : Prop := ∀ w : World, szWorld w ≤ 4194304 → R [arg (eWorld w)] [] (.sl 0 1 (listsOf w).length (rowsV (listsOf w))) []
theorem lists_step {xs : List Endpoint} {j : Nat} (h : j < xs.length) : rowsV ((xs.map (·.versions)).take j) ++ [.sl 0 1 xs[j].versions.length (ints xs[j].versions)] = rowsV ((xs.map (·.versions)).take (j + 1)) := by
  have h' : j < (xs.map (·.versions)).length := by simpa using h
  have e : (xs.map (·.versions)).take (j + 1) = (xs.map (·.versions)).take j ++ [xs[j].versions] := by
    have := List.take_append_getElem h'
    rw [← this]; simp
  rw [e, rowsV_push _ _ rfl]
abbrev rowsA (ls : List (List Int)) : V := .sl 1 1 ls.length (rowsV ls)
def useB (s : List Int) (v : Int) (l : List Int) : Bool := decide (bestCommon s l = v)
def useOf (s : List Int) (ls : List (List Int)) (v : Int) : Nat := if 1 ≤ v then cntF (useB s v) ls else 0
abbrev UseOfS (R : Rel) : Prop := ∀ (s : List Int) (ls : List (List Int)) (v : Int), s.length ≤ 4194304 → szRows ls ≤ 4194304 → R [.sl 1 1 s.length (ints s), rowsA ls, I v] [] (I (useOf s ls v)) []
def strB (s : List Int) (v : Int) (l : List Int) : Bool := decide (0 < bestCommon s l) && decide (bestCommon (withoutV s v) l = 0)
def stranded (s : List Int) (ls : List (List Int)) (v : Int) : List Int := idxL (strB s v) ls 0
abbrev StrandedS (R : Rel) : Prop := ∀ (s : List Int) (ls : List (List Int)) (v : Int), s.length ≤ 4194304 → szRows ls ≤ 4194304 → R [.sl 1 1 s.length (ints s), rowsA ls, I v] [] (.sl 0 1 (stranded s ls v).length (ints (stranded s ls v))) []
theorem useOf_le (s : List Int) (ls : List (List Int)) (v : Int) : useOf s ls v ≤ ls.length := by
  unfold useOf
  split
  · have := cnt_le (f := useB s v) (xs := ls) (j := ls.length) (by omega)
    rwa [List.take_length] at this
  · omega
def mayRetire (s : List Int) (ls : List (List Int)) (v pm : Int) : Bool := areVers s && (decide (v ∈ s) && (!decide (s.length = 1) && (decide (InV pm 0 1000) && (decide (stranded s ls v = []) && decide (1000 * (useOf s ls v : Int) ≤ pm * (ls.length : Int))))))
abbrev MayRetireS (R : Rel) : Prop := ∀ (s : List Int) (ls : List (List Int)) (v pm : Int), s.length ≤ 4194304 → szRows ls ≤ 4194304 → R [.sl 1 1 s.length (ints s), rowsA ls, I v, I pm] [] (B (mayRetire s ls v pm)) []
def retire (s : List Int) (ls : List (List Int)) (v pm : Int) : List Int × Bool := if mayRetire s ls v pm = true then (withoutV s v, true) else (s, false)
abbrev RetireVersionS (R : Rel) : Prop := ∀ (s : List Int) (ls : List (List Int)) (v pm : Int), s.length ≤ 4194304 → szRows ls ≤ 4194304 → R [.sl 1 1 s.length (ints s), rowsA ls, I v, I pm] [] (.tup [.sl 0 1 (retire s ls v pm).1.length (ints (retire s ls v pm).1), B (retire s ls v pm).2]) []
theorem world_serv' {w : World} (h : szWorld w ≤ 4194304) : w.server.length ≤ 4194304 := by unfold szWorld at h; omega
theorem listsF (xs : List Endpoint) : szRows (xs.map (·.versions)) ≤ sumF szEndpoint xs := by
  induction xs with
  | nil => simp [szRows, sumF]
  | cons x r ih =>
    simp only [szRows, sumF, List.map_cons, List.sum_cons, List.length_cons, szEndpoint, List.length_map] at *
    omega
theorem lists_sz {w : World} (h : szWorld w ≤ 4194304) : szRows (listsOf w) ≤ 4194304 := by
  have := listsF w.ends
  unfold szWorld at h
  unfold listsOf
  omega
def stepRetire (w : World) (v pm : Int) : World × Bool := if (retire w.server (listsOf w) v pm).2 = true ∧ ¬ v = w.rollout.version then ({ w with server := (retire w.server (listsOf w) v pm).1 }, true) else (w, false)
abbrev StepRetireS (R : Rel) : Prop := ∀ (w : World) (v pm : Int), szWorld w ≤ 4194304 → R [arg (eWorld w), I v, I pm] [] (.tup [.agg (eWorld (stepRetire w v pm).1), B (stepRetire w v pm).2]) []
end Go.Eng.T

namespace Go.Eng.T
set_option maxRecDepth 20000
set_option maxHeartbeats 1000000
def leftOf (a b : List Int) : List Int := a.filter fun v => !decide (v ∈ b)
abbrev LeftS (R : Rel) : Prop := ∀ a b : List Int, a.length ≤ 4194304 → b.length ≤ 4194304 → R [.sl 1 1 a.length (ints a), .sl 1 1 b.length (ints b)] [] (.sl 0 1 (leftOf a b).length (ints (leftOf a b))) []
/-- numbers that rise -/
def upTo (xs : List Int) (i : Nat) : Bool := decide (i = 0) || decide (xs.getD (i - 1) 0 < xs.getD i 0)
def areTags (xs : List Int) : Bool := allTo (upTo xs) xs.length && allIn xs 0 255
abbrev AreTagsS (R : Rel) : Prop := ∀ xs : List Int, xs.length ≤ maxLen → R [.sl 1 1 xs.length (ints xs)] [] (B (areTags xs)) []
theorem areTags_no1 {xs : List Int} {j : Nat} (h : j < xs.length) (hn : ¬ InR xs[j] 0 255) : areTags xs = false := by unfold areTags; rw [allIn_no h hn]; simp
theorem areTags_no2 {xs : List Int} {j : Nat} (h : j < xs.length) (hn : upTo xs j = false) : areTags xs = false := by unfold areTags; rw [allTo_no h hn]; simp
theorem upTo_zero (xs : List Int) : upTo xs 0 = true := by simp [upTo]
theorem upTo_at {xs : List Int} {j : Nat} (h0 : ¬ j = 0) (h : j < xs.length) (h' : j - 1 < xs.length) : upTo xs j = decide (xs[j - 1] < xs[j]) := by
  unfold upTo
  rw [getDV h, getDV h']
  simp [h0]
def isEndpoint (e : Endpoint) : Bool := areVers e.versions && (decide (e.tags.length ≤ 5) && (areTags e.tags && (!e.tags.any isReserved && (decide (e.path.length ≤ 4) && (e.path.all isBox && decide (InR e.cls 0 5))))))
abbrev IsEndpointS (R : Rel) : Prop := ∀ e : Endpoint, lnEndpoint e → R [arg (eEndpoint e)] [] (B (isEndpoint e)) []
abbrev IsEndpoint1S (R : Rel) : Prop := ∀ b : Box, lnBox b → R [arg (eBox b)] [] (B (!isBox b)) []
theorem any_not {α : Type} (p : α → Bool) (xs : List α) : (xs.any fun x => !p x) = !xs.all p := by rw [List.all_eq_not_any_not]; simp
theorem ln_box {b : Box} (h : szBox b ≤ 4194304) : lnBox b := by
  unfold szBox at h
  exact ⟨by unfold lnInts maxLen; omega, by unfold lnInts maxLen; omega⟩
theorem ln_path {p : List Box} (h : sumF szBox p ≤ 4194304) : lnS lnBox p :=
  ⟨by have := size_len (f := szBox) (xs := p); unfold maxLen; omega, fun j hj => ln_box (by have := size_at (f := szBox) hj; omega)⟩
theorem ln_end {e : Endpoint} (h : szEndpoint e ≤ 4194304) : lnEndpoint e := by
  unfold szEndpoint at h
  exact ⟨by unfold lnInts maxLen; omega, by unfold lnInts maxLen; omega, ln_path (by omega)⟩
theorem world_end {w : World} (h : szWorld w ≤ 4194304) {n : Nat} (hn : n < w.ends.length) : szEndpoint w.ends[n] ≤ 4194304 := by
  have := size_at (f := szEndpoint) hn
  have := (world_szs h).2.2.1
  omega
theorem endp_vers {e : Endpoint} (h : szEndpoint e ≤ 4194304) : e.versions.length ≤ 4194304 := by unfold szEndpoint at h; omega
def bestFor (e : Endpoint) (s : List Int) : Int := if isEndpoint e = true then bestCommon s (leftOf e.versions (lostVersions e.path e.versions)) else 0
abbrev BestForS (R : Rel) : Prop := ∀ (e : Endpoint) (s : List Int), szEndpoint e ≤ 4194304 → s.length ≤ 4194304 → R [arg (eEndpoint e), .sl 1 1 s.length (ints s)] [] (I (bestFor e s)) []
theorem lost_len (path : List Box) (vs : List Int) : (lostVersions path vs).length ≤ vs.length := by
  unfold lostVersions
  split
  · exact List.length_filter_le _ _
  · simp
theorem left_len (a b : List Int) : (leftOf a b).length ≤ a.length := List.length_filter_le _ _
def bestNow (w : World) (i : Int) : Int := if InQ i 0 ((w.ends.length : Int) - 1) then (match w.ends[i.toNat]? with | some e => bestFor e w.server | none => 0) else 0
abbrev BestNowS (R : Rel) : Prop := ∀ (w : World) (i : Int), szWorld w ≤ 4194304 → R [arg (eWorld w), I i] [] (I (bestNow w i)) []
end Go.Eng.T

namespace Go.Eng.T
set_option maxRecDepth 20000
set_option maxHeartbeats 1000000
/-- how many stand before the first that is not less -/
def posV : List Int → Int → Nat
  | [], _ => 0
  | x :: r, v => if x < v then posV r v + 1 else 0
theorem posV_le : ∀ (l : List Int) (v : Int), posV l v ≤ l.length
  | [], _ => Nat.le_refl 0
  | x :: r, v => by
    have := posV_le r v
    simp only [posV, List.length_cons]
    split <;> omega
theorem posV_step {l : List Int} {v : Int} {j : Nat} (h : j < l.length) (hv : l[j] < v) : posV (l.drop j) v = posV (l.drop (j + 1)) v + 1 := by
  rw [List.drop_eq_getElem_cons h]
  simp only [posV, if_pos hv]
theorem posV_stop {l : List Int} {v : Int} {j : Nat} (h : j < l.length) (hv : ¬ l[j] < v) : posV (l.drop j) v = 0 := by
  rw [List.drop_eq_getElem_cons h]
  simp only [posV, if_neg hv]
theorem posV_end {l : List Int} {v : Int} {j : Nat} (h : l.length ≤ j) : posV (l.drop j) v = 0 := by rw [List.drop_eq_nil_of_le h]; rfl
def insV (l : List Int) (i : Nat) (v : Int) : List Int := l.take i ++ v :: l.drop i
theorem insV_len {l : List Int} {i : Nat} {v : Int} (h : i ≤ l.length) : (insV l i v).length = l.length + 1 := by simp [insV]; omega
def putV (l : List Int) (v : Int) : List Int := if l[posV l v]? = some v then l else insV l (posV l v) v
theorem putV_len (l : List Int) (v : Int) : (putV l v).length ≤ l.length + 1 := by
  unfold putV
  split
  · omega
  · rw [insV_len (posV_le l v)]; omega
abbrev l4PutS (R : Rel) : Prop := ∀ (l : List Int) (v : Int), l.length ≤ 4194304 → R [.sl 1 1 l.length (ints l), I v] [] (.sl 0 1 (putV l v).length (ints (putV l v))) []
abbrev withVersionS (R : Rel) : Prop := ∀ (l : List Int) (v : Int), l.length ≤ 4194304 → R [.arr 0, I v] [.arr 1 0 l.length (ints l)] (.sl 0 1 (putV l v).length (ints (putV l v))) [.dead]
abbrev InsertS (R : Rel) : Prop := ∀ (l : List Int) (i : Nat) (v : Int), l.length ≤ 4194304 → i ≤ l.length → R [.arr 0, I i, .arr 1] [.arr 1 0 l.length (ints l), .arr 1 0 1 (ints [v])] (.sl 0 1 (insV l i v).length (ints (insV l i v))) [.dead, .dead]
theorem l4Put_b (D : Dn) : l4PutS (Body D sspec_l4Put) := by
  intro l v hl
  simp -implicitDefEqProofs
  refine swp_loop (fun k s => ∃ j, j + k = l.length ∧ posV l v = j + posV (l.drop j) v ∧ s = ⟨[.sl 1 1 l.length (ints l), I v, .undef, I j, .undef, .undef], [.free, .free, .free, .free, .free, .free, .free]⟩) ?_ (l.length) _ ⟨0, by simp, by simp, by simp⟩
  intro k s ⟨j, hj, hp, hs⟩
  subst hs
  by_cases hjn : j < l.length
  · have hw : IntKind.i64.wrap ((j : Int) + 1) = (j + 1 : Nat) := by rw [wrap_id (by omega) (by omega)]; simp
    by_cases hv : l[j] < v
    · have hst := posV_step hjn hv
      simp -implicitDefEqProofs [hjn, hv]
      exact ⟨k - 1, by omega, j + 1, by omega, by omega, by simp [hw]⟩
    · have hst := posV_stop hjn hv
      have hpe : posV l v = j := by omega
      have b1 : l.length * 8 ≤ 1099511627776 := by omega
      have b2 : j * 8 ≤ 1099511627776 := by omega
      have b3 : (j + 1) * 8 ≤ 1099511627776 := by omega
      have b4 : (j + 1 + (l.length - j)) * 8 ≤ 1099511627776 := by omega
      have hjl : j ≤ l.length := by omega
      have hjl' : (j : Int) ≤ l.length := by omega
      have hmin : min j l.length = j := by omega
      have htk : List.take (l.length - j) (List.drop j l) = List.drop j l := List.take_of_length_le (by simp)
      by_cases he : l[j] = v
      · have e : putV l v = l := by unfold putV; rw [hpe, List.getElem?_eq_getElem hjn, he, if_pos rfl]
        rw [e]
        simp -implicitDefEqProofs [hjn, hv, he, b1]
      · have e : putV l v = l.take j ++ v :: l.drop j := by unfold putV insV; rw [hpe, List.getElem?_eq_getElem hjn, if_neg (by simpa using he)]
        have el : (putV l v).length = j + 1 + (l.length - j) := by rw [e]; simp; omega
        simp -implicitDefEqProofs [hjn, hv, he, hjl, hjl', hmin, b2, b3, b4]
        rw [el, e]
        simp [htk, ints_app]
  · have hst := posV_end (v := v) (l := l) (j := j) (by omega)
    have hpe : posV l v = j := by omega
    have b1 : l.length * 8 ≤ 1099511627776 := by omega
    have b2 : j * 8 ≤ 1099511627776 := by omega
    have b3 : (j + 1) * 8 ≤ 1099511627776 := by omega
    have b4 : (j + 1 + (l.length - j)) * 8 ≤ 1099511627776 := by omega
    have hjl : j ≤ l.length := by omega
    have hjl' : (j : Int) ≤ l.length := by omega
    have hmin : min j l.length = j := by omega
    have htk : List.take (l.length - j) (List.drop j l) = List.drop j l := List.take_of_length_le (by simp)
    have e : putV l v = l.take j ++ v :: l.drop j := by unfold putV insV; rw [hpe, List.getElem?_eq_none (by omega), if_neg (by simp)]
    have el : (putV l v).length = j + 1 + (l.length - j) := by rw [e]; simp; omega
    simp -implicitDefEqProofs [hjn, hjl, hjl', hmin, b2, b3, b4]
    rw [el, e]
    simp [htk, ints_app]
theorem withVersion_b (D : Dn) (hI : InsertS (D gslices_Insert___int_int_)) : withVersionS (Body D simplV_withVersion) := by
  intro l v hl
  simp -implicitDefEqProofs
  refine swp_loop (fun k s => ∃ j, j + k = l.length ∧ posV l v = j + posV (l.drop j) v ∧ s = ⟨[.arr 0, I v, .undef, I j, .undef, .undef], [.arr 1 0 l.length (ints l), .free, .free]⟩) ?_ (l.length) _ ⟨0, by simp, by simp, by simp⟩
  intro k s ⟨j, hj, hp, hs⟩
  subst hs
  by_cases hjn : j < l.length
  · have hw : IntKind.i64.wrap ((j : Int) + 1) = (j + 1 : Nat) := by rw [wrap_id (by omega) (by omega)]; simp
    by_cases hv : l[j] < v
    · have hst := posV_step hjn hv
      simp -implicitDefEqProofs [hjn, hv]
      exact ⟨k - 1, by omega, j + 1, by omega, by omega, by simp [hw]⟩
    · have hst := posV_stop hjn hv
      have hpe : posV l v = j := by omega
      have b1 : l.length * 8 ≤ 1099511627776 := by omega
      have b2 : j * 8 ≤ 1099511627776 := by omega
      have b3 : (j + 1) * 8 ≤ 1099511627776 := by omega
      have b4 : (j + 1 + (l.length - j)) * 8 ≤ 1099511627776 := by omega
      have hjl : j ≤ l.length := by omega
      have hjl' : (j : Int) ≤ l.length := by omega
      have hmin : min j l.length = j := by omega
      have htk : List.take (l.length - j) (List.drop j l) = List.drop j l := List.take_of_length_le (by simp)
      by_cases he : l[j] = v
      · have e : putV l v = l := by unfold putV; rw [hpe, List.getElem?_eq_getElem hjn, he, if_pos rfl]
        rw [e]
        simp -implicitDefEqProofs [hjn, hv, he, b1]
      · have e : putV l v = insV l j v := by unfold putV; rw [hpe, List.getElem?_eq_getElem hjn, if_neg (by simpa using he)]
        rw [e]
        simp -implicitDefEqProofs [hjn, hv, he]
        refine callQ_of (hI l j v hl hjl) ?_
        simp -implicitDefEqProofs [outO]
  · have hst := posV_end (v := v) (l := l) (j := j) (by omega)
    have hpe : posV l v = j := by omega
    have b1 : l.length * 8 ≤ 1099511627776 := by omega
    have b2 : j * 8 ≤ 1099511627776 := by omega
    have b3 : (j + 1) * 8 ≤ 1099511627776 := by omega
    have b4 : (j + 1 + (l.length - j)) * 8 ≤ 1099511627776 := by omega
    have hjl : j ≤ l.length := by omega
    have hjl' : (j : Int) ≤ l.length := by omega
    have hmin : min j l.length = j := by omega
    have htk : List.take (l.length - j) (List.drop j l) = List.drop j l := List.take_of_length_le (by simp)
    have e : putV l v = insV l j v := by unfold putV; rw [hpe, List.getElem?_eq_none (by omega), if_neg (by simp)]
    rw [e]
    simp -implicitDefEqProofs [hjn]
    refine callQ_of (hI l j v hl hjl) ?_
    simp -implicitDefEqProofs [outO]
end Go.Eng.T

namespace Go.Eng.T
set_option maxRecDepth 20000
set_option maxHeartbeats 1000000

/-- a row under way from xs to its images -/
def mapJ {α : Type} (f : α → α) (xs : List α) (j : Nat) : List α := (xs.take j).map f ++ xs.drop j
section
variable {α : Type} {f : α → α} {xs : List α} {j : Nat}
theorem mapJ_zero : mapJ f xs 0 = xs := by simp [mapJ]
theorem mapJ_all (h : xs.length ≤ j) : mapJ f xs j = xs.map f := by simp [mapJ, List.take_of_length_le h, List.drop_eq_nil_of_le h]
@[simp] theorem mapJ_len (h : j ≤ xs.length) : (mapJ f xs j).length = xs.length := by simp [mapJ]; omega
theorem mapJ_get (h : j < xs.length) : (mapJ f xs j)[j]'(by rw [mapJ_len (by omega)]; exact h) = xs[j] := by
  unfold mapJ
  have hl : ((xs.take j).map f).length = j := by simp; omega
  have hm : min j xs.length = j := by omega
  rw [List.getElem_append_right (by omega)]
  simp [hm]
theorem mapJ_set (h : j < xs.length) : (mapJ f xs j).set j (f xs[j]) = mapJ f xs (j + 1) := by
  unfold mapJ
  have hl : ((xs.take j).map f).length = j := by simp; omega
  have ht : xs.take (j + 1) = xs.take j ++ [xs[j]] := by simp
  rw [List.set_append_right _ _ (by omega), hl, Nat.sub_self, ht, List.map_append, List.drop_eq_getElem_cons h, List.set_cons_zero, List.append_assoc]
  rfl
theorem mapJ_same (h : j < xs.length) (hf : f xs[j] = xs[j]) : mapJ f xs (j + 1) = mapJ f xs j := by
  rw [← mapJ_set h, hf]
  have := mapJ_get (f := f) h
  conv => lhs; rw [← this]
  simp
end
def leaveEnd (w : World) (e : Endpoint) : Endpoint := if 0 < bestCommon w.server (withoutV e.versions w.rollout.version) then ⟨withoutV e.versions w.rollout.version, e.tags, e.path, e.cls⟩ else e
def leave (w : World) : World := { w with ends := w.ends.map (leaveEnd w), stage := [] }
abbrev LeaveRolloutS (R : Rel) : Prop := ∀ w : World, szWorld w ≤ 4194304 → R [arg (eWorld w)] [] (.agg (eWorld (leave w))) []
theorem wv_len (a : List Int) (v : Int) : (withoutV a v).length ≤ a.length := List.length_filter_le _ _
theorem end_vers {w : World} (h : szWorld w ≤ 4194304) {j : Nat} (hj : j < w.ends.length) : w.ends[j].versions.length ≤ 4194304 := by
  have := size_at (f := szEndpoint) hj
  have e : szEndpoint w.ends[j] = w.ends[j].versions.length + w.ends[j].tags.length + sumF szBox w.ends[j].path := rfl
  unfold szWorld at h
  omega
theorem world_serv {w : World} (h : szWorld w ≤ 4194304) : w.server.length ≤ 4194304 := by unfold szWorld at h; omega
theorem leave_flat (w : World) : (leave w).ends.length = w.ends.length := by simp [leave]
end Go.Eng.T

namespace Go.Eng.T
theorem sumF_map_le {α : Type} {f : α → Nat} {g : α → α} (h : ∀ x, f (g x) ≤ f x) (xs : List α) : sumF f (xs.map g) ≤ sumF f xs := by
  induction xs with
  | nil => simp [sumF]
  | cons x r ih =>
    have := h x
    simp only [sumF, List.map_cons, List.length_cons, List.sum_cons] at *
    omega
theorem leaveEnd_sz (w : World) (x : Endpoint) : szEndpoint (leaveEnd w x) ≤ szEndpoint x := by
  unfold leaveEnd
  split
  · have := wv_len x.versions w.rollout.version
    simp only [szEndpoint]
    omega
  · exact Nat.le_refl _
theorem leave_sz (w : World) : szWorld (leave w) ≤ szWorld w := by
  have := sumF_map_le (f := szEndpoint) (leaveEnd_sz w) w.ends
  have h0 : sumF szDialed ([] : List Dialed) = 0 := rfl
  simp only [szWorld, leave, h0]
  omega
end Go.Eng.T

namespace Go.Eng.T
set_option maxRecDepth 20000
set_option maxHeartbeats 2000000
/-- a row under way, each place with its number -/
def mapIJ {α : Type} (f : Nat → α → α) (xs : List α) (j : Nat) : List α := xs.mapIdx fun i x => if i < j then f i x else x
section
variable {α : Type} {f : Nat → α → α} {xs : List α} {j : Nat}
@[simp] theorem mapIJ_len : (mapIJ f xs j).length = xs.length := by simp [mapIJ]
theorem mapIJ_zero : mapIJ f xs 0 = xs := by
  apply List.ext_getElem
  · simp
  · intro n h1 h2; simp [mapIJ]
theorem mapIJ_all (h : xs.length ≤ j) : mapIJ f xs j = xs.mapIdx f := by
  apply List.ext_getElem
  · simp
  · intro n h1 h2
    simp only [mapIJ_len] at h1
    simp only [mapIJ, List.getElem_mapIdx]
    rw [if_pos (by omega)]
theorem mapIJ_get (h : j < xs.length) : (mapIJ f xs j)[j]'(by rw [mapIJ_len]; exact h) = xs[j] := by simp [mapIJ]
theorem mapIJ_set (h : j < xs.length) : (mapIJ f xs j).set j (f j xs[j]) = mapIJ f xs (j + 1) := by
  apply List.ext_getElem
  · simp
  · intro n h1 h2
    simp only [List.length_set, mapIJ_len] at h1
    rw [List.getElem_set]
    simp only [mapIJ, List.getElem_mapIdx]
    by_cases hn : j = n
    · subst hn; simp
    · rw [if_neg hn]
      by_cases hl : n < j
      · rw [if_pos hl, if_pos (by omega)]
      · rw [if_neg hl, if_neg (by omega)]
theorem mapIJ_same (h : j < xs.length) (hf : f j xs[j] = xs[j]) : mapIJ f xs (j + 1) = mapIJ f xs j := by
  rw [← mapIJ_set h, hf]
  have := mapIJ_get (f := f) h
  conv => lhs; rw [← this]
  simp
end
def enterEnd (w : World) (i : Nat) (e : Endpoint) : Endpoint := if isIn w.rollout i w.ends.length = true then ⟨putV e.versions w.rollout.version, e.tags, e.path, e.cls⟩ else e
def canEnter (w : World) : Bool := isRollout w.rollout && !w.rollout.off
def enter (w : World) : World := if canEnter w = true then { w with ends := w.ends.mapIdx (enterEnd w), stage := [], reached := max w.reached (w.rollout.pos + 1) } else w
abbrev EnterStageS (R : Rel) : Prop := ∀ w : World, szWorld w ≤ 4194304 → R [arg (eWorld w)] [] (.agg (eWorld (enter w))) []
abbrev MaxIS (R : Rel) : Prop := ∀ a b : Int, R [I a, I b] [] (I (max a b)) []
abbrev MinIS (R : Rel) : Prop := ∀ a b : Int, R [I a, I b] [] (I (min a b)) []
theorem max_ite {a b : Int} : max a b = if a < b then b else a := by omega
theorem sMax_b (D : Dn) : MaxIS (Body D sspec_Max) := by
  intro a b
  by_cases h : a < b
  · have e : max a b = b := by omega
    simp -implicitDefEqProofs [h, e]
  · have e : max a b = a := by omega
    simp -implicitDefEqProofs [h, e]
theorem sEnterStage_b (D : Dn) (hC : cpWorldS (D gspec_l32Copy)) (hR : IsRolloutS (D gspec_IsRollout)) (hI : IsInS (D gspec_IsIn)) (hP : l4PutS (D gspec_l4Put)) (hM : MaxIS (D gspec_Max)) : EnterStageS (Body D sspec_EnterStage) := by
  intro w h
  have hl := world_ends h
  have hr := world_roll h
  simp -implicitDefEqProofs
  refine callQ_of (hC w h) ?_
  simp -implicitDefEqProofs
  refine callQ_of (hR w.rollout hr) ?_
  by_cases h1 : isRollout w.rollout = true
  rotate_left
  · have e : enter w = w := by unfold enter canEnter; rw [if_neg (by simp [h1])]
    simp -implicitDefEqProofs [h1, e]
  by_cases h2 : w.rollout.off = true
  · have e : enter w = w := by unfold enter canEnter; rw [if_neg (by simp [h2])]
    simp -implicitDefEqProofs [h1, h2, e]
  have h2' : w.rollout.off = false := by simpa using h2
  have e : enter w = { w with ends := w.ends.mapIdx (enterEnd w), stage := [], reached := max w.reached (w.rollout.pos + 1) } := by unfold enter canEnter; rw [if_pos (by simp [h1, h2'])]
  have hp := roll_pos h1
  have hwp : IntKind.i64.wrap (w.rollout.pos + 1) = w.rollout.pos + 1 := wrap_id (by omega) (by omega)
  simp -implicitDefEqProofs [h1, h2]
  refine swp_loop (fun k s => ∃ j o9, j + k = w.ends.length ∧ s = ⟨[.undef, .ptr 0 0, .ptr 1 0, .ptr 8 0, I j, .undef, .undef, .undef], [.var ((eWorld w).map (roCell 1)), .var [.nil 1, .nil 1, .sc (.int .i64 0), .nil 4, .sc (.int .i64 0), .nil 1, .sc (.int .i64 0), .sc (.bool false), .sc (.int .i64 0), .sc (.int .i64 0), .nil 5, .nil 8, .sc (.int .i64 0), .sc (.int .i64 0), .sc (.int .i64 0)], .arr 1 0 w.server.length (ints w.server), .arr 1 0 w.tags.length (ints w.tags), .arr 4 0 w.ends.length ((mapIJ (enterEnd w) w.ends j).flatMap eEndpoint), .arr 1 0 w.rollout.stages.length (ints w.rollout.stages), .arr 5 0 w.stage.length (w.stage.flatMap eDialed), .arr 8 0 w.log.length (w.log.flatMap eLogged), .var [.arr 2, .arr 3, .sc (.int .i64 w.key), .arr 4, .sc (.int .i64 w.rollout.version), .arr 5, .sc (.int .i64 w.rollout.pos), .sc (.bool w.rollout.off), .sc (.int .i64 w.least), .sc (.int .i64 w.percent), .arr 6, .arr 7, .sc (.int .i64 w.now), .sc (.int .i64 w.hurt), .sc (.int .i64 w.reached)], o9, .free]⟩) ?_ (w.ends.length) _ ⟨0, .free, by simp, by simp [mapIJ_zero, h2']⟩
  intro k s ⟨j, o9, hj, hs⟩
  subst hs
  by_cases hjn : j < w.ends.length
  · have hw : IntKind.i64.wrap ((j : Int) + 1) = (j + 1 : Nat) := by rw [wrap_id (by omega) (by omega)]; simp
    have hset := mapIJ_set (f := enterEnd w) hjn
    have hg := mapIJ_get (f := enterEnd w) hjn
    have hvl := end_vers h hjn
    have hf : j * 4 < w.ends.length * 4 := by omega
    simp -implicitDefEqProofs [hjn]
    refine callQ_of (hI w.rollout j w.ends.length hr) ?_
    by_cases h3 : isIn w.rollout j w.ends.length = true
    · have e3 : enterEnd w j w.ends[j] = ⟨putV w.ends[j].versions w.rollout.version, w.ends[j].tags, w.ends[j].path, w.ends[j].cls⟩ := by unfold enterEnd; rw [if_pos h3]
      rw [e3] at hset
      simp -implicitDefEqProofs [h3, hjn, hg, hf]
      refine callQ_of (hP w.ends[j].versions _ hvl) ?_
      simp -implicitDefEqProofs [hjn, hg, hf]
      exact ⟨k - 1, by omega, j + 1, by omega, by simp [hw], by rw [← hset]⟩
    · have e3 : enterEnd w j w.ends[j] = w.ends[j] := by unfold enterEnd; rw [if_neg h3]
      have hsame := mapIJ_same hjn e3
      simp -implicitDefEqProofs [h3]
      exact ⟨k - 1, by omega, j + 1, by omega, by simp [hw], by rw [hsame]⟩
  · have hx := mapIJ_all (f := enterEnd w) (xs := w.ends) (j := j) (by omega)
    simp -implicitDefEqProofs [hjn, hwp, hx]
    refine callQ_of (hM _ _) ?_
    simp -implicitDefEqProofs [e, h2']
theorem iEnterStage_b (D : Dn) (hC : cpWorldS (D gimpl_copyWorld)) (hR : IsRolloutS (D gimpl_IsRollout)) (hI : IsInS (D gimpl_IsIn)) (hP : withVersionS (D gimpl_withVersion)) : EnterStageS (Body D simplV_EnterStage) := by
  intro w h
  have hl := world_ends h
  have hr := world_roll h
  simp -implicitDefEqProofs
  refine callQ_of (hC w h) ?_
  simp -implicitDefEqProofs
  refine callQ_of (hR w.rollout hr) ?_
  by_cases h1 : isRollout w.rollout = true
  rotate_left
  · have e : enter w = w := by unfold enter canEnter; rw [if_neg (by simp [h1])]
    simp -implicitDefEqProofs [h1, e]
  by_cases h2 : w.rollout.off = true
  · have e : enter w = w := by unfold enter canEnter; rw [if_neg (by simp [h2])]
    simp -implicitDefEqProofs [h1, h2, e]
  have h2' : w.rollout.off = false := by simpa using h2
  have e : enter w = { w with ends := w.ends.mapIdx (enterEnd w), stage := [], reached := max w.reached (w.rollout.pos + 1) } := by unfold enter canEnter; rw [if_pos (by simp [h1, h2'])]
  have hp := roll_pos h1
  have hwp : IntKind.i64.wrap (w.rollout.pos + 1) = w.rollout.pos + 1 := wrap_id (by omega) (by omega)
  simp -implicitDefEqProofs [h1, h2]
  refine swp_loop (fun k s => ∃ j v5 o10 o11, j + k = w.ends.length ∧ s = ⟨[.undef, .ptr 0 0, .ptr 1 0, .ptr 8 0, .ptr 9 0, v5, .undef, I w.ends.length, I j, .undef, .undef], [.var ((eWorld w).map (roCell 1)), .var [.nil 1, .nil 1, .sc (.int .i64 0), .nil 4, .sc (.int .i64 0), .nil 1, .sc (.int .i64 0), .sc (.bool false), .sc (.int .i64 0), .sc (.int .i64 0), .nil 5, .nil 8, .sc (.int .i64 0), .sc (.int .i64 0), .sc (.int .i64 0)], .arr 1 0 w.server.length (ints w.server), .arr 1 0 w.tags.length (ints w.tags), .arr 4 0 w.ends.length ((mapIJ (enterEnd w) w.ends j).flatMap eEndpoint), .arr 1 0 w.rollout.stages.length (ints w.rollout.stages), .arr 5 0 w.stage.length (w.stage.flatMap eDialed), .arr 8 0 w.log.length (w.log.flatMap eLogged), .var [.arr 2, .arr 3, .sc (.int .i64 w.key), .arr 4, .sc (.int .i64 w.rollout.version), .arr 5, .sc (.int .i64 w.rollout.pos), .sc (.bool w.rollout.off), .sc (.int .i64 w.least), .sc (.int .i64 w.percent), .arr 6, .arr 7, .sc (.int .i64 w.now), .sc (.int .i64 w.hurt), .sc (.int .i64 w.reached)], .var [.sc (.int .i64 w.rollout.version), .sl 1 1 w.rollout.stages.length (ints w.rollout.stages), .sc (.int .i64 w.rollout.pos), .sc (.bool w.rollout.off)], o10, o11]⟩) ?_ (w.ends.length) _ ⟨0, .undef, .free, .free, by simp, by simp [mapIJ_zero, h2']⟩
  intro k s ⟨j, v5, o10, o11, hj, hs⟩
  subst hs
  by_cases hjn : j < w.ends.length
  · have hw : IntKind.i64.wrap ((j : Int) + 1) = (j + 1 : Nat) := by rw [wrap_id (by omega) (by omega)]; simp
    have hset := mapIJ_set (f := enterEnd w) hjn
    have hg := mapIJ_get (f := enterEnd w) hjn
    have hvl := end_vers h hjn
    have hf : j * 4 < w.ends.length * 4 := by omega
    simp -implicitDefEqProofs [hjn]
    refine ⟨by cases o11 <;> rfl, ?_⟩
    refine callQ_of (hI w.rollout j w.ends.length hr) ?_
    by_cases h3 : isIn w.rollout j w.ends.length = true
    · have e3 : enterEnd w j w.ends[j] = ⟨putV w.ends[j].versions w.rollout.version, w.ends[j].tags, w.ends[j].path, w.ends[j].cls⟩ := by unfold enterEnd; rw [if_pos h3]
      rw [e3] at hset
      simp -implicitDefEqProofs [h3, hjn, hg, hf]
      refine callQ_of (hP w.ends[j].versions _ hvl) ?_
      simp -implicitDefEqProofs [hjn, hg, hf]
      exact ⟨k - 1, by omega, j + 1, by omega, by simp [hw], by rw [← hset]⟩
    · have e3 : enterEnd w j w.ends[j] = w.ends[j] := by unfold enterEnd; rw [if_neg h3]
      have hsame := mapIJ_same hjn e3
      simp -implicitDefEqProofs [h3]
      exact ⟨k - 1, by omega, j + 1, by omega, by simp [hw], by rw [hsame]⟩
  · have hx := mapIJ_all (f := enterEnd w) (xs := w.ends) (j := j) (by omega)
    by_cases hmx : w.reached < w.rollout.pos + 1
    · have em : max w.reached (w.rollout.pos + 1) = w.rollout.pos + 1 := by omega
      simp -implicitDefEqProofs [hjn, hwp, hx, e, h2', hmx, em]
    · have em : max w.reached (w.rollout.pos + 1) = w.reached := by omega
      simp -implicitDefEqProofs [hjn, hwp, hx, e, h2', hmx, em]
def stepStart (w : World) : World × Bool := if decide (w.reached = 0) && canEnter w then (enter w, true) else (w, false)
abbrev StepStartS (R : Rel) : Prop := ∀ w : World, szWorld w ≤ 4194304 → R [arg (eWorld w)] [] (.tup [.agg (eWorld (stepStart w).1), B (stepStart w).2]) []
theorem sStepStart_b (D : Dn) (hC : cpWorldS (D gspec_l32Copy)) (hR : IsRolloutS (D gspec_IsRollout)) (hE : EnterStageS (D gspec_EnterStage)) : StepStartS (Body D sspec_StepStart) := by
  intro w h
  have hr := world_roll h
  by_cases h0 : w.reached = 0
  rotate_left
  · have e : stepStart w = (w, false) := by unfold stepStart; simp [h0]
    simp -implicitDefEqProofs [h0]
    refine callQ_of (hC w h) ?_
    simp -implicitDefEqProofs [e]
  simp -implicitDefEqProofs [h0]
  refine callQ_of (hR w.rollout hr) ?_
  by_cases h1 : isRollout w.rollout = true
  rotate_left
  · have e : stepStart w = (w, false) := by unfold stepStart canEnter; simp [h1]
    simp -implicitDefEqProofs [h1]
    have hcs := hC w h
    simp -implicitDefEqProofs [h0] at hcs
    refine callQ_of hcs ?_
    clear hcs
    simp -implicitDefEqProofs [e, h0]
  by_cases h2 : w.rollout.off = true
  · have e : stepStart w = (w, false) := by unfold stepStart canEnter; simp [h2]
    simp -implicitDefEqProofs [h1, h2]
    have hcs := hC w h
    simp -implicitDefEqProofs [h0, h2] at hcs
    refine callQ_of hcs ?_
    clear hcs
    simp -implicitDefEqProofs [e, h0, h2]
  have h2' : w.rollout.off = false := by simpa using h2
  have e : stepStart w = (enter w, true) := by unfold stepStart canEnter; simp [h0, h1, h2']
  simp -implicitDefEqProofs [h1, h2]
  have hcs := hE w h
  simp -implicitDefEqProofs [h0, h2] at hcs
  refine callQ_of hcs ?_
  clear hcs
  simp -implicitDefEqProofs [e]
theorem iStepStart_b (D : Dn) (hC : cpWorldS (D gimpl_copyWorld)) (hR : IsRolloutS (D gimpl_IsRollout)) (hE : EnterStageS (D gimpl_EnterStage)) : StepStartS (Body D simpl_StepStart) := by
  intro w h
  have hr := world_roll h
  by_cases h0 : w.reached = 0
  rotate_left
  · have e : stepStart w = (w, false) := by unfold stepStart; simp [h0]
    simp -implicitDefEqProofs [h0]
    refine callQ_of (hC w h) ?_
    simp -implicitDefEqProofs [e]
  simp -implicitDefEqProofs [h0]
  refine callQ_of (hR w.rollout hr) ?_
  by_cases h1 : isRollout w.rollout = true
  rotate_left
  · have e : stepStart w = (w, false) := by unfold stepStart canEnter; simp [h1]
    simp -implicitDefEqProofs [h1]
    have hcs := hC w h
    simp -implicitDefEqProofs [h0] at hcs
    refine callQ_of hcs ?_
    clear hcs
    simp -implicitDefEqProofs [e, h0]
  by_cases h2 : w.rollout.off = true
  · have e : stepStart w = (w, false) := by unfold stepStart canEnter; simp [h2]
    simp -implicitDefEqProofs [h1, h2]
    have hcs := hC w h
    simp -implicitDefEqProofs [h0, h2] at hcs
    refine callQ_of hcs ?_
    clear hcs
    simp -implicitDefEqProofs [e, h0, h2]
  have h2' : w.rollout.off = false := by simpa using h2
  have e : stepStart w = (enter w, true) := by unfold stepStart canEnter; simp [h0, h1, h2']
  simp -implicitDefEqProofs [h1, h2]
  have hcs := hE w h
  simp -implicitDefEqProofs [h0, h2] at hcs
  refine callQ_of hcs ?_
  clear hcs
  simp -implicitDefEqProofs [e]
theorem sumF_mapI_le {α : Type} {f : α → Nat} {g : Nat → α → α} (h : ∀ i x, f (g i x) ≤ f x + 1) : ∀ xs : List α, sumF f (xs.mapIdx g) ≤ sumF f xs + xs.length := by
  intro xs
  induction xs generalizing g with
  | nil => simp [sumF]
  | cons x r ih =>
    have h0 := h 0 x
    have ih' := ih (g := fun i => g (i + 1)) (fun i x => h (i + 1) x)
    simp only [sumF, List.mapIdx_cons, List.map_cons, List.length_cons, List.sum_cons, List.length_mapIdx] at *
    omega
theorem enterEnd_sz (w : World) (i : Nat) (x : Endpoint) : szEndpoint (enterEnd w i x) ≤ szEndpoint x + 1 := by
  unfold enterEnd
  split
  · have := putV_len x.versions w.rollout.version
    simp only [szEndpoint]
    omega
  · omega
theorem enter_sz (w : World) : szWorld (enter w) ≤ szWorld w + w.ends.length := by
  have := sumF_mapI_le (f := szEndpoint) (enterEnd_sz w) w.ends
  have h0 : sumF szDialed ([] : List Dialed) = 0 := rfl
  unfold enter
  split
  · simp only [szWorld, h0]
    omega
  · omega
theorem stepStart_sz (w : World) : szWorld (stepStart w).1 ≤ szWorld w + w.ends.length := by
  unfold stepStart
  split
  · exact enter_sz w
  · dsimp only; omega
end Go.Eng.T

namespace Go.Eng.T
end Go.Eng.T

namespace Go.Eng.T
set_option maxRecDepth 20000
set_option maxHeartbeats 2000000
open Go.Lib (compact compactUpTo keeps)

/-- numbers that rise -/
abbrev Up (l : List Int) : Prop := l.Pairwise (· < ·)
theorem up_ext : ∀ {a b : List Int}, Up a → Up b → (∀ x, x ∈ a ↔ x ∈ b) → a = b
  | [], [], _, _, _ => rfl
  | [], y :: b, _, _, h => by have := (h y).2 (by simp); simp at this
  | x :: a, [], _, _, h => by have := (h x).1 (by simp); simp at this
  | x :: a, y :: b, ha, hb, h => by
    rw [Up, List.pairwise_cons] at ha hb
    have hxy : x = y := by
      have h1 := (h x).1 (by simp)
      have h2 := (h y).2 (by simp)
      rcases List.mem_cons.1 h1 with e | h1
      · exact e
      · rcases List.mem_cons.1 h2 with e | h2
        · exact e.symm
        · have := hb.1 x h1; have := ha.1 y h2; omega
    subst hxy
    congr 1
    refine up_ext ha.2 hb.2 fun z => ⟨fun hz => ?_, fun hz => ?_⟩
    · rcases List.mem_cons.1 ((h z).1 (by simp [hz])) with e | h1
      · subst e; have := ha.1 z hz; omega
      · exact h1
    · rcases List.mem_cons.1 ((h z).2 (by simp [hz])) with e | h1
      · subst e; have := hb.1 z hz; omega
      · exact h1
theorem putV_mem : ∀ (l : List Int) (v x : Int), x ∈ putV l v ↔ x ∈ l ∨ x = v := by
  intro l v x
  unfold putV
  split
  · rename_i h
    constructor
    · exact .inl
    · rintro (h1 | rfl)
      · exact h1
      · exact List.mem_of_getElem? h
  · unfold insV
    rw [List.mem_append, List.mem_cons]
    have : x ∈ l ↔ x ∈ l.take (posV l v) ∨ x ∈ l.drop (posV l v) := by
      conv => lhs; rw [← List.take_append_drop (posV l v) l, List.mem_append]
    rw [this]
    constructor
    · rintro (h1 | h1 | h1)
      · exact .inl (.inl h1)
      · exact .inr h1
      · exact .inl (.inr h1)
    · rintro ((h1 | h1) | h1)
      · exact .inl h1
      · exact .inr (.inr h1)
      · exact .inr (.inl h1)
theorem posV_before : ∀ (l : List Int) (v x : Int), x ∈ l.take (posV l v) → x < v
  | [], v, x, h => by simp at h
  | y :: r, v, x, h => by
    simp only [posV] at h
    split at h
    · rw [List.take_succ_cons] at h
      rcases List.mem_cons.1 h with rfl | h
      · assumption
      · exact posV_before r v x h
    · simp at h
theorem putV_up : ∀ {l : List Int} (v : Int), Up l → Up (putV l v) := by
  intro l v hl
  unfold putV
  split
  · exact hl
  · rename_i hne
    unfold insV Up
    rw [List.pairwise_append, List.pairwise_cons]
    have hb := posV_before l v
    have hafter : ∀ y, y ∈ l.drop (posV l v) → v < y := by
      intro y hy
      by_cases hk : posV l v < l.length
      · have hs := posV_stop (l := l) (v := v) hk (by
          intro hlt
          have key : ∀ (l : List Int) (h : posV l v < l.length), ¬ l[posV l v] < v := by
            intro l
            induction l with
            | nil => intro h; simp at h
            | cons x r ih =>
              intro h
              by_cases hx : x < v
              · have e : posV (x :: r) v = posV r v + 1 := by simp [posV, hx]
                have h' : posV r v < r.length := by rw [e] at h; simpa using h
                have := ih h'
                simp only [e, List.getElem_cons_succ]
                exact this
              · have e : posV (x :: r) v = 0 := by simp [posV, hx]
                simp only [e, List.getElem_cons_zero]
                exact hx
          exact key l hk hlt)
        have key : ∀ (l : List Int) (h : posV l v < l.length), ¬ l[posV l v] < v := by
          intro l
          induction l with
          | nil => intro h; simp at h
          | cons x r ih =>
            intro h
            by_cases hx : x < v
            · have e : posV (x :: r) v = posV r v + 1 := by simp [posV, hx]
              have h' : posV r v < r.length := by rw [e] at h; simpa using h
              have := ih h'
              simp only [e, List.getElem_cons_succ]
              exact this
            · have e : posV (x :: r) v = 0 := by simp [posV, hx]
              simp only [e, List.getElem_cons_zero]
              exact hx
        have h1 := key l hk
        have h2 : l[posV l v] ≠ v := by
          intro e; apply hne; rw [List.getElem?_eq_getElem hk, e]
        rw [List.drop_eq_getElem_cons hk] at hy
        have hp : (l[posV l v] :: l.drop (posV l v + 1)).Pairwise (· < ·) := by rw [← List.drop_eq_getElem_cons hk]; exact hl.drop
        rw [List.pairwise_cons] at hp
        rcases List.mem_cons.1 hy with rfl | hy
        · omega
        · have := hp.1 y hy; omega
      · rw [List.drop_eq_nil_of_le (by omega)] at hy; simp at hy
    refine ⟨hl.take, ⟨hafter, hl.drop⟩, fun a ha b hb' => ?_⟩
    have h1 := hb a ha
    rcases List.mem_cons.1 hb' with rfl | hb'
    · exact h1
    · have := hafter b hb'; omega
def putAll (l : List Int) (xs : List Int) : List Int := xs.foldl putV l
theorem putAll_up : ∀ {xs l : List Int}, Up l → Up (putAll l xs)
  | [], _, h => h
  | x :: xs, l, h => putAll_up (xs := xs) (putV_up x h)
theorem putAll_mem : ∀ (xs l : List Int) (x : Int), x ∈ putAll l xs ↔ x ∈ l ∨ x ∈ xs
  | [], l, x => by simp [putAll]
  | y :: xs, l, x => by
    have := putAll_mem xs (putV l y) x
    unfold putAll at *
    rw [List.foldl_cons, this, putV_mem, List.mem_cons]
    constructor
    · rintro ((h | h) | h)
      · exact .inl h
      · exact .inr (.inl h)
      · exact .inr (.inr h)
    · rintro (h | h | h)
      · exact .inl (.inl h)
      · exact .inl (.inr h)
      · exact .inr h
theorem compact_mem (zs : List Int) (x : Int) : x ∈ compact zs ↔ x ∈ zs := by
  have hget : ∀ i, i < zs.length → zs.toArray[i]! = zs[i]! := fun i _ => by simp
  unfold compact compactUpTo
  simp only [List.mem_map, List.mem_filter, List.mem_range]
  constructor
  · rintro ⟨i, ⟨hi, _⟩, rfl⟩
    rw [hget i hi, getElem!_pos zs i hi]
    exact List.getElem_mem hi
  · intro hx
    -- the first place at which x stands
    have key : ∀ n, (h : n < zs.length) → zs[n] = x → ∃ i, (i < zs.length ∧ keeps zs.toArray i = true) ∧ zs.toArray[i]! = x := by
      intro n
      induction n with
      | zero => intro h e; exact ⟨0, ⟨h, by simp [keeps]⟩, by rw [hget 0 h, getElem!_pos zs 0 h, e]⟩
      | succ n ih =>
        intro h e
        by_cases hk : zs[n] = x
        · exact ih (by omega) hk
        · refine ⟨n + 1, ⟨h, ?_⟩, by rw [hget _ h, getElem!_pos zs _ h, e]⟩
          unfold keeps
          rw [show n + 1 - 1 = n by omega, hget _ h, hget n (by omega), getElem!_pos zs _ h, getElem!_pos zs n (by omega), e]
          simp
          exact fun h => hk h.symm
    obtain ⟨n, hn, e⟩ := List.getElem_of_mem hx
    exact key n hn e
theorem compact_up (zs : List Int) (h : zs.Pairwise (· ≤ ·)) : Up (compact zs) := by
  have hget : ∀ i, i < zs.length → zs.toArray[i]! = zs[i]! := fun i _ => by simp
  unfold compact compactUpTo Up
  rw [List.pairwise_map]
  have hr : ((List.range zs.length).filter (keeps zs.toArray)).Pairwise (· < ·) := List.Pairwise.filter _ List.pairwise_lt_range
  refine hr.imp_of_mem ?_
  intro i j hi hj hij
  simp only [List.mem_filter, List.mem_range] at hi hj
  have hk := hj.2
  unfold keeps at hk
  have h0 : ¬ j = 0 := by omega
  simp only [h0, false_or, decide_eq_true_eq] at hk
  rw [hget j hj.1, hget (j - 1) (by omega), getElem!_pos zs j hj.1, getElem!_pos zs (j - 1) (by omega)] at hk
  rw [hget i hi.1, hget j hj.1, getElem!_pos zs i hi.1, getElem!_pos zs j hj.1]
  rw [List.pairwise_iff_getElem] at h
  have h1 := h (j - 1) j (by omega) hj.1 (by omega)
  have h2 : zs[i] ≤ zs[j - 1] := by
    by_cases e : i = j - 1
    · simp [e]
    · exact h i (j - 1) hi.1 (by omega) (by omega)
  omega
def sortI (l : List Int) : List Int := l.mergeSort fun x y => decide (x ≤ y)
theorem sortI_len (l : List Int) : (sortI l).length = l.length := by simp [sortI]
theorem sortI_mem (l : List Int) (x : Int) : x ∈ sortI l ↔ x ∈ l := by simp [sortI]
theorem sortI_up (l : List Int) : (sortI l).Pairwise (· ≤ ·) := by
  have := List.pairwise_mergeSort (le := fun x y : Int => decide (x ≤ y)) (fun a b c h1 h2 => by simp at *; omega) (fun a b => by simp; omega) l
  exact this.imp fun h => by simpa using h
theorem compact_sort (l : List Int) : compact (sortI l) = putAll [] l := by
  refine up_ext (compact_up _ (sortI_up l)) (putAll_up List.Pairwise.nil) fun x => ?_
  rw [compact_mem, sortI_mem, putAll_mem]
  simp
abbrev SortS (R : Rel) : Prop := ∀ l : List Int, l.length ≤ 4194304 → R [.arr 0] [.arr 1 0 l.length (ints l)] (.tup []) [.arr 1 0 l.length (ints (sortI l))]
abbrev CompactS (R : Rel) : Prop := ∀ l : List Int, l.length ≤ 4194304 → R [.arr 0] [.arr 1 0 l.length (ints l)] (.sl 0 1 (compact l).length (ints (compact l))) [.dead]

def hurtF (w : World) (xs : List Logged) : List Int := (xs.filter (hurtL w)).map (·.fin)
def hurtEnds (w : World) : List Int := putAll [] (hurtF w w.log)
theorem hurtF_step {w : World} {xs : List Logged} {j : Nat} (h : j < xs.length) : hurtF w (xs.take (j + 1)) = hurtF w (xs.take j) ++ (if hurtL w xs[j] then [xs[j].fin] else []) := by
  unfold hurtF
  rw [filtE_step h]
  by_cases hp : hurtL w xs[j] = true <;> simp [hp]
theorem hurtF_all {w : World} {xs : List Logged} {j : Nat} (h : xs.length ≤ j) : hurtF w (xs.take j) = hurtF w xs := by rw [List.take_of_length_le h]
theorem hurtF_len {w : World} {xs : List Logged} {j : Nat} : (hurtF w (xs.take j)).length ≤ j := by
  unfold hurtF
  rw [List.length_map]
  exact filtE_len
theorem putAll_app (l xs : List Int) (y : Int) : putAll l (xs ++ [y]) = putV (putAll l xs) y := by unfold putAll; rw [List.foldl_append]; rfl
theorem putAll_len : ∀ (xs l : List Int), (putAll l xs).length ≤ l.length + xs.length
  | [], l => by simp [putAll]
  | x :: xs, l => by
    have h1 := putAll_len xs (putV l x)
    have h2 := putV_len l x
    unfold putAll at *
    simp only [List.foldl_cons, List.length_cons]
    omega
theorem hurt_len {w : World} (h : szWorld w ≤ 4194304) : (hurtEnds w).length ≤ 4194304 := by
  have h1 := putAll_len (hurtF w w.log) []
  have h2 := hurtF_len (w := w) (xs := w.log) (j := w.log.length)
  have h3 := world_log h
  rw [List.take_length] at h2
  simp only [List.length_nil, Nat.zero_add] at h1
  unfold hurtEnds
  omega
abbrev HurtEndsS (R : Rel) : Prop := ∀ w : World, szWorld w ≤ 4194304 → R [arg (eWorld w)] [] (.sl 0 1 (hurtEnds w).length (ints (hurtEnds w))) []
def rollAt (r : Rollout) (i : Nat) : Rollout := ⟨r.version, r.stages, i, r.off⟩
def mostTo (r : Rollout) (n : Int) : Nat → Int
  | 0 => 0
  | k + 1 => max (mostTo r n k) (countIn (rollAt r k) n)
def mostHurt (r : Rollout) (n s : Int) : Int := if isRollout r = true ∧ InQ s 1 r.stages.length then mostTo r n s.toNat else 0
abbrev MostHurtS (R : Rel) : Prop := ∀ (r : Rollout) (n s : Int), r.stages.length ≤ 4194304 → R [arg (eRollout r), I n, I s] [] (I (mostHurt r n s)) []
def rollOn (r : Rollout) : Rollout := ⟨r.version, r.stages, r.pos, false⟩
def isBounded (w : World) : Bool := decide (((hurtEnds w).length : Int) ≤ mostHurt (rollOn w.rollout) w.ends.length w.reached)
abbrev IsBoundedS (R : Rel) : Prop := ∀ w : World, szWorld w ≤ 4194304 → R [arg (eWorld w)] [] (B (isBounded w)) []
end Go.Eng.T

namespace Go.Eng.T
set_option maxRecDepth 20000

theorem world_stup {w : World} (h : szWorld w ≤ 4194304) : ∀ (j : Nat) (hj : j < w.stage.length), w.stage[j].up.length ≤ maxLen := by
  intro j hj
  have := size_at (f := szDialed) hj
  unfold szWorld at h
  have e : szDialed w.stage[j] = szDeal w.stage[j].deal + w.stage[j].up.length := rfl
  unfold maxLen; omega
def signalNow (w : World) : Int := signalOf (cntF (goodD w.rollout.version) w.stage) (cntF (badD w.rollout.version) w.stage) w.least w.percent
abbrev SignalNowS (R : Rel) : Prop := ∀ w : World, szWorld w ≤ 4194304 → R [arg (eWorld w)] [] (I (signalNow w)) []
end Go.Eng.T

namespace Go.Eng.T
set_option maxRecDepth 20000
set_option maxHeartbeats 2000000
def canNext (r : Rollout) : Bool := isRollout r && (!r.off && !decide (r.pos = (r.stages.length : Int) - 1))
def nextStage (r : Rollout) : Rollout × Bool := if canNext r = true then (⟨r.version, r.stages, r.pos + 1, r.off⟩, true) else (r, false)
abbrev NextStageS (R : Rel) : Prop := ∀ r : Rollout, szRollout r ≤ 4194304 → R [arg (eRollout r)] [] (.tup [.agg (eRollout (nextStage r).1), B (nextStage r).2]) []
def canBack (r : Rollout) : Bool := isRollout r && !r.off
def backStage (r : Rollout) : Rollout × Bool := if canBack r = true then (⟨r.version, r.stages, 0, true⟩, true) else (r, false)
abbrev BackStageS (R : Rel) : Prop := ∀ r : Rollout, szRollout r ≤ 4194304 → R [arg (eRollout r)] [] (.tup [.agg (eRollout (backStage r).1), B (backStage r).2]) []
def canAdd (l : List Int) (v : Int) : Bool := areVers l && (decide (InV v 1 9) && !decide (v ∈ l))
def addV (l : List Int) (v : Int) : List Int × Bool := if canAdd l v = true then (putV l v, true) else (l, false)
abbrev AddVersionS (R : Rel) : Prop := ∀ (l : List Int) (v : Int), l.length ≤ 4194304 → R [.sl 1 1 l.length (ints l), I v] [] (.tup [.sl 0 1 (addV l v).1.length (ints (addV l v).1), B (addV l v).2]) []
theorem up9 : ∀ {l : List Int} {a : Int}, Up l → (∀ x, x ∈ l → a < x ∧ x ≤ 9) → (l.length : Int) ≤ 9 - a ∨ l = []
  | [], _, _, _ => .inr rfl
  | x :: r, a, h, hb => by
    rw [Up, List.pairwise_cons] at h
    have h0 := hb x (by simp)
    have := up9 (l := r) (a := x) h.2 (fun y hy => ⟨h.1 y hy, (hb y (by simp [hy])).2⟩)
    left
    rcases this with h1 | rfl
    · simp only [List.length_cons]; omega
    · simp; omega
theorem vers_le9 {l : List Int} (h : areVers l = true) : l.length ≤ 9 := by
  have := up9 (l := l) (a := 0) (vers_pair h) (fun x hx => by have := vers_in h x hx; exact ⟨by omega, by omega⟩)
  rcases this with h1 | rfl
  · omega
  · simp
theorem up_le {l : List Int} (h : Up l) : l.Pairwise (· ≤ ·) := List.Pairwise.imp (fun h => by omega) h
theorem le_ext : ∀ {a b : List Int}, a.Pairwise (· ≤ ·) → b.Pairwise (· ≤ ·) → a.Perm b → a = b := fun ha hb h => List.Perm.eq_of_pairwise (le := fun x y : Int => x ≤ y) (fun a b _ _ h1 h2 => by omega) ha hb h
theorem sort_put {l : List Int} {v : Int} (h : areVers l = true) (hv : ¬ v ∈ l) : sortI (l ++ [v]) = putV l v := by
  have hup : Up l := vers_pair h
  refine le_ext (sortI_up _) (up_le (putV_up v hup)) ?_
  refine (List.mergeSort_perm _ _).trans ?_
  unfold putV
  rw [if_neg (fun e => hv (List.mem_of_getElem? e))]
  unfold insV
  have e : l = l.take (posV l v) ++ l.drop (posV l v) := (List.take_append_drop _ _).symm
  conv => lhs; rw [e]
  rw [List.append_assoc]
  exact List.Perm.append_left _ (List.perm_append_comm (l₁ := l.drop (posV l v)) (l₂ := [v]))
def stepRevive (w : World) (v : Int) : World × Bool := ({ w with server := (addV w.server v).1 }, (addV w.server v).2)
abbrev StepReviveS (R : Rel) : Prop := ∀ (w : World) (v : Int), szWorld w ≤ 4194304 → R [arg (eWorld w), I v] [] (.tup [.agg (eWorld (stepRevive w v).1), B (stepRevive w v).2]) []
theorem addV_no {l : List Int} {v : Int} (h : (addV l v).2 = false) : (addV l v).1 = l := by
  unfold addV at *
  split at h
  · cases h
  · rename_i hc; rw [if_neg hc]
theorem addV_len (l : List Int) (v : Int) : (addV l v).1.length ≤ l.length + 1 := by
  unfold addV
  split
  · exact putV_len l v
  · dsimp only; omega
theorem stepRevive_sz (w : World) (v : Int) : szWorld (stepRevive w v).1 ≤ szWorld w + 1 := by
  have := addV_len w.server v
  simp only [stepRevive, szWorld]
  omega
end Go.Eng.T

namespace Go.Eng.T
set_option maxRecDepth 20000
set_option maxHeartbeats 4000000
def withRoll (w : World) (r : Rollout) : World := { w with rollout := r }
def stepStage (w : World) : World × Bool :=
  if w.reached = 0 then (w, false)
  else if signalNow w = 1 then (if (nextStage w.rollout).2 = true then (enter (withRoll w (nextStage w.rollout).1), true) else (w, false))
  else if signalNow w = 2 then (if (backStage w.rollout).2 = true then (leave (withRoll w (backStage w.rollout).1), true) else (w, false))
  else (w, false)
abbrev StepStageS (R : Rel) : Prop := ∀ w : World, szWorld w ≤ 4194304 → R [arg (eWorld w)] [] (.tup [.agg (eWorld (stepStage w).1), B (stepStage w).2]) []
theorem next_sz (r : Rollout) : szRollout (nextStage r).1 = szRollout r := by unfold nextStage; split <;> rfl
theorem back_sz (r : Rollout) : szRollout (backStage r).1 = szRollout r := by unfold backStage; split <;> rfl
theorem back_ver (r : Rollout) : (backStage r).1.version = r.version := by unfold backStage; split <;> rfl
theorem withRoll_sz {w : World} {r : Rollout} (h : szRollout r = szRollout w.rollout) : szWorld (withRoll w r) = szWorld w := by simp only [szWorld, withRoll, h]
theorem leave_roll {w : World} {r : Rollout} (h : r.version = w.rollout.version) : leave (withRoll w r) = withRoll (leave w) r := by
  have e : leaveEnd (withRoll w r) = leaveEnd w := by
    funext x
    unfold leaveEnd withRoll
    rw [h]
  unfold leave
  rw [e]
  rfl
theorem stepStage_sz (w : World) : szWorld (stepStage w).1 ≤ szWorld w + w.ends.length := by
  unfold stepStage
  split
  · dsimp only; omega
  · split
    · split
      · have h1 := enter_sz (withRoll w (nextStage w.rollout).1)
        rw [withRoll_sz (next_sz _)] at h1
        exact h1
      · dsimp only; omega
    · split
      · split
        · have h1 := leave_sz (withRoll w (backStage w.rollout).1)
          rw [withRoll_sz (back_sz _)] at h1
          dsimp only
          omega
        · dsimp only; omega
      · dsimp only; omega
end Go.Eng.T

namespace Go.Eng.T
set_option maxRecDepth 20000
set_option maxHeartbeats 2000000
abbrev FnExactEnterStageS (R : Rel) : Prop := ∀ (aW : World), lnWorld aW → rgWorld aW → R [arg (eWorld aW)] [] (B true) []
abbrev FnExactHurtEndsS (R : Rel) : Prop := ∀ (aW : World), lnWorld aW → rgWorld aW → R [arg (eWorld aW)] [] (B true) []
abbrev FnExactStepStartS (R : Rel) : Prop := ∀ (aW : World), lnWorld aW → rgWorld aW → R [arg (eWorld aW)] [] (B true) []
theorem FnExactStepStart_b (D : Dn) (hs : StepStartS (D gspec_StepStart)) (hi : StepStartS (D gimpl_StepStart)) (hszWorld : szWorldS (D glaws_szWorld)) (htoWorld : toWorldS (D glaws_toWorld)) (heqWorld : eqWorldS (D glaws_eqWorld)) (hmarkWorld : markWorldS (D glaws_markWorld)) (hheldWorld : heldWorldS (D glaws_heldWorld)) : FnExactStepStartS (Body D slaws_FnExactStepStart) := by
  intro aW l_aW w_aW
  simp -implicitDefEqProofs []
  refine callQ_of (hszWorld aW ((1048576 : Int)) (by omega) (by omega) l_aW) ?_
  by_cases g1 : (1048576 : Int) < ((szWorld aW : Nat) : Int)
  · simp -implicitDefEqProofs [szl_lt g1]
  have p1 : ¬ (1048576 : Int) - ((szWorld aW : Nat) : Int) < 0 := by omega
  simp -implicitDefEqProofs [szl_ge g1, p1]
  have hs' := hs aW (by omega)
  have hi' := hi aW (by omega)
  obtain ⟨b0, c0⟩ : szWorld ((stepStart aW).1) ≤ 1099511627776 ∧ mcWorld ((stepStart aW).1) ≤ 1099511627776 := (by have a1 := stepStart_sz aW; have a2 := mc_szWorld ((stepStart aW).1); have a3 := world_ends (w := aW) (by omega); omega)
  generalize (stepStart aW).1 = r0 at hs' hi' b0 c0
  refine callQ_of (htoWorld aW (by omega)) ?_
  simp -implicitDefEqProofs [szl_ge g1, p1]
  refine callQ_of (hs') ?_
  simp -implicitDefEqProofs [szl_ge g1, p1]
  refine callQ_of (htoWorld aW (by omega)) ?_
  simp -implicitDefEqProofs [szl_ge g1, p1]
  refine callQ_of (hi') ?_
  simp -implicitDefEqProofs [szl_ge g1, p1]
  refine callQ_of (heqWorld r0 r0 (by omega) (by omega)) ?_
  simp -implicitDefEqProofs [szl_ge g1, p1]
  refine callQ_of (htoWorld aW (by omega)) ?_
  simp -implicitDefEqProofs [szl_ge g1, p1]
  refine callQ_of (heqWorld aW aW (by omega) (by omega)) ?_
  simp -implicitDefEqProofs [szl_ge g1, p1]
  have qaW := mc_szWorld aW
  have pkaW : ¬ 1 + ((mcWorld aW : Nat) : Int) < 0 := by omega
  refine callQ_of (hmarkWorld aW (1) (by omega) (by omega)) ?_
  simp -implicitDefEqProofs [szl_ge g1, p1, pkaW, mkWorld, mkRollout]
  refine callQ_of (heqWorld r0 r0 (by omega) (by omega)) ?_
  simp -implicitDefEqProofs [szl_ge g1, p1, pkaW, mkWorld, mkRollout]
  refine callQ_of (hmarkWorld r0 (1) (by omega) (by omega)) ?_
  simp -implicitDefEqProofs [szl_ge g1, p1, pkaW, mkWorld, mkRollout]
  have pq0 : ¬ 1 + ((mcWorld r0 : Nat) : Int) < 0 := by omega
  have hr := hheldWorld r0 (1) (by omega) (by omega)
  simp -implicitDefEqProofs [mkWorld, mkRollout] at hr
  refine callQ_of (hr) ?_
  simp -implicitDefEqProofs [szl_ge g1, p1, pkaW, mkWorld, mkRollout, pq0]
  refine callQ_of (htoWorld aW (by omega)) ?_
  simp -implicitDefEqProofs [szl_ge g1, p1, pkaW, mkWorld, mkRollout, pq0]
  refine callQ_of (hi') ?_
  simp -implicitDefEqProofs [szl_ge g1, p1, pkaW, mkWorld, mkRollout, pq0]
  refine callQ_of (heqWorld r0 r0 (by omega) (by omega)) ?_
  simp -implicitDefEqProofs [szl_ge g1, p1, pkaW, mkWorld, mkRollout, pq0]
  have hr := hheldWorld r0 (1) (by omega) (by omega)
  simp -implicitDefEqProofs [mkWorld, mkRollout] at hr
  refine callQ_of (hr) ?_
  simp -implicitDefEqProofs [szl_ge g1, p1, pkaW, mkWorld, mkRollout, pq0]
abbrev FnExactIsBoundedS (R : Rel) : Prop := ∀ (aW : World), lnWorld aW → rgWorld aW → R [arg (eWorld aW)] [] (B true) []
abbrev FnExactStepReviveS (R : Rel) : Prop := ∀ (aW : World) (aV : Int), lnWorld aW → rgWorld aW → rgI aV → R [arg (eWorld aW), I aV] [] (B true) []
abbrev FnExactStepStageS (R : Rel) : Prop := ∀ (aW : World), lnWorld aW → rgWorld aW → R [arg (eWorld aW)] [] (B true) []
end Go.Eng.T

namespace Go.Eng
open Go.Lib Go.RowKit

/-- what is read only -/
inductive RdArgs (fid : Nat → Option FuncId) (w : World) : List V → List Value → Prop where
  | nil : RdArgs fid w [] []
  | sc {v : Value} {azs : List V} {xs : List Value} (h : RdArgs fid w azs xs) : RdArgs fid w (.sc v :: azs) (v :: xs)
  | sl {e len : Nat} {cells : List V} {x : Value} {azs : List V} {xs : List Value} (h1 : Rd fid w (· < w.heap.size) (.sl 1 e len cells) x) (h : RdArgs fid w azs xs) : RdArgs fid w (.sl 1 e len cells :: azs) (x :: xs)

def plainA : V → Prop
  | .sc _ => True
  | .sl 1 _ _ _ => True
  | _ => False

theorem rdArgs_of {F : Fr} {w : World} {β : Nat → Base} {own : Nat → Option (Nat × List Nat)} {H : Hp} (hw : w = F.w0) : ∀ {azs : List V} {xs : List Value}, (∀ a, a ∈ azs → plainA a) → Pw (VR F β own H w) azs xs → RdArgs F.fid w azs xs
  | [], xs, _, h => by rw [h.unnil]; exact .nil
  | a :: azs, xs, hp, h => by
    obtain ⟨x, r, rfl, h1, h2⟩ := h.uncons
    have ih := rdArgs_of hw (fun a ha => hp a (List.mem_cons_of_mem _ ha)) h2
    have ha := hp a (by simp)
    cases h1 with
    | sc h => exact .sc ih
    | @rd fl e len cells _ h3 h =>
      match fl, ha, h with
      | 1, _, h => exact .sl (Rd.move h (fun b hb => by rw [hw]; exact hb.1) (fun _ _ => rfl)) ih
    | _ => exact absurd ha (by simp [plainA])

theorem den_read {P : Program} {fid : Nat → Option FuncId} {G : Gl} {g : Nat} {args : List V} {v : Value} (hv : v.oneCell' = true) (hp' : ∀ a, a ∈ args → plainA a)
    (h : ∀ id, fid g = some id → ∀ w : World, (∀ b, G b → b < w.heap.size ∧ w.heap[b]? = G.is b) → ∀ xs, RdArgs fid w args xs → Calls P id xs.toArray w fun e w' => e = .returned v ∧ Below w.heap.size w w') : Den P fid G g args [] (.sc v) [] := by
  intro id hid F hF hG hb ht hn inv xs hx
  have hr := rdArgs_of (F := F) rfl hp' hx
  rw [hF] at hr
  refine (h id hid F.w0 (fun b hb => ?_) xs hr).mono fun e w' ⟨he, hw⟩ => ?_
  · have := inv.glob b (by rw [hG]; exact hb)
    exact ⟨this.1, by rw [← hG]; exact this.2.2⟩
  · subst he
    refine ⟨F.own0, ⟨hw.size, hw.os, hw.tape, hw.output, fun b hb _ => hw.block b hb, fun b p hb => ⟨Nat.lt_of_lt_of_le (inv.ownb b p hb).1 hw.size, fun _ => ?_⟩, .sc hv, hn.symm, fun i o hi => ?_⟩⟩
    · rw [hb]; simp
    · simp at hi

theorem below_grow {w : World} {k : Nat} {os : Array Obj} : Below w.heap.size w (Sort.grow (w.drewN k) os) :=
  ⟨rfl, rfl, rfl, by simp [Sort.grow, World.drewN], fun b hb => by simp [Sort.grow, World.drewN, Array.getElem?_append, hb]⟩

/-- a table that nobody writes reads azs it did -/
theorem tab_same {P : Program} {W w : World} {name : String} {k : IntKind} {zs : List Int} {b : Nat} (hg : P.globalNamed name = some b) (h : TabIs P W name k zs) (he : w.heap[b]? = W.heap[b]?) : TabIs P w name k zs := by
  unfold TabIs World.var? at *
  rw [hg] at h ⊢
  simp only [Option.bind_some] at h ⊢
  rw [he]
  exact h
theorem tab_of_laid {P : Program} {W : World} {name : String} {k : IntKind} {zs : List Int} {rest : List (String × DataW Unit)} {g : Nat} {t e : TypeId} {n : Nat} {ps : List MemPlace}
    (hg : P.globalNamed name = some g) (hty : (P.globals[g]?).map (·.type) = some t) (ht : P.underlying t = some (.array n e)) (he : P.underlying e = some (.int k)) (hce : P.cellsOf e = 1) (hct : P.cellsOf t = n)
    (h : DataW.LaidVars P W ((name, tabData k zs) :: rest) ps) : TabIs P W name k zs := by
  obtain ⟨g', t', cs, fuel, p, q, hg', ht', hvar, hd, _, _⟩ := h
  obtain rfl := Option.some.inj (hg.symm.trans hg')
  obtain rfl := Option.some.inj (hty.symm.trans ht')
  unfold TabIs
  rw [hvar, ← cells_of_tab ht he hce hct hd]
theorem laid_tail {P : Program} {W : World} {x : String × DataW Unit} {rest : List (String × DataW Unit)} {ps : List MemPlace} (h : DataW.LaidVars P W (x :: rest) ps) : ∃ q, DataW.LaidVars P W rest q := by
  obtain ⟨g', t', cs, fuel, p, q, hg', ht', hvar, hd, hr, _⟩ := h
  exact ⟨q, hr⟩
theorem tab_third {P : Program} {W : World} {name : String} {k : IntKind} {zs : List Int} {a b : String × DataW Unit} {rest : List (String × DataW Unit)} {g : Nat} {t e : TypeId} {n : Nat}
    (hg : P.globalNamed name = some g) (hty : (P.globals[g]?).map (·.type) = some t) (ht : P.underlying t = some (.array n e)) (he : P.underlying e = some (.int k)) (hce : P.cellsOf e = 1) (hct : P.cellsOf t = n)
    (h : laidMet P (a :: b :: (name, tabData k zs) :: rest) W) : TabIs P W name k zs := by
  obtain ⟨ps, h1, _⟩ := h
  obtain ⟨q1, h2⟩ := laid_tail h1
  obtain ⟨q2, h3⟩ := laid_tail h2
  exact tab_of_laid hg hty ht he hce hct h3
theorem tab_size {P : Program} {W : World} {name : String} {k : IntKind} {zs : List Int} {b : Nat} (hg : P.globalNamed name = some b) (h : TabIs P W name k zs) : b < W.heap.size := by
  unfold TabIs World.var? at h
  rw [hg] at h
  simp only [Option.bind_some] at h
  by_cases hb : b < W.heap.size
  · exact hb
  · rw [Array.getElem?_eq_none (by omega)] at h; cases h
end Go.Eng

namespace Go.Eng
open Go.Lib Go.RowKit Go.Sort

def iv (l : List Int) : List Value := l.map (Value.int .i64)
@[simp] theorem iv_len (l : List Int) : (iv l).length = l.length := by simp [iv]
theorem iv_ones (l : List Int) : Ones (iv l) := by
  intro v hv
  simp only [iv, List.mem_map] at hv
  obtain ⟨x, _, rfl⟩ := hv
  rfl

/-- what is as it was beside what is owned -/
structure Kept (F : Fr) (w' : World) : Prop where
  size : F.w0.heap.size ≤ w'.heap.size
  os : w'.os = F.w0.os
  tape : w'.tape = F.w0.tape
  output : w'.output = F.w0.output
  keep : ∀ b, b < F.w0.heap.size → F.own0 b = none → w'.heap[b]? = F.w0.heap[b]?

theorem Kept.refl (F : Fr) : Kept F F.w0 := ⟨Nat.le_refl _, rfl, rfl, rfl, fun _ _ _ => rfl⟩

/-- an array of numbers that is handed over -/
theorem own_ints {F : Fr} {given : List O} {k : Nat} {l : List Int} {x : Value} (inv : Inv F F.β0 F.own0 (hp given) F.w0) (hk : hp given k = .arr 1 0 l.length (T.ints l)) (h : VR F F.β0 F.own0 (hp given) F.w0 (.arr k) x) :
    ∃ a cap, x = .slice a l.length cap ∧ (l.length ≤ cap ∧ cap ≤ 9223372036854775807) ∧ a = (F.β0 k).a ∧ cap = (F.β0 k).cap ∧ (cap = 0 ∨ ∃ b o, a = some ⟨b, o, none⟩ ∧ F.own0 b = some (k, []) ∧ Has F.w0 b o (iv l) cap) := by
  have ho := inv.objs k
  rw [hk] at ho
  obtain ⟨vs, h1, h2, h3, h4, h5⟩ := ho
  have hv : vs = iv l := by
    apply List.ext_getElem?
    intro i
    by_cases hi : i < l.length
    · have hlen : vs.length = l.length := by rw [h1]; simp
      have e1 : vs[i]? = some (vs[i]'(by omega)) := by simp [hlen, hi]
      have := h5 i (.sc (.int .i64 l[i])) _ (by simp [hi]) e1
      rw [e1]
      generalize vs[i]'(by omega) = y at this
      cases this with
      | sc _ => simp [iv, hi]
    · rw [List.getElem?_eq_none (by rw [h1]; simp; omega), List.getElem?_eq_none (by simp; omega)]
  subst hv
  cases h with
  | @arr _ e t len cs he =>
    rw [hk] at he
    simp only [arrOf, Option.some.injEq, Prod.mk.injEq] at he
    obtain ⟨rfl, rfl, rfl, rfl⟩ := he
    refine ⟨_, _, rfl, h3, rfl, rfl, ?_⟩
    rcases h4 with h4 | ⟨b, o, h4, h6, h7⟩
    · exact .inl (by omega)
    · exact .inr ⟨b, o, h4, h6, by rw [Nat.mul_one] at h7; exact h7⟩
  | goneA hd => rw [hk] at hd; cases hd

theorem den_slice {P : Program} {fid : Nat → Option FuncId} {G : Gl} {g : Nat} {args : List V} {given : List O} {l' : List Int}
    (h : ∀ id, fid g = some id → ∀ F : Fr, F.fid = fid → Inv F F.β0 F.own0 (hp given) F.w0 → ∀ xs, Pw (VR F F.β0 F.own0 (hp given) F.w0) args xs →
      Calls P id xs.toArray F.w0 fun e w' => ∃ a cap, e = .returned (.slice a l'.length cap) ∧ (l'.length ≤ cap ∧ cap ≤ 9223372036854775807) ∧ (cap = 0 ∨ ∃ b o, a = some ⟨b, o, none⟩ ∧ Has w' b o (iv l') cap ∧ (b < F.w0.heap.size → F.own0 b ≠ none)) ∧ Kept F w') :
    Den P fid G g args given (.sl 0 1 l'.length (T.ints l')) (given.map fun _ => .dead) := by
  intro id hid F hF hG hb ht hn inv xs hx
  refine (h id hid F hF inv xs hx).mono fun e w' ⟨a, cap, he, hl, hm, hk⟩ => ?_
  subst he
  have hcs : ∀ own (i : Nat) (v : V) (x : Value), (T.ints l')[i]? = some v → (iv l')[i]? = some x → Ow F.fid w' own (fun _ b => F.G b) 0 F.ngiven ([] ++ [i]) v x := by
    intro own i v x h1 h2
    by_cases hi : i < l'.length
    · rw [T.ints_at hi] at h1
      simp only [iv, List.getElem?_map, hi, List.getElem?_eq_getElem, Option.map_some, Option.some.injEq] at h1 h2
      subst h1 h2
      exact .sc rfl
    · rw [List.getElem?_eq_none (by simp; omega)] at h1; cases h1
  rcases hm with hm | ⟨b, o, rfl, hhas, hown⟩
  · refine ⟨fun _ => none, ⟨hk.size, hk.os, hk.tape, hk.output, hk.keep, fun b p h => (by cases h), .own hl (by simp) (by simp) (.inl (by omega)) (hcs _), by simp [hn], fun i o hi => ?_⟩⟩
    simp only [List.getElem?_map, Option.map_eq_some_iff] at hi
    obtain ⟨_, _, rfl⟩ := hi
    trivial
  · refine ⟨fun b' => if b' = b then some (F.ngiven, []) else none, ⟨hk.size, hk.os, hk.tape, hk.output, hk.keep, fun b' p h => ?_, .own hl (by simp) (by simp) (.inr ⟨b, o, rfl, if_pos rfl, by rw [Nat.mul_one]; exact hhas⟩) (hcs _), by simp [hn], fun i o' hi => ?_⟩⟩
    · by_cases e : b' = b
      · subst e; exact ⟨has_lt hhas, hown⟩
      · rw [if_neg e] at h; cases h
    · simp only [List.getElem?_map, Option.map_eq_some_iff] at hi
      obtain ⟨_, _, rfl⟩ := hi
      trivial

/-- the array written over in place -/
theorem den_write {P : Program} {fid : Nat → Option FuncId} {G : Gl} {g : Nat} {l l' : List Int} (hll : l'.length = l.length)
    (h : ∀ id, fid g = some id → ∀ F : Fr, F.fid = fid → Inv F F.β0 F.own0 (hp [.arr 1 0 l.length (T.ints l)]) F.w0 → ∀ a cap, l.length ≤ cap → (cap = 0 ∨ ∃ b o, a = some ⟨b, o, none⟩ ∧ F.own0 b = some (0, []) ∧ Has F.w0 b o (iv l) cap) →
      Calls P id #[.slice a l.length cap] F.w0 fun e w' => e = .returned (.tuple #[]) ∧ (cap = 0 ∨ ∃ b o, a = some ⟨b, o, none⟩ ∧ Has w' b o (iv l') cap) ∧ Kept F w') :
    Den P fid G g [.arr 0] [.arr 1 0 l.length (T.ints l)] (.tup []) [.arr 1 0 l.length (T.ints l')] := by
  intro id hid F hF hG hb ht hn inv xs hx
  obtain ⟨x, r, rfl, h1, h2⟩ := hx.uncons
  obtain rfl := h2.unnil
  obtain ⟨a, cap, rfl, hl, ha, hc, hm⟩ := own_ints inv rfl h1
  refine (h id hid F hF inv a cap hl.1 hm).mono fun e w' ⟨he, hm', hk⟩ => ?_
  subst he
  refine ⟨F.own0, ⟨hk.size, hk.os, hk.tape, hk.output, hk.keep, fun b p h => ⟨Nat.lt_of_lt_of_le (inv.ownb b p h).1 hk.size, fun _ => by rw [h]; simp⟩, .tup (vs := []) rfl (fun i v x h _ => by simp at h), by rw [hn]; rfl, fun i o hi => ?_⟩⟩
  match i, hi with
  | 0, hi =>
    simp only [List.getElem?_cons_zero, Option.some.injEq] at hi
    subst hi
    refine ⟨rfl, iv l', by simp, by simp [hll], by rw [← hc]; exact hl, ?_, ?_⟩
    · rcases hm with hm | ⟨b, o, e1, e2, e3⟩
      · exact .inl (by rw [← hc, hm])
      · rcases hm' with hm' | ⟨b', o', e1', e2'⟩
        · exact .inl (by rw [← hc, hm'])
        · rw [e1] at e1'
          cases e1'
          exact .inr ⟨b, o, by rw [← ha, e1], e2, by rw [← hc, Nat.mul_one]; exact e2'⟩
    · intro i v x h1 h2
      by_cases hi : i < l'.length
      · rw [T.ints_at hi] at h1
        simp only [iv, List.getElem?_map, hi, List.getElem?_eq_getElem, Option.map_some, Option.some.injEq] at h1 h2
        subst h1 h2
        exact .sc rfl
      · rw [List.getElem?_eq_none (by simp; omega)] at h1; cases h1
  | i + 1, hi => simp at hi
end Go.Eng

namespace Go.Eng
open Go.Lib Go.RowKit Go.Sort

theorem map_at (w : World) (b : Nat) (f : Array Value → Array Value) : (mapBlock w b f).heap[b]? = (w.heap[b]?).map (onCells f) := by
  simp [mapBlock, Array.getElem?_modify]
theorem map_off (w : World) {b k : Nat} (f : Array Value → Array Value) (h : k ≠ b) : (mapBlock w b f).heap[k]? = w.heap[k]? := by
  simp [mapBlock, Array.getElem?_modify, Ne.symm h]
theorem map_size (w : World) (b : Nat) (f : Array Value → Array Value) : (mapBlock w b f).heap.size = w.heap.size := by simp [mapBlock]

theorem has_map {w w' : World} {b o n : Nat} {vs vs' : List Value} {f : Array Value → Array Value} (h : Has w b o vs n) (hw : w'.heap[b]? = (w.heap[b]?).map (onCells f)) (hs : ∀ c, (f c).size = c.size)
    (hf : ∀ c : Array Value, o + n ≤ c.size → (∀ i, i < vs.length → c[o + i]? = vs[i]?) → ∀ i, i < vs'.length → (f c)[o + i]? = vs'[i]?) (ho : Ones vs') (hl : vs'.length ≤ n) : Has w' b o vs' n := by
  obtain ⟨_, c, et, hb, h2, h3, h4⟩ := h
  exact ⟨ho, f c, et, by rw [hw, hb]; rfl, by rw [hs]; exact h2, hl, hf c h2 h4⟩

theorem has_holds {w : World} {b o n : Nat} {l : List Int} (h : Has w b o (iv l) n) : Holds (Value.int .i64) w b o l.toArray := by
  intro j hj
  simp only [List.size_toArray] at hj
  have hr := (has_reads h).2 j (by simpa using hj)
  obtain ⟨_, c, et, hb, _, _, _⟩ := h
  refine ⟨?_, ?_⟩
  · rw [hr]
    simp [iv, hj]
  · unfold World.frozen?
    simp only [hb]
    simp

theorem putCells_size {α : Type} [Inhabited α] (enc : α → Value) (o : Nat) (d : Array α) (c : Array Value) : (putCells enc o d c).size = c.size := by simp [putCells]
theorem putCells_at (l : List Int) (o : Nat) (c : Array Value) {i : Nat} (hi : i < l.length) (hc : o + i < c.size) : (putCells (Value.int .i64) o l.toArray c)[o + i]? = (iv l)[i]? := by
  simp only [putCells, Array.getElem?_mapIdx, Array.getElem?_eq_getElem hc, Option.map_some]
  rw [if_pos ⟨by omega, by simp; omega⟩]
  simp [iv, hi]

def sortL (l : List Int) : List Int := l.mergeSort fun x y => decide (x ≤ y)
theorem sortL_len (l : List Int) : (sortL l).length = l.length := by simp [sortL]

theorem sort_den {P : Program} {fid : Nat → Option FuncId} {G : Gl} {g k : Nat} (hid : fid g = some k)
    (h0 : ∀ (p : Option Addr) (cap : Nat) (w : World), Calls P k #[.slice p 0 cap] w fun e w' => e = .returned (.tuple #[]) ∧ w' = w)
    (hc : ∀ (blk off cap : Nat) (zs : List Int) (w : World), Holds (Value.int .i64) w blk off zs.toArray → blk < w.heap.size → zs.length < 4611686018427387904 →
      Calls P k #[.slice (some ⟨blk, off, none⟩) zs.length cap] w fun e w' => e = .returned (.tuple #[]) ∧ ∃ n os, w' = grow (putRow (Value.int .i64) (Sort.ahead w n) blk off (zs.mergeSort fun x y => decide (x ≤ y)).toArray) os)
    (l : List Int) (hl : l.length ≤ 4194304) : Den P fid G g [.arr 0] [.arr 1 0 l.length (T.ints l)] (.tup []) [.arr 1 0 l.length (T.ints (sortL l))] := by
  refine den_write (sortL_len l) fun id hi F hF inv a cap hcap hm => ?_
  rw [hid] at hi
  cases hi
  rcases hm with hm | ⟨b, o, rfl, hown, hhas⟩
  · subst hm
    have : l = [] := List.eq_nil_of_length_eq_zero (by omega)
    subst this
    refine (h0 a 0 F.w0).mono fun e w' ⟨he, hw⟩ => ⟨he, .inl rfl, ?_⟩
    rw [hw]; exact Kept.refl F
  · refine (hc b o cap l F.w0 (has_holds hhas) (has_lt hhas) (by omega)).mono fun e w' ⟨he, n, os, hw⟩ => ⟨he, .inr ⟨b, o, rfl, ?_⟩, ?_⟩
    · refine has_map (f := putCells (Value.int .i64) o (sortL l).toArray) hhas ?_ (putCells_size _ _ _) (fun c h1 _ i h2 => ?_) (iv_ones _) (by simp [sortL_len]; exact hcap)
      · have hb := has_lt hhas
        rw [hw]
        simp only [grow, putRow]
        rw [Array.getElem?_append, if_pos (by rw [map_size]; exact hb), map_at]
        rfl
      · simp only [iv_len] at h2
        exact putCells_at (sortL l) o c h2 (by rw [sortL_len] at h2; omega)
    · rw [hw]
      refine ⟨by simp [grow, putRow, map_size, Sort.ahead], rfl, rfl, rfl, fun b' h1 h2 => ?_⟩
      have hne : b' ≠ b := by intro e; rw [e, hown] at h2; cases h2
      simp only [grow, putRow]
      rw [Array.getElem?_append, if_pos (by rw [map_size]; exact h1), map_off _ _ hne]
      rfl

theorem compact_den {P : Program} {fid : Nat → Option FuncId} {G : Gl} {g k : Nat} (hid : fid g = some k)
    (h0 : ∀ (p : Option Addr) (cap : Nat) (w : World), Calls P k #[.slice p 0 cap] w fun e w' => e = .returned (.slice p 0 cap) ∧ w' = w)
    (hc : ∀ (blk off cap : Nat) (zs : List Int) (w : World), Holds (Value.int .i64) w blk off zs.toArray → zs.length ≤ 9223372036854775807 → zs.length ≤ cap →
      Calls P k #[.slice (some ⟨blk, off, none⟩) zs.length cap] w fun e w' => e = .returned (.slice (some ⟨blk, off, none⟩) (compact zs).length cap) ∧ ∃ q, w' = putRow (Value.int .i64) (Sort.ahead w q) blk off (compact zs ++ List.replicate (zs.length - (compact zs).length) 0).toArray)
    (l : List Int) (hl : l.length ≤ 4194304) (hcl : (compact l).length ≤ l.length) : Den P fid G g [.arr 0] [.arr 1 0 l.length (T.ints l)] (.sl 0 1 (compact l).length (T.ints (compact l))) [.dead] := by
  refine den_slice (given := [.arr 1 0 l.length (T.ints l)]) fun id hi F hF inv xs hx => ?_
  rw [hid] at hi
  cases hi
  obtain ⟨x, r, rfl, h1, h2⟩ := hx.uncons
  obtain rfl := h2.unnil
  obtain ⟨a, cap, rfl, hcap, _, _, hm⟩ := own_ints inv rfl h1
  rcases hm with hm | ⟨b, o, rfl, hown, hhas⟩
  · subst hm
    have : l = [] := List.eq_nil_of_length_eq_zero (by omega)
    subst this
    refine (h0 a 0 F.w0).mono fun e w' ⟨he, hw⟩ => ⟨a, 0, he, ⟨Nat.le_refl _, by omega⟩, .inl rfl, ?_⟩
    rw [hw]; exact Kept.refl F
  · refine (hc b o cap l F.w0 (has_holds hhas) (by omega) hcap.1).mono fun e w' ⟨he, q, hw⟩ => ⟨_, cap, he, ⟨by omega, hcap.2⟩, .inr ⟨b, o, rfl, ?_, fun _ => by rw [hown]; simp⟩, ?_⟩
    · refine has_map (f := putCells (Value.int .i64) o (compact l ++ List.replicate (l.length - (compact l).length) 0).toArray) hhas ?_ (putCells_size _ _ _) (fun c h1 _ i h2 => ?_) (iv_ones _) (by simp; omega)
      · rw [hw]
        simp only [putRow]
        rw [map_at]
        rfl
      · simp only [iv_len] at h2
        rw [putCells_at _ o c (by simp; omega) (by omega)]
        simp [iv, List.getElem?_append, h2]
    · rw [hw]
      refine ⟨by simp [putRow, map_size, Sort.ahead], rfl, rfl, rfl, fun b' h1 h2 => ?_⟩
      have hne : b' ≠ b := by intro e; rw [e, hown] at h2; cases h2
      simp only [putRow]
      rw [map_off _ _ hne]
      rfl
end Go.Eng

namespace Go.Eng
open Go.Lib Go.RowKit Go.Sort

def putVs : Nat → List Value → Array Value → Array Value
  | _, [], c => c
  | o, v :: r, c => putVs (o + 1) r (c.setIfInBounds o v)
theorem putVs_size : ∀ (vs : List Value) (o : Nat) (c : Array Value), (putVs o vs c).size = c.size
  | [], _, _ => rfl
  | v :: r, o, c => by rw [putVs, putVs_size r]; simp
theorem putVs_out : ∀ (vs : List Value) (o k : Nat) (c : Array Value), k < o ∨ o + vs.length ≤ k → (putVs o vs c)[k]? = c[k]?
  | [], _, _, _, _ => rfl
  | v :: r, o, k, c, h => by
    simp only [List.length_cons] at h
    rw [putVs, putVs_out r (o + 1) k _ (by omega), Array.getElem?_setIfInBounds, if_neg (by omega)]
theorem putVs_in : ∀ (vs : List Value) (o i : Nat) (c : Array Value), i < vs.length → o + vs.length ≤ c.size → (putVs o vs c)[o + i]? = vs[i]?
  | v :: r, o, 0, c, _, hc => by
    simp only [List.length_cons] at hc
    rw [putVs, putVs_out r (o + 1) (o + 0) _ (by omega), Array.getElem?_setIfInBounds, if_pos (by omega), if_pos (by omega)]
    rfl
  | v :: r, o, i + 1, c, hi, hc => by
    simp only [List.length_cons] at hc hi
    rw [putVs, show o + (i + 1) = o + 1 + i by omega, putVs_in r (o + 1) i _ (by omega) (by simp; omega)]
    simp
theorem setCells_map (b : Nat) : ∀ (vs : List Value) (o : Nat) (w : World), w.setCells b o vs = mapBlock w b (putVs o vs)
  | [], o, w => (mapBlock_id w b _ fun _ _ _ _ => rfl).symm
  | v :: r, o, w => by
    rw [World.setCells, setCells_map b r, setCell_eq, mapBlock_mapBlock]
    rfl

def insL (l : List Int) (i : Nat) (v : Int) : List Int := l.take i ++ v :: l.drop i
theorem insL_len {l : List Int} {i : Nat} {v : Int} (hi : i ≤ l.length) : (insL l i v).length = l.length + 1 := by simp [insL]; omega
theorem insL_get {l : List Int} {i j : Nat} {v : Int} (hi : i ≤ l.length) : (insL l i v)[j]? = if j < i then l[j]? else if j = i then some v else l[j - 1]? := by
  unfold insL
  have hm : min i l.length = i := by omega
  rw [List.getElem?_append]
  simp only [List.length_take, hm]
  split
  · rename_i h; rw [List.getElem?_take, if_pos h]
  · split
    · rename_i h1 h2; subst h2; simp
    · rename_i h1 h2
      obtain ⟨d, rfl⟩ : ∃ d, j = i + (d + 1) := ⟨j - i - 1, by omega⟩
      rw [show i + (d + 1) - i = d + 1 by omega, List.getElem?_cons_succ, List.getElem?_drop]
      congr 1
theorem iv_get {l : List Int} {j : Nat} : (iv l)[j]? = (l[j]?).map (Value.int .i64) := by simp [iv]
theorem iv_ins {l : List Int} {i j : Nat} {v : Int} (hi : i ≤ l.length) : (iv (insL l i v))[j]? = if j < i then (iv l)[j]? else if j = i then some (.int .i64 v) else (iv l)[j - 1]? := by
  rw [iv_get, insL_get hi]
  split
  · rw [iv_get]
  · split
    · rfl
    · rw [iv_get]

/-- the facts that the kit's contracts ask of a row that is handed over -/
theorem has_cell {w : World} {b o n : Nat} {vs : List Value} (h : Has w b o vs n) {j : Nat} {v : Value} (hj : vs[j]? = some v) : w.cell? ⟨b, o + j, none⟩ = some v := by
  have hl := (List.getElem?_eq_some_iff.1 hj).1
  rw [(has_reads h).2 j hl, hj]
theorem has_some {w : World} {b o n : Nat} {vs : List Value} (h : Has w b o vs n) {j : Nat} (hj : j < n) : (w.cell? ⟨b, o + j, none⟩).isSome = true := by
  obtain ⟨_, c, et, hb, h2, _, _⟩ := h
  unfold World.cell?
  simp only [hb]
  have : o + j < c.size := by omega
  simp [this]
theorem has_warm {w : World} {b o n : Nat} {vs : List Value} (h : Has w b o vs n) (x : Nat) : w.frozen? ⟨b, x, none⟩ = false := by
  obtain ⟨_, c, et, hb, _⟩ := h
  unfold World.frozen?
  simp only [hb]
  simp
theorem has_shape {w : World} {b o n : Nat} {vs : List Value} (h : Has w b o vs n) : ∃ t k, w.shape? b = some (t, k) ∧ o + n ≤ k := by
  obtain ⟨_, c, et, hb, h2, _⟩ := h
  exact ⟨et, c.size, by unfold World.shape?; simp only [hb], h2⟩
theorem ones1 {vs : List Value} (h : Ones vs) : ∀ v ∈ vs, v.oneCell' = true := h
theorem iv1 (v : Int) : iv [v] = [.int .i64 v] := rfl

theorem alloc_at (w : World) (o : Obj) : (w.alloc o).heap[w.heap.size]? = some o := by
  show (w.heap.push o)[w.heap.size]? = some o
  rw [Array.getElem?_push, if_pos rfl]
theorem alloc_off (w : World) (o : Obj) {k : Nat} (h : k < w.heap.size) : (w.alloc o).heap[k]? = w.heap[k]? := by
  show (w.heap.push o)[k]? = w.heap[k]?
  rw [Array.getElem?_push, if_neg (by omega)]
theorem alloc_size (w : World) (o : Obj) : (w.alloc o).heap.size = w.heap.size + 1 := Array.size_push _
theorem zc_size (n : Nat) : (Builtin.zeroCells (Value.int .i64 0).cells n).size = n := by simp [Builtin.zeroCells, Value.cells]

theorem onCells_comp (f g : Array Value → Array Value) (o : Obj) : onCells g (onCells f o) = onCells (fun c => g (f c)) o := by cases o <;> rfl
/-- the cells behind an insertion in place -/
theorem ins_cells {l : List Int} {off i n : Nat} {v : Int} (hi : i ≤ l.length) (hn : l.length + 1 ≤ n) (c : Array Value) (hc : off + n ≤ c.size) (hl : ∀ j, j < i → c[off + j]? = (iv l)[j]?) (j : Nat) (hj : j < l.length + 1) :
    (putVs (off + i) (iv [v]) (putVs (off + (i + 1)) ((iv l).drop i) c))[off + j]? = (iv (insL l i v))[j]? := by
  rw [iv_ins hi]
  by_cases h1 : j < i
  · rw [if_pos h1, putVs_out _ _ _ _ (.inl (by omega)), putVs_out _ _ _ _ (.inl (by omega)), hl j h1]
  · rw [if_neg h1]
    by_cases h2 : j = i
    · subst h2
      rw [if_pos rfl]
      have := putVs_in (iv [v]) (off + j) 0 (putVs (off + (j + 1)) ((iv l).drop j) c) (by simp) (by rw [putVs_size]; simp; omega)
      simp only [Nat.add_zero] at this
      rw [this]; rfl
    · rw [if_neg h2, putVs_out _ _ _ _ (.inr (by simp; omega))]
      have := putVs_in ((iv l).drop i) (off + (i + 1)) (j - (i + 1)) c (by simp; omega) (by simp; omega)
      rw [show off + (i + 1) + (j - (i + 1)) = off + j by omega] at this
      rw [this, List.getElem?_drop]
      congr 1; omega
theorem kept_map {F : Fr} {b : Nat} {f : Array Value → Array Value} {w : World} (hh : w.heap = F.w0.heap) (ho : w.os = F.w0.os) (ht : w.tape = F.w0.tape) (hu : w.output = F.w0.output) (hb : F.own0 b ≠ none) : Kept F (mapBlock w b f) := by
  refine ⟨by rw [map_size, hh]; exact Nat.le_refl _, ho, ht, hu, fun b' h1 h2 => ?_⟩
  have hne : b' ≠ b := by intro e; rw [e] at h2; exact hb h2
  rw [map_off _ _ hne, hh]

theorem insert_den {P : Program} {fid : Nat → Option FuncId} {G : Gl} {g k : Nat} {t3 : TypeId} (hid : fid g = some k)
    (hShift : ∀ (b off n c i vb voff m vc : Nat) (cs vs : List Value) (w : World), i < n → 0 < m → n + m ≤ c → c ≤ 9223372036854775807 → vb ≠ b → cs.length = n → vs.length = m →
      (∀ j v, cs[j]? = some v → w.cell? ⟨b, off + j, none⟩ = some v) → (∀ j, j < n + m → (w.cell? ⟨b, off + j, none⟩).isSome = true) → (∀ j, j < n + m → w.frozen? ⟨b, off + j, none⟩ = false) →
      (∀ j v, vs[j]? = some v → w.cell? ⟨vb, voff + j, none⟩ = some v) → (∀ v ∈ cs, v.oneCell' = true) → (∀ v ∈ vs, v.oneCell' = true) →
      ∀ (tA tB : TypeId) (kA kB : Nat), w.shape? vb = some (tA, kA) → w.shape? b = some (tB, kB) → kB ≠ 0 → w.frozen? ⟨vb, voff, none⟩ = false → w.frozen? ⟨vb, kA, none⟩ = false →
      Calls P k #[.slice (some ⟨b, off, none⟩) n c, .int .i64 i, .slice (some ⟨vb, voff, none⟩) m vc] w fun e w' =>
        e = .returned (.slice (some ⟨b, off, none⟩) (n + m) c) ∧ w' = (w.drew.setCells b (off + (i + m)) (cs.drop i)).setCells b (off + i) vs)
    (hEndRoom : ∀ (b off n c vb voff m vc : Nat) (vs : List Value) (w : World), 0 < m → n + m ≤ c → c ≤ 9223372036854775807 → vs.length = m →
      (∀ j, j < m → (w.cell? ⟨b, off + n + j, none⟩).isSome = true) → (∀ j, j < m → w.frozen? ⟨b, off + n + j, none⟩ = false) →
      (∀ j v, vs[j]? = some v → w.cell? ⟨vb, voff + j, none⟩ = some v) → (∀ v ∈ vs, v.oneCell' = true) →
      Calls P k #[.slice (some ⟨b, off, none⟩) n c, .int .i64 n, .slice (some ⟨vb, voff, none⟩) m vc] w fun e w' =>
        e = .returned (.slice (some ⟨b, off, none⟩) (n + m) c) ∧ w' = w.setCells b (off + n) vs)
    (hEndGrow : ∀ (base : Option Addr) (n c vb voff m vc : Nat) (cs vs : List Value) (w : World), 0 < m → n ≤ c → c < n + m → (n + m) * 8 ≤ 140737488355328 → cs.length = n → vs.length = m → (base = none → n = 0) →
      (∀ a, base = some a → ∀ j v, cs[j]? = some v → w.cell? (a.add j) = some v) → (∀ j v, vs[j]? = some v → w.cell? ⟨vb, voff + j, none⟩ = some v) → (∀ v ∈ vs, v.oneCell' = true) →
      Calls P k #[.slice base n c, .int .i64 n, .slice (some ⟨vb, voff, none⟩) m vc] w fun e w' =>
        e = .returned (.slice (some ⟨w.heap.size, 0, none⟩) (n + m) (grownCap w (n + m) c t3)) ∧
        w' = w.drew.alloc (.cells ((cs ++ vs).toArray ++ Builtin.zeroCells (Value.int .i64 0).cells (grownCap w (n + m) c t3 - (n + m))) t3))
    (hGrow : ∀ (b off n c i vb voff m vc : Nat) (cs vs : List Value) (w : World), i < n → 0 < m → n ≤ c → c < n + m → (n + m) * 8 ≤ 140737488355328 → cs.length = n → vs.length = m →
      (∀ j v, cs[j]? = some v → w.cell? ⟨b, off + j, none⟩ = some v) → (∀ j v, vs[j]? = some v → w.cell? ⟨vb, voff + j, none⟩ = some v) → (∀ v ∈ cs, v.oneCell' = true) → (∀ v ∈ vs, v.oneCell' = true) →
      Calls P k #[.slice (some ⟨b, off, none⟩) n c, .int .i64 i, .slice (some ⟨vb, voff, none⟩) m vc] w fun e w' =>
        e = .returned (.slice (some ⟨w.heap.size, 0, none⟩) (n + m) (grownCap w (n + m) c t3)) ∧
        w' = (((w.alloc (.cells ((cs.take i).toArray ++ Builtin.zeroCells (Value.int .i64 0).cells (n + m - i) ++ Builtin.zeroCells (Value.int .i64 0).cells (grownCap w (n + m) c t3 - (n + m))) t3)).drew.setCells w.heap.size i vs).drew).setCells w.heap.size (i + m) (cs.drop i))
    (l : List Int) (i : Nat) (v : Int) (hl : l.length ≤ 4194304) (hi : i ≤ l.length) :
    Den P fid G g [.arr 0, .sc (.int .i64 i), .arr 1] [.arr 1 0 l.length (T.ints l), .arr 1 0 1 (T.ints [v])] (.sl 0 1 (insL l i v).length (T.ints (insL l i v))) [.dead, .dead] := by
  refine den_slice (given := [.arr 1 0 l.length (T.ints l), .arr 1 0 1 (T.ints [v])]) fun id hid' F hF inv xs hx => ?_
  rw [hid] at hid'
  cases hid'
  obtain ⟨x0, r0, rfl, h1, h2⟩ := hx.uncons
  obtain ⟨x1, r1, rfl, h3, h4⟩ := h2.uncons
  obtain ⟨x2, r2, rfl, h5, h6⟩ := h4.uncons
  obtain rfl := h6.unnil
  obtain ⟨a, cap, rfl, hcap, _, _, hm⟩ := own_ints (k := 0) inv rfl h1
  obtain ⟨a2, cap2, rfl, hcap2, _, _, hm2⟩ := own_ints (k := 1) (l := [v]) inv rfl h5
  cases h3
  have hlen := insL_len (v := v) hi
  rw [hlen]
  obtain ⟨vb, vo, rfl, hvown, hvhas⟩ : ∃ vb vo, a2 = some ⟨vb, vo, none⟩ ∧ F.own0 vb = some (1, []) ∧ Has F.w0 vb vo (iv [v]) cap2 := by
    rcases hm2 with h | h
    · simp at hcap2; omega
    · exact h
  have hvs : ∀ j x, (iv [v])[j]? = some x → F.w0.cell? ⟨vb, vo + j, none⟩ = some x := fun j x hj => has_cell hvhas hj
  have hgc := le_grownCap F.w0 (l.length + 1) cap t3
  have hgb := grownCap_big F.w0 (l.length + 1) cap t3 (by omega)
  have hvne : F.own0 vb ≠ none := by rw [hvown]; simp
  have new : ∀ {w' : World} {o : Obj}, (∀ b, b < F.w0.heap.size → w'.heap[b]? = F.w0.heap[b]?) → F.w0.heap.size ≤ w'.heap.size → w'.os = F.w0.os → w'.tape = F.w0.tape → w'.output = F.w0.output → Kept F w' :=
    fun h1 h2 h3 h4 h5 => ⟨h2, h3, h4, h5, fun b hb _ => h1 b hb⟩
  -- the new row at the end
  have endGrow : cap < l.length + 1 → i = l.length → (∀ a0, a = some a0 → ∀ j x, (iv l)[j]? = some x → F.w0.cell? (a0.add j) = some x) → (a = none → l.length = 0) → _ := fun hc hin hcells hnil =>
    (hEndGrow a l.length cap vb vo 1 cap2 (iv l) (iv [v]) F.w0 (by omega) hcap.1 hc (by omega) (by simp) rfl hnil hcells hvs (iv_ones [v])).mono
      (R' := fun e w' => ∃ a cap, e = .returned (.slice a (l.length + 1) cap) ∧ (l.length + 1 ≤ cap ∧ cap ≤ 9223372036854775807) ∧ (cap = 0 ∨ ∃ b o, a = some ⟨b, o, none⟩ ∧ Has w' b o (iv (insL l i v)) cap ∧ (b < F.w0.heap.size → F.own0 b ≠ none)) ∧ Kept F w')
      fun e w' ⟨he, hw⟩ => by
        subst hw
        refine ⟨_, _, he, ⟨hgc, hgb⟩, .inr ⟨_, _, rfl, ?_, fun h => absurd h (by omega)⟩, ?_⟩
        · have e2 : iv (insL l i v) = iv l ++ iv [v] := by subst hin; simp [insL, iv]
          rw [e2]
          refine ⟨by rw [← e2]; exact iv_ones _, _, t3, alloc_at F.w0.drew _, ?_, by simp; exact hgc, fun j hj => ?_⟩
          · simp [zc_size]; omega
          · simp only [List.length_append, iv_len] at hj
            rw [Nat.zero_add, Array.getElem?_append, if_pos (by simp; simp at hj; omega)]
            simp
        · refine ⟨by rw [alloc_size]; simp, rfl, rfl, rfl, fun b hb _ => alloc_off F.w0.drew _ hb⟩
  rcases hm with hm | ⟨b, o, rfl, hown, hhas⟩
  · subst hm
    have hl0 : l = [] := List.eq_nil_of_length_eq_zero (by omega)
    subst hl0
    obtain rfl : i = 0 := by simpa using hi
    exact endGrow (by simp) rfl (fun a0 _ j x hj => by simp [iv] at hj) (fun _ => rfl)
  · have hbne : vb ≠ b := by intro e; rw [e, hown] at hvown; cases hvown
    have hcs : ∀ j x, (iv l)[j]? = some x → F.w0.cell? ⟨b, o + j, none⟩ = some x := fun j x hj => has_cell hhas hj
    have hob : F.own0 b ≠ none := by rw [hown]; simp
    by_cases hroom : l.length + 1 ≤ cap
    · by_cases hin : i = l.length
      · subst hin
        refine (hEndRoom b o l.length cap vb vo 1 cap2 (iv [v]) F.w0 (by omega) hroom hcap.2 rfl (fun j hj => ?_) (fun j _ => has_warm hhas _) hvs (iv_ones [v])).mono fun e w' ⟨he, hw⟩ => ?_
        · have := has_some hhas (j := l.length + j) (by omega)
          rwa [← Nat.add_assoc] at this
        · rw [setCells_map] at hw
          subst hw
          refine ⟨_, _, he, ⟨hroom, hcap.2⟩, .inr ⟨_, _, rfl, ?_, fun _ => hob⟩, kept_map rfl rfl rfl rfl hob⟩
          refine has_map hhas (map_at _ _ _) (putVs_size _ _) (fun c h1 h2 j hj => ?_) (iv_ones _) (by simp [hlen]; exact hroom)
          have := ins_cells (v := v) (Nat.le_refl l.length) hroom c h1 (fun j hj => h2 j (by simpa using hj)) j (by simpa [hlen] using hj)
          rw [List.drop_eq_nil_of_le (by simp)] at this
          exact this
      · obtain ⟨tA, kA, hsa, _⟩ := has_shape hvhas
        obtain ⟨tB, kB, hsb, hkB⟩ := has_shape hhas
        refine (hShift b o l.length cap i vb vo 1 cap2 (iv l) (iv [v]) F.w0 (by omega) (by omega) hroom hcap.2 hbne (by simp) rfl hcs (fun j hj => has_some hhas (by omega)) (fun j _ => has_warm hhas _) hvs (iv_ones l) (iv_ones [v]) tA tB kA kB hsa hsb (by omega) (has_warm hvhas _) (has_warm hvhas _)).mono fun e w' ⟨he, hw⟩ => ?_
        rw [setCells_map, setCells_map, mapBlock_mapBlock] at hw
        subst hw
        refine ⟨_, _, he, ⟨hroom, hcap.2⟩, .inr ⟨_, _, rfl, ?_, fun _ => hob⟩, kept_map rfl rfl rfl rfl hob⟩
        refine has_map hhas (map_at _ _ _) (fun c => by rw [putVs_size, putVs_size]) (fun c h1 h2 j hj => ?_) (iv_ones _) (by simp [hlen]; exact hroom)
        exact ins_cells (v := v) hi hroom c h1 (fun j hj => h2 j (by simp; omega)) j (by simpa [hlen] using hj)
    · by_cases hin : i = l.length
      · rw [hin]
        rw [hin] at endGrow
        refine endGrow (by omega) rfl (fun a0 ha j x hj => ?_) (fun h => by cases h)
        cases ha
        rw [Addr.add_lit]
        exact hcs j x hj
      · refine (hGrow b o l.length cap i vb vo 1 cap2 (iv l) (iv [v]) F.w0 (by omega) (by omega) hcap.1 (by omega) (by omega) (by simp) rfl hcs hvs (iv_ones l) (iv_ones [v])).mono fun e w' ⟨he, hw⟩ => ?_
        rw [setCells_map, setCells_map] at hw
        have hsz : w'.heap.size = F.w0.heap.size + 1 := by
          rw [hw, map_size]; simp only [World.drew]; rw [map_size, alloc_size]
        have hoff : ∀ b', b' < F.w0.heap.size → w'.heap[b']? = F.w0.heap[b']? := by
          intro b' hb'
          rw [hw, map_off _ _ (by omega)]
          simp only [World.drew]
          rw [map_off _ _ (by omega)]
          exact alloc_off F.w0 _ hb'
        refine ⟨_, _, he, ⟨hgc, hgb⟩, .inr ⟨_, _, rfl, ?_, fun h => absurd h (by omega)⟩, ⟨by omega, by rw [hw]; rfl, by rw [hw]; rfl, by rw [hw]; rfl, fun b' hb' _ => hoff b' hb'⟩⟩
        have hat : w'.heap[F.w0.heap.size]? = some (.cells (putVs (i + 1) ((iv l).drop i) (putVs i (iv [v]) (((iv l).take i).toArray ++ Builtin.zeroCells (Value.int .i64 0).cells (l.length + 1 - i) ++ Builtin.zeroCells (Value.int .i64 0).cells (grownCap F.w0 (l.length + 1) cap t3 - (l.length + 1))))) t3 (0, 0)) := by
          rw [hw, map_at]
          simp only [World.drew]
          rw [map_at]
          simp only []
          rw [alloc_at]
          rfl
        refine ⟨iv_ones _, _, t3, hat, ?_, by simp [hlen]; exact hgc, fun j hj => ?_⟩
        · rw [putVs_size, putVs_size]
          simp [zc_size]; omega
        · simp only [iv_len, hlen] at hj
          rw [iv_ins hi, Nat.zero_add]
          by_cases q1 : j < i
          · rw [if_pos q1, putVs_out _ _ _ _ (.inl (by omega)), putVs_out _ _ _ _ (.inl q1), Array.getElem?_append, if_pos (by simp [zc_size]; omega), Array.getElem?_append, if_pos (by simp; omega)]
            simp [q1]
          · rw [if_neg q1]
            by_cases q2 : j = i
            · subst q2
              rw [if_pos rfl, putVs_out _ _ _ _ (.inl (by omega))]
              have := putVs_in (iv [v]) j 0 (((iv l).take j).toArray ++ Builtin.zeroCells (Value.int .i64 0).cells (l.length + 1 - j) ++ Builtin.zeroCells (Value.int .i64 0).cells (grownCap F.w0 (l.length + 1) cap t3 - (l.length + 1))) (by simp) (by simp [zc_size]; omega)
              simp only [Nat.add_zero] at this
              rw [this]; rfl
            · rw [if_neg q2]
              have := putVs_in ((iv l).drop i) (i + 1) (j - (i + 1)) (putVs i (iv [v]) (((iv l).take i).toArray ++ Builtin.zeroCells (Value.int .i64 0).cells (l.length + 1 - i) ++ Builtin.zeroCells (Value.int .i64 0).cells (grownCap F.w0 (l.length + 1) cap t3 - (l.length + 1)))) (by simp; omega) (by rw [putVs_size]; simp [zc_size]; omega)
              rw [show i + 1 + (j - (i + 1)) = j by omega] at this
              rw [this, List.getElem?_drop]
              congr 1; omega
end Go.Eng

namespace Go.Eng.T
open Go.Lib Go.RowKit Go.Sort

theorem sort_prom {P : Program} {fid : Nat → Option FuncId} {G : Gl} {g k : Nat} (hid : fid g = some k)
    (h0 : ∀ (p : Option Addr) (cap : Nat) (w : Go.World), Calls P k #[.slice p 0 cap] w fun e w' => e = .returned (.tuple #[]) ∧ w' = w)
    (hc : ∀ (blk off cap : Nat) (zs : List Int) (w : Go.World), Holds (Value.int .i64) w blk off zs.toArray → blk < w.heap.size → zs.length < 4611686018427387904 →
      Calls P k #[.slice (some ⟨blk, off, none⟩) zs.length cap] w fun e w' => e = .returned (.tuple #[]) ∧ ∃ n os, w' = grow (putRow (Value.int .i64) (Sort.ahead w n) blk off (zs.mergeSort fun x y => decide (x ≤ y)).toArray) os) :
    SortS (Den P fid G g) := fun l hl => sort_den hid h0 hc l hl
theorem compact_prom {P : Program} {fid : Nat → Option FuncId} {G : Gl} {g k : Nat} (hid : fid g = some k)
    (h0 : ∀ (p : Option Addr) (cap : Nat) (w : Go.World), Calls P k #[.slice p 0 cap] w fun e w' => e = .returned (.slice p 0 cap) ∧ w' = w)
    (hc : ∀ (blk off cap : Nat) (zs : List Int) (w : Go.World), Holds (Value.int .i64) w blk off zs.toArray → zs.length ≤ 9223372036854775807 → zs.length ≤ cap →
      Calls P k #[.slice (some ⟨blk, off, none⟩) zs.length cap] w fun e w' => e = .returned (.slice (some ⟨blk, off, none⟩) (compact zs).length cap) ∧ ∃ q, w' = putRow (Value.int .i64) (Sort.ahead w q) blk off (compact zs ++ List.replicate (zs.length - (compact zs).length) 0).toArray) :
    CompactS (Den P fid G g) := fun l hl => compact_den hid h0 hc l hl (compact_length_le l)
end Go.Eng.T

namespace Go.Proofs
open Go.Shelf
def Try.laysNm221_ren : Go.Shelf.Ren := ⟨fun | 21 => 76 | 27 => 93 | 28 => 94 | 35 => 112 | 39 => 122 | n => n, fun | 22 => 22 | 3 => 3 | 4 => 4 | 0 => 0 | n => n, fun | n => n⟩
theorem Try.laysNm221 : Go.Proofs.Lays2.n21 Try.prog Try.laysNm221_ren := {
  mixed := by kernel_rfl
  f21 := Try.func76.trans (congrArg some (by kernel_rfl))
  f27 := Try.func93.trans (congrArg some (by kernel_rfl))
  f28 := Try.func94.trans (congrArg some (by kernel_rfl))
  f35 := Try.func112.trans (congrArg some (by kernel_rfl))
  f39 := Try.func122.trans (congrArg some (by kernel_rfl))
  t0 := Try.underlying0
  a0 := Try.isAgg0
  z0 := Try.sizeOf0
  v0 := Try.zeroValue0
  t3 := Try.underlying3
  a3 := Try.isAgg3
  z3 := Try.sizeOf3
  v3 := Try.zeroValue3
  t4 := Try.underlying4
  a4 := Try.isAgg4
  z4 := Try.sizeOf4
  v4 := Try.zeroValue4
  t22 := Try.underlying22
  a22 := Try.isAgg22
  z22 := Try.sizeOf22
  v22 := Try.zeroValue22
  i3 := by kernel_rfl }
end Go.Proofs

