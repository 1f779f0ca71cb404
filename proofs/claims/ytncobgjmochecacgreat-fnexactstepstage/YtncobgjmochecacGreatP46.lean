/- Own work: part 46 of the proof of FnExactStepStage. -/
import Derived.Test.YtncobgjmochecacGreatP45
import Derived.Lib.SlicesCompact
import Derived.Below
import Derived.Sort.Grow
import Derived.Deep.Draws
import Derived.Lib.LaidTab
import Derived.Sort.Row
import Derived.Laws.IdiomCopy
import Derived.Laws.AppendOwn
import Derived.Lib.RowBridge
import Derived.Shelf.Bits.Mul64
import Derived.Shelf.Slices.Turned
import Derived.Shelf.Slices.Reverse
import Derived.Ground.Names2Prog
import Derived.Shelf.Slices.Clone
import Derived.Shelf.Slices.Cells
import Derived.Ground.SlgnProg
import Derived.Shelf.SlicesE.Clone
import Derived.Shelf.Spec.SlicesInsertGrow
import Derived.Test.YtncobgjmochecacGreatProg
set_option linter.unusedSimpArgs false
set_option linter.unusedVariables false
namespace Go.Eng.T
set_option maxRecDepth 20000
set_option maxHeartbeats 2000000
open Go.Lib (compact compactUpTo keeps)

/-- numbers that rise -/
abbrev Up (l : List Int) : Prop := l.Pairwise (· < ·)
theorem up_ext : ∀ {a b : List Int}, Up a → Up b → (∀ x, x ∈ a ↔ x ∈ b) → a = b
  | [], [], _, _, _ => rfl
  | [], y :: b, _, _, h => by have := (h y).2 (by simp); simp at this
  | x :: a, [], _, _, h => by have := (h x).1 (by simp); simp at this
  | x :: a, y :: b, ha, hb, h => by
    rw [Up, List.pairwise_cons] at ha hb
    have hxy : x = y := by
      have h1 := (h x).1 (by simp)
      have h2 := (h y).2 (by simp)
      rcases List.mem_cons.1 h1 with e | h1
      · exact e
      · rcases List.mem_cons.1 h2 with e | h2
        · exact e.symm
        · have := hb.1 x h1; have := ha.1 y h2; omega
    subst hxy
    congr 1
    refine up_ext ha.2 hb.2 fun z => ⟨fun hz => ?_, fun hz => ?_⟩
    · rcases List.mem_cons.1 ((h z).1 (by simp [hz])) with e | h1
      · subst e; have := ha.1 z hz; omega
      · exact h1
    · rcases List.mem_cons.1 ((h z).2 (by simp [hz])) with e | h1
      · subst e; have := hb.1 z hz; omega
      · exact h1
theorem putV_mem : ∀ (l : List Int) (v x : Int), x ∈ putV l v ↔ x ∈ l ∨ x = v := by
  intro l v x
  unfold putV
  split
  · rename_i h
    constructor
    · exact .inl
    · rintro (h1 | rfl)
      · exact h1
      · exact List.mem_of_getElem? h
  · unfold insV
    rw [List.mem_append, List.mem_cons]
    have : x ∈ l ↔ x ∈ l.take (posV l v) ∨ x ∈ l.drop (posV l v) := by
      conv => lhs; rw [← List.take_append_drop (posV l v) l, List.mem_append]
    rw [this]
    constructor
    · rintro (h1 | h1 | h1)
      · exact .inl (.inl h1)
      · exact .inr h1
      · exact .inl (.inr h1)
    · rintro ((h1 | h1) | h1)
      · exact .inl h1
      · exact .inr (.inr h1)
      · exact .inr (.inl h1)
theorem posV_before : ∀ (l : List Int) (v x : Int), x ∈ l.take (posV l v) → x < v
  | [], v, x, h => by simp at h
  | y :: r, v, x, h => by
    simp only [posV] at h
    split at h
    · rw [List.take_succ_cons] at h
      rcases List.mem_cons.1 h with rfl | h
      · assumption
      · exact posV_before r v x h
    · simp at h
theorem putV_up : ∀ {l : List Int} (v : Int), Up l → Up (putV l v) := by
  intro l v hl
  unfold putV
  split
  · exact hl
  · rename_i hne
    unfold insV Up
    rw [List.pairwise_append, List.pairwise_cons]
    have hb := posV_before l v
    have hafter : ∀ y, y ∈ l.drop (posV l v) → v < y := by
      intro y hy
      by_cases hk : posV l v < l.length
      · have hs := posV_stop (l := l) (v := v) hk (by
          intro hlt
          have key : ∀ (l : List Int) (h : posV l v < l.length), ¬ l[posV l v] < v := by
            intro l
            induction l with
            | nil => intro h; simp at h
            | cons x r ih =>
              intro h
              by_cases hx : x < v
              · have e : posV (x :: r) v = posV r v + 1 := by simp [posV, hx]
                have h' : posV r v < r.length := by rw [e] at h; simpa using h
                have := ih h'
                simp only [e, List.getElem_cons_succ]
                exact this
              · have e : posV (x :: r) v = 0 := by simp [posV, hx]
                simp only [e, List.getElem_cons_zero]
                exact hx
          exact key l hk hlt)
        have key : ∀ (l : List Int) (h : posV l v < l.length), ¬ l[posV l v] < v := by
          intro l
          induction l with
          | nil => intro h; simp at h
          | cons x r ih =>
            intro h
            by_cases hx : x < v
            · have e : posV (x :: r) v = posV r v + 1 := by simp [posV, hx]
              have h' : posV r v < r.length := by rw [e] at h; simpa using h
              have := ih h'
              simp only [e, List.getElem_cons_succ]
              exact this
            · have e : posV (x :: r) v = 0 := by simp [posV, hx]
              simp only [e, List.getElem_cons_zero]
              exact hx
        have h1 := key l hk
        have h2 : l[posV l v] ≠ v := by
          intro e; apply hne; rw [List.getElem?_eq_getElem hk, e]
        rw [List.drop_eq_getElem_cons hk] at hy
        have hp : (l[posV l v] :: l.drop (posV l v + 1)).Pairwise (· < ·) := by rw [← List.drop_eq_getElem_cons hk]; exact hl.drop
        rw [List.pairwise_cons] at hp
        rcases List.mem_cons.1 hy with rfl | hy
        · omega
        · have := hp.1 y hy; omega
      · rw [List.drop_eq_nil_of_le (by omega)] at hy; simp at hy
    refine ⟨hl.take, ⟨hafter, hl.drop⟩, fun a ha b hb' => ?_⟩
    have h1 := hb a ha
    rcases List.mem_cons.1 hb' with rfl | hb'
    · exact h1
    · have := hafter b hb'; omega
def putAll (l : List Int) (xs : List Int) : List Int := xs.foldl putV l
theorem putAll_up : ∀ {xs l : List Int}, Up l → Up (putAll l xs)
  | [], _, h => h
  | x :: xs, l, h => putAll_up (xs := xs) (putV_up x h)
theorem putAll_mem : ∀ (xs l : List Int) (x : Int), x ∈ putAll l xs ↔ x ∈ l ∨ x ∈ xs
  | [], l, x => by simp [putAll]
  | y :: xs, l, x => by
    have := putAll_mem xs (putV l y) x
    unfold putAll at *
    rw [List.foldl_cons, this, putV_mem, List.mem_cons]
    constructor
    · rintro ((h | h) | h)
      · exact .inl h
      · exact .inr (.inl h)
      · exact .inr (.inr h)
    · rintro (h | h | h)
      · exact .inl (.inl h)
      · exact .inl (.inr h)
      · exact .inr h
theorem compact_mem (zs : List Int) (x : Int) : x ∈ compact zs ↔ x ∈ zs := by
  have hget : ∀ i, i < zs.length → zs.toArray[i]! = zs[i]! := fun i _ => by simp
  unfold compact compactUpTo
  simp only [List.mem_map, List.mem_filter, List.mem_range]
  constructor
  · rintro ⟨i, ⟨hi, _⟩, rfl⟩
    rw [hget i hi, getElem!_pos zs i hi]
    exact List.getElem_mem hi
  · intro hx
    -- the first place at which x stands
    have key : ∀ n, (h : n < zs.length) → zs[n] = x → ∃ i, (i < zs.length ∧ keeps zs.toArray i = true) ∧ zs.toArray[i]! = x := by
      intro n
      induction n with
      | zero => intro h e; exact ⟨0, ⟨h, by simp [keeps]⟩, by rw [hget 0 h, getElem!_pos zs 0 h, e]⟩
      | succ n ih =>
        intro h e
        by_cases hk : zs[n] = x
        · exact ih (by omega) hk
        · refine ⟨n + 1, ⟨h, ?_⟩, by rw [hget _ h, getElem!_pos zs _ h, e]⟩
          unfold keeps
          rw [show n + 1 - 1 = n by omega, hget _ h, hget n (by omega), getElem!_pos zs _ h, getElem!_pos zs n (by omega), e]
          simp
          exact fun h => hk h.symm
    obtain ⟨n, hn, e⟩ := List.getElem_of_mem hx
    exact key n hn e
theorem compact_up (zs : List Int) (h : zs.Pairwise (· ≤ ·)) : Up (compact zs) := by
  have hget : ∀ i, i < zs.length → zs.toArray[i]! = zs[i]! := fun i _ => by simp
  unfold compact compactUpTo Up
  rw [List.pairwise_map]
  have hr : ((List.range zs.length).filter (keeps zs.toArray)).Pairwise (· < ·) := List.Pairwise.filter _ List.pairwise_lt_range
  refine hr.imp_of_mem ?_
  intro i j hi hj hij
  simp only [List.mem_filter, List.mem_range] at hi hj
  have hk := hj.2
  unfold keeps at hk
  have h0 : ¬ j = 0 := by omega
  simp only [h0, false_or, decide_eq_true_eq] at hk
  rw [hget j hj.1, hget (j - 1) (by omega), getElem!_pos zs j hj.1, getElem!_pos zs (j - 1) (by omega)] at hk
  rw [hget i hi.1, hget j hj.1, getElem!_pos zs i hi.1, getElem!_pos zs j hj.1]
  rw [List.pairwise_iff_getElem] at h
  have h1 := h (j - 1) j (by omega) hj.1 (by omega)
  have h2 : zs[i] ≤ zs[j - 1] := by
    by_cases e : i = j - 1
    · simp [e]
    · exact h i (j - 1) hi.1 (by omega) (by omega)
  omega
def sortI (l : List Int) : List Int := l.mergeSort fun x y => decide (x ≤ y)
theorem sortI_len (l : List Int) : (sortI l).length = l.length := by simp [sortI]
theorem sortI_mem (l : List Int) (x : Int) : x ∈ sortI l ↔ x ∈ l := by simp [sortI]
theorem sortI_up (l : List Int) : (sortI l).Pairwise (· ≤ ·) := by
  have := List.pairwise_mergeSort (le := fun x y : Int => decide (x ≤ y)) (fun a b c h1 h2 => by simp at *; omega) (fun a b => by simp; omega) l
  exact this.imp fun h => by simpa using h
theorem compact_sort (l : List Int) : compact (sortI l) = putAll [] l := by
  refine up_ext (compact_up _ (sortI_up l)) (putAll_up List.Pairwise.nil) fun x => ?_
  rw [compact_mem, sortI_mem, putAll_mem]
  simp
abbrev SortS (R : Rel) : Prop := ∀ l : List Int, l.length ≤ 4194304 → R [.arr 0] [.arr 1 0 l.length (ints l)] (.tup []) [.arr 1 0 l.length (ints (sortI l))]
abbrev CompactS (R : Rel) : Prop := ∀ l : List Int, l.length ≤ 4194304 → R [.arr 0] [.arr 1 0 l.length (ints l)] (.sl 0 1 (compact l).length (ints (compact l))) [.dead]

def hurtF (w : World) (xs : List Logged) : List Int := (xs.filter (hurtL w)).map (·.fin)
def hurtEnds (w : World) : List Int := putAll [] (hurtF w w.log)
theorem hurtF_step {w : World} {xs : List Logged} {j : Nat} (h : j < xs.length) : hurtF w (xs.take (j + 1)) = hurtF w (xs.take j) ++ (if hurtL w xs[j] then [xs[j].fin] else []) := by
  unfold hurtF
  rw [filtE_step h]
  by_cases hp : hurtL w xs[j] = true <;> simp [hp]
theorem hurtF_all {w : World} {xs : List Logged} {j : Nat} (h : xs.length ≤ j) : hurtF w (xs.take j) = hurtF w xs := by rw [List.take_of_length_le h]
theorem hurtF_len {w : World} {xs : List Logged} {j : Nat} : (hurtF w (xs.take j)).length ≤ j := by
  unfold hurtF
  rw [List.length_map]
  exact filtE_len
theorem putAll_app (l xs : List Int) (y : Int) : putAll l (xs ++ [y]) = putV (putAll l xs) y := by unfold putAll; rw [List.foldl_append]; rfl
theorem putAll_len : ∀ (xs l : List Int), (putAll l xs).length ≤ l.length + xs.length
  | [], l => by simp [putAll]
  | x :: xs, l => by
    have h1 := putAll_len xs (putV l x)
    have h2 := putV_len l x
    unfold putAll at *
    simp only [List.foldl_cons, List.length_cons]
    omega
theorem hurt_len {w : World} (h : szWorld w ≤ 4194304) : (hurtEnds w).length ≤ 4194304 := by
  have h1 := putAll_len (hurtF w w.log) []
  have h2 := hurtF_len (w := w) (xs := w.log) (j := w.log.length)
  have h3 := world_log h
  rw [List.take_length] at h2
  simp only [List.length_nil, Nat.zero_add] at h1
  unfold hurtEnds
  omega
abbrev HurtEndsS (R : Rel) : Prop := ∀ w : World, szWorld w ≤ 4194304 → R [arg (eWorld w)] [] (.sl 0 1 (hurtEnds w).length (ints (hurtEnds w))) []
def rollAt (r : Rollout) (i : Nat) : Rollout := ⟨r.version, r.stages, i, r.off⟩
def mostTo (r : Rollout) (n : Int) : Nat → Int
  | 0 => 0
  | k + 1 => max (mostTo r n k) (countIn (rollAt r k) n)
def mostHurt (r : Rollout) (n s : Int) : Int := if isRollout r = true ∧ InQ s 1 r.stages.length then mostTo r n s.toNat else 0
abbrev MostHurtS (R : Rel) : Prop := ∀ (r : Rollout) (n s : Int), r.stages.length ≤ 4194304 → R [arg (eRollout r), I n, I s] [] (I (mostHurt r n s)) []
def rollOn (r : Rollout) : Rollout := ⟨r.version, r.stages, r.pos, false⟩
def isBounded (w : World) : Bool := decide (((hurtEnds w).length : Int) ≤ mostHurt (rollOn w.rollout) w.ends.length w.reached)
abbrev IsBoundedS (R : Rel) : Prop := ∀ w : World, szWorld w ≤ 4194304 → R [arg (eWorld w)] [] (B (isBounded w)) []
end Go.Eng.T

namespace Go.Eng.T
set_option maxRecDepth 20000
set_option maxHeartbeats 2000000
def canNext (r : Rollout) : Bool := isRollout r && (!r.off && !decide (r.pos = (r.stages.length : Int) - 1))
def nextStage (r : Rollout) : Rollout × Bool := if canNext r = true then (⟨r.version, r.stages, r.pos + 1, r.off⟩, true) else (r, false)
abbrev NextStageS (R : Rel) : Prop := ∀ r : Rollout, szRollout r ≤ 4194304 → R [arg (eRollout r)] [] (.tup [.agg (eRollout (nextStage r).1), B (nextStage r).2]) []
theorem sNextStage_b (D : Dn) (hC : cpRolloutS (D gspec_l26Copy)) (hR : IsRolloutS (D gspec_IsRollout)) : NextStageS (Body D sspec_NextStage) := by
  intro r h
  have hl : r.stages.length ≤ 4194304 := h
  have hw1 : IntKind.i64.wrap ((r.stages.length : Int) - 1) = (r.stages.length : Int) - 1 := wrap_id (by omega) (by omega)
  simp -implicitDefEqProofs
  refine callQ_of (hC r h) ?_
  simp -implicitDefEqProofs
  refine callQ_of (hR r hl) ?_
  by_cases h1 : isRollout r = true
  rotate_left
  · have e : nextStage r = (r, false) := by unfold nextStage canNext; rw [if_neg (by simp [h1])]
    simp -implicitDefEqProofs [h1, e]
  by_cases h2 : r.off = true
  · have e : nextStage r = (r, false) := by unfold nextStage canNext; rw [if_neg (by simp [h2])]
    simp -implicitDefEqProofs [h1, h2, e]
  have h2' : r.off = false := by simpa using h2
  have hp := roll_pos h1
  have hwp : IntKind.i64.wrap (r.pos + 1) = r.pos + 1 := wrap_id (by omega) (by omega)
  obtain ⟨ver, stg, pos, off⟩ := r
  dsimp only at *
  subst h2'
  by_cases h3 : pos = (stg.length : Int) - 1
  · have e : nextStage ⟨ver, stg, pos, false⟩ = (⟨ver, stg, pos, false⟩, false) := by unfold nextStage canNext; rw [if_neg (by simp [h3])]
    subst h3
    simp -implicitDefEqProofs [h1, hw1, e]
  have e : nextStage ⟨ver, stg, pos, false⟩ = (⟨ver, stg, pos + 1, false⟩, true) := by unfold nextStage canNext; rw [if_pos (by simp [h1, h3])]
  simp -implicitDefEqProofs [h1, hw1, h3, hwp, e]
theorem iNextStage_b (D : Dn) (hC : cpRolloutS (D gimpl_copyRollout)) (hR : IsRolloutS (D gimpl_IsRollout)) : NextStageS (Body D simpl_NextStage) := by
  intro r h
  have hl : r.stages.length ≤ 4194304 := h
  have hw1 : IntKind.i64.wrap ((r.stages.length : Int) - 1) = (r.stages.length : Int) - 1 := wrap_id (by omega) (by omega)
  simp -implicitDefEqProofs
  refine callQ_of (hC r h) ?_
  simp -implicitDefEqProofs
  refine callQ_of (hR r hl) ?_
  by_cases h1 : isRollout r = true
  rotate_left
  · have e : nextStage r = (r, false) := by unfold nextStage canNext; rw [if_neg (by simp [h1])]
    simp -implicitDefEqProofs [h1, e]
  by_cases h2 : r.off = true
  · have e : nextStage r = (r, false) := by unfold nextStage canNext; rw [if_neg (by simp [h2])]
    simp -implicitDefEqProofs [h1, h2, e]
  have h2' : r.off = false := by simpa using h2
  have hp := roll_pos h1
  have hwp : IntKind.i64.wrap (r.pos + 1) = r.pos + 1 := wrap_id (by omega) (by omega)
  obtain ⟨ver, stg, pos, off⟩ := r
  dsimp only at *
  subst h2'
  by_cases h3 : pos = (stg.length : Int) - 1
  · have e : nextStage ⟨ver, stg, pos, false⟩ = (⟨ver, stg, pos, false⟩, false) := by unfold nextStage canNext; rw [if_neg (by simp [h3])]
    subst h3
    simp -implicitDefEqProofs [h1, hw1, e]
  have e : nextStage ⟨ver, stg, pos, false⟩ = (⟨ver, stg, pos + 1, false⟩, true) := by unfold nextStage canNext; rw [if_pos (by simp [h1, h3])]
  simp -implicitDefEqProofs [h1, hw1, h3, hwp, e]
def canBack (r : Rollout) : Bool := isRollout r && !r.off
def backStage (r : Rollout) : Rollout × Bool := if canBack r = true then (⟨r.version, r.stages, 0, true⟩, true) else (r, false)
abbrev BackStageS (R : Rel) : Prop := ∀ r : Rollout, szRollout r ≤ 4194304 → R [arg (eRollout r)] [] (.tup [.agg (eRollout (backStage r).1), B (backStage r).2]) []
theorem sBackStage_b (D : Dn) (hC : cpRolloutS (D gspec_l26Copy)) (hR : IsRolloutS (D gspec_IsRollout)) : BackStageS (Body D sspec_BackStage) := by
  intro r h
  have hl : r.stages.length ≤ 4194304 := h
  simp -implicitDefEqProofs
  refine callQ_of (hC r h) ?_
  simp -implicitDefEqProofs
  refine callQ_of (hR r hl) ?_
  by_cases h1 : isRollout r = true
  rotate_left
  · have e : backStage r = (r, false) := by unfold backStage canBack; rw [if_neg (by simp [h1])]
    simp -implicitDefEqProofs [h1, e]
  by_cases h2 : r.off = true
  · have e : backStage r = (r, false) := by unfold backStage canBack; rw [if_neg (by simp [h2])]
    simp -implicitDefEqProofs [h1, h2, e]
  have e : backStage r = (⟨r.version, r.stages, 0, true⟩, true) := by unfold backStage canBack; rw [if_pos (by simp [h1, h2])]
  simp -implicitDefEqProofs [h1, h2, e]
theorem iBackStage_b (D : Dn) (hC : cpRolloutS (D gimpl_copyRollout)) (hR : IsRolloutS (D gimpl_IsRollout)) : BackStageS (Body D simpl_BackStage) := by
  intro r h
  have hl : r.stages.length ≤ 4194304 := h
  simp -implicitDefEqProofs
  refine callQ_of (hC r h) ?_
  simp -implicitDefEqProofs
  refine callQ_of (hR r hl) ?_
  by_cases h1 : isRollout r = true
  rotate_left
  · have e : backStage r = (r, false) := by unfold backStage canBack; rw [if_neg (by simp [h1])]
    simp -implicitDefEqProofs [h1, e]
  by_cases h2 : r.off = true
  · have e : backStage r = (r, false) := by unfold backStage canBack; rw [if_neg (by simp [h2])]
    simp -implicitDefEqProofs [h1, h2, e]
  have e : backStage r = (⟨r.version, r.stages, 0, true⟩, true) := by unfold backStage canBack; rw [if_pos (by simp [h1, h2])]
  simp -implicitDefEqProofs [h1, h2, e]

def canAdd (l : List Int) (v : Int) : Bool := areVers l && (decide (InV v 1 9) && !decide (v ∈ l))
def addV (l : List Int) (v : Int) : List Int × Bool := if canAdd l v = true then (putV l v, true) else (l, false)
abbrev AddVersionS (R : Rel) : Prop := ∀ (l : List Int) (v : Int), l.length ≤ 4194304 → R [.sl 1 1 l.length (ints l), I v] [] (.tup [.sl 0 1 (addV l v).1.length (ints (addV l v).1), B (addV l v).2]) []
theorem up9 : ∀ {l : List Int} {a : Int}, Up l → (∀ x, x ∈ l → a < x ∧ x ≤ 9) → (l.length : Int) ≤ 9 - a ∨ l = []
  | [], _, _, _ => .inr rfl
  | x :: r, a, h, hb => by
    rw [Up, List.pairwise_cons] at h
    have h0 := hb x (by simp)
    have := up9 (l := r) (a := x) h.2 (fun y hy => ⟨h.1 y hy, (hb y (by simp [hy])).2⟩)
    left
    rcases this with h1 | rfl
    · simp only [List.length_cons]; omega
    · simp; omega
theorem vers_le9 {l : List Int} (h : areVers l = true) : l.length ≤ 9 := by
  have := up9 (l := l) (a := 0) (vers_pair h) (fun x hx => by have := vers_in h x hx; exact ⟨by omega, by omega⟩)
  rcases this with h1 | rfl
  · omega
  · simp
theorem up_le {l : List Int} (h : Up l) : l.Pairwise (· ≤ ·) := List.Pairwise.imp (fun h => by omega) h
theorem le_ext : ∀ {a b : List Int}, a.Pairwise (· ≤ ·) → b.Pairwise (· ≤ ·) → a.Perm b → a = b := fun ha hb h => List.Perm.eq_of_pairwise (le := fun x y : Int => x ≤ y) (fun a b _ _ h1 h2 => by omega) ha hb h
theorem sort_put {l : List Int} {v : Int} (h : areVers l = true) (hv : ¬ v ∈ l) : sortI (l ++ [v]) = putV l v := by
  have hup : Up l := vers_pair h
  refine le_ext (sortI_up _) (up_le (putV_up v hup)) ?_
  refine (List.mergeSort_perm _ _).trans ?_
  unfold putV
  rw [if_neg (fun e => hv (List.mem_of_getElem? e))]
  unfold insV
  have e : l = l.take (posV l v) ++ l.drop (posV l v) := (List.take_append_drop _ _).symm
  conv => lhs; rw [e]
  rw [List.append_assoc]
  exact List.Perm.append_left _ (List.perm_append_comm (l₁ := l.drop (posV l v)) (l₂ := [v]))
def stepRevive (w : World) (v : Int) : World × Bool := ({ w with server := (addV w.server v).1 }, (addV w.server v).2)
abbrev StepReviveS (R : Rel) : Prop := ∀ (w : World) (v : Int), szWorld w ≤ 4194304 → R [arg (eWorld w), I v] [] (.tup [.agg (eWorld (stepRevive w v).1), B (stepRevive w v).2]) []
theorem addV_no {l : List Int} {v : Int} (h : (addV l v).2 = false) : (addV l v).1 = l := by
  unfold addV at *
  split at h
  · cases h
  · rename_i hc; rw [if_neg hc]
theorem addV_len (l : List Int) (v : Int) : (addV l v).1.length ≤ l.length + 1 := by
  unfold addV
  split
  · exact putV_len l v
  · dsimp only; omega
theorem stepRevive_sz (w : World) (v : Int) : szWorld (stepRevive w v).1 ≤ szWorld w + 1 := by
  have := addV_len w.server v
  simp only [stepRevive, szWorld]
  omega
end Go.Eng.T

namespace Go.Eng.T
set_option maxRecDepth 20000
set_option maxHeartbeats 4000000
def withRoll (w : World) (r : Rollout) : World := { w with rollout := r }
def stepStage (w : World) : World × Bool :=
  if w.reached = 0 then (w, false)
  else if signalNow w = 1 then (if (nextStage w.rollout).2 = true then (enter (withRoll w (nextStage w.rollout).1), true) else (w, false))
  else if signalNow w = 2 then (if (backStage w.rollout).2 = true then (leave (withRoll w (backStage w.rollout).1), true) else (w, false))
  else (w, false)
abbrev StepStageS (R : Rel) : Prop := ∀ w : World, szWorld w ≤ 4194304 → R [arg (eWorld w)] [] (.tup [.agg (eWorld (stepStage w).1), B (stepStage w).2]) []
theorem next_sz (r : Rollout) : szRollout (nextStage r).1 = szRollout r := by unfold nextStage; split <;> rfl
theorem back_sz (r : Rollout) : szRollout (backStage r).1 = szRollout r := by unfold backStage; split <;> rfl
theorem back_ver (r : Rollout) : (backStage r).1.version = r.version := by unfold backStage; split <;> rfl
theorem withRoll_sz {w : World} {r : Rollout} (h : szRollout r = szRollout w.rollout) : szWorld (withRoll w r) = szWorld w := by simp only [szWorld, withRoll, h]
theorem leave_roll {w : World} {r : Rollout} (h : r.version = w.rollout.version) : leave (withRoll w r) = withRoll (leave w) r := by
  have e : leaveEnd (withRoll w r) = leaveEnd w := by
    funext x
    unfold leaveEnd withRoll
    rw [h]
  unfold leave
  rw [e]
  rfl
theorem iStepStage_b (D : Dn) (hC : cpWorldS (D gimpl_copyWorld)) (hN : SignalNowS (D gimpl_SignalNow)) (hX : NextStageS (D gimpl_NextStage)) (hE : EnterStageS (D gimpl_EnterStage)) (hB : BackStageS (D gimpl_BackStage)) (hL : LeaveRolloutS (D gimpl_LeaveRollout)) : StepStageS (Body D simpl_StepStage) := by
  intro w hsz
  have hr := world_roll' hsz
  simp -implicitDefEqProofs
  refine callQ_of (hC w hsz) ?_
  by_cases h0 : w.reached = 0
  · have e : stepStage w = (w, false) := by unfold stepStage; rw [if_pos h0]
    simp -implicitDefEqProofs [h0, e]
  simp -implicitDefEqProofs [h0]
  refine callQ_of (hN w hsz) ?_
  by_cases g1 : signalNow w = 1
  · simp -implicitDefEqProofs [g1]
    refine callQ_of (hX w.rollout hr) ?_
    have hs := next_sz w.rollout
    by_cases hk : (nextStage w.rollout).2 = true
    · have e : stepStage w = (enter (withRoll w (nextStage w.rollout).1), true) := by unfold stepStage; rw [if_neg h0, if_pos g1, if_pos hk]
      rw [e]
      generalize (nextStage w.rollout).1 = r at hs
      simp -implicitDefEqProofs [hk]
      refine callQ_of (hE (withRoll w r) (by rw [withRoll_sz hs]; exact hsz)) ?_
      simp -implicitDefEqProofs
    · have e : stepStage w = (w, false) := by unfold stepStage; rw [if_neg h0, if_pos g1, if_neg hk]
      rw [e]
      generalize (nextStage w.rollout).1 = r
      simp -implicitDefEqProofs [hk]
      refine callQ_of (hC w hsz) ?_
      simp -implicitDefEqProofs
  simp -implicitDefEqProofs [g1]
  by_cases g2 : signalNow w = 2
  · simp -implicitDefEqProofs [g2]
    refine callQ_of (hB w.rollout hr) ?_
    have hs := back_sz w.rollout
    by_cases hk : (backStage w.rollout).2 = true
    · have e : stepStage w = (leave (withRoll w (backStage w.rollout).1), true) := by unfold stepStage; rw [if_neg h0, if_neg g1, if_pos g2, if_pos hk]
      rw [e]
      generalize (backStage w.rollout).1 = r at hs
      simp -implicitDefEqProofs [hk]
      refine callQ_of (hL (withRoll w r) (by rw [withRoll_sz hs]; exact hsz)) ?_
      simp -implicitDefEqProofs
    · have e : stepStage w = (w, false) := by unfold stepStage; rw [if_neg h0, if_neg g1, if_pos g2, if_neg hk]
      rw [e]
      generalize (backStage w.rollout).1 = r
      simp -implicitDefEqProofs [hk]
      refine callQ_of (hC w hsz) ?_
      simp -implicitDefEqProofs
  have e : stepStage w = (w, false) := by unfold stepStage; rw [if_neg h0, if_neg g1, if_neg g2]
  rw [e]
  simp -implicitDefEqProofs [g2]
  refine callQ_of (hC w hsz) ?_
  simp -implicitDefEqProofs
theorem sStepStage_b (D : Dn) (hC : cpWorldS (D gspec_l32Copy)) (hN : SignalNowS (D gspec_SignalNow)) (hX : NextStageS (D gspec_NextStage)) (hE : EnterStageS (D gspec_EnterStage)) (hB : BackStageS (D gspec_BackStage)) (hL : LeaveRolloutS (D gspec_LeaveRollout)) : StepStageS (Body D sspec_StepStage) := by
  intro w hsz
  have hr := world_roll' hsz
  simp -implicitDefEqProofs
  refine callQ_of (hC w hsz) ?_
  by_cases h0 : w.reached = 0
  · have e : stepStage w = (w, false) := by unfold stepStage; rw [if_pos h0]
    simp -implicitDefEqProofs [h0, e]
  simp -implicitDefEqProofs [h0]
  refine callQ_of (hN w hsz) ?_
  by_cases g1 : signalNow w = 1
  · simp -implicitDefEqProofs [g1]
    refine callQ_of (hX w.rollout hr) ?_
    have hs := next_sz w.rollout
    by_cases hk : (nextStage w.rollout).2 = true
    · have e : stepStage w = (enter (withRoll w (nextStage w.rollout).1), true) := by unfold stepStage; rw [if_neg h0, if_pos g1, if_pos hk]
      rw [e]
      generalize (nextStage w.rollout).1 = r at hs
      simp -implicitDefEqProofs [hk]
      refine callQ_of (hE (withRoll w r) (by rw [withRoll_sz hs]; exact hsz)) ?_
      simp -implicitDefEqProofs
    · have e : stepStage w = (w, false) := by unfold stepStage; rw [if_neg h0, if_pos g1, if_neg hk]
      rw [e]
      generalize (nextStage w.rollout).1 = r
      simp -implicitDefEqProofs [hk]
  simp -implicitDefEqProofs [g1]
  by_cases g2 : signalNow w = 2
  · simp -implicitDefEqProofs [g2]
    refine callQ_of (hB w.rollout hr) ?_
    have hv := back_ver w.rollout
    by_cases hk : (backStage w.rollout).2 = true
    · have e : stepStage w = (withRoll (leave w) (backStage w.rollout).1, true) := by unfold stepStage; rw [if_neg h0, if_neg g1, if_pos g2, if_pos hk, leave_roll hv]
      rw [e]
      generalize (backStage w.rollout).1 = r
      simp -implicitDefEqProofs [hk]
      refine callQ_of (hL w hsz) ?_
      simp -implicitDefEqProofs [withRoll]
    · have e : stepStage w = (w, false) := by unfold stepStage; rw [if_neg h0, if_neg g1, if_pos g2, if_neg hk]
      rw [e]
      generalize (backStage w.rollout).1 = r
      simp -implicitDefEqProofs [hk]
  have e : stepStage w = (w, false) := by unfold stepStage; rw [if_neg h0, if_neg g1, if_neg g2]
  rw [e]
  simp -implicitDefEqProofs [g2]
theorem stepStage_sz (w : World) : szWorld (stepStage w).1 ≤ szWorld w + w.ends.length := by
  unfold stepStage
  split
  · dsimp only; omega
  · split
    · split
      · have h1 := enter_sz (withRoll w (nextStage w.rollout).1)
        rw [withRoll_sz (next_sz _)] at h1
        exact h1
      · dsimp only; omega
    · split
      · split
        · have h1 := leave_sz (withRoll w (backStage w.rollout).1)
          rw [withRoll_sz (back_sz _)] at h1
          dsimp only
          omega
        · dsimp only; omega
      · dsimp only; omega
end Go.Eng.T

namespace Go.Eng.T
def slaws_FnExactStepStage_r0 : Reg :=
  { id := 0, ops := [{ op := .box 0 (.slot 0) },
      { op := .mv (.con (.sc (.bool false))) }], sets := [(1, 0)], clr := [0, 2] }
def slaws_FnExactStepStage_r1 : Reg :=
  { id := 1, ops := [{ op := .mv (.con (.sc (.int .i64 1048576))) }], sets := [(3, 0)] }
def slaws_FnExactStepStage_r2 : Reg :=
  { id := 2, ops := [{ op := .load (some 15) (.slot 1) },
      { op := .mv (.slot 3) },
      { op := .call 7 [(false, .loc 0), (false, .loc 1)] [] },
      { op := .mv (.loc 2) }], sets := [(3, 3)] }
def slaws_FnExactStepStage_r3 : Reg :=
  { id := 3, ops := [{ op := .mv (.slot 3) },
      { op := .bin .lss (.loc 0) (.con (.sc (.int .i64 0))) }], sets := [(14, 1)], clr := [3] }
def slaws_FnExactStepStage_r4 : Reg :=
  { id := 4, ops := [{ op := .mv (.con (.sc (.bool true))) }], sets := [(2, 0)], clr := [1] }
def slaws_FnExactStepStage_r5 : Reg :=
  { id := 5, ops := [{ op := .load (some 15) (.slot 1) },
      { op := .call 8 [(false, .loc 0)] [1, 2, 3, 4, 5, 6] },
      { op := .call 75 [(false, .loc 1)] [7, 8, 9, 10, 11, 12] },
      { op := .mv (.loc 2) },
      { op := .extract (.loc 3) 0 },
      { op := .extract (.loc 3) 1 },
      { op := .alloc 13 [.nil 1, .nil 1, .sc (.int .i64 0), .nil 4, .sc (.int .i64 0), .nil 1, .sc (.int .i64 0), .sc (.bool false), .sc (.int .i64 0), .sc (.int .i64 0), .nil 5, .nil 8, .sc (.int .i64 0), .sc (.int .i64 0), .sc (.int .i64 0)] },
      { op := .store 15 (.loc 6) (.loc 4) },
      { op := .mv (.loc 5) }], sets := [(4, 6), (5, 8)] }
def slaws_FnExactStepStage_r6 : Reg :=
  { id := 6, ops := [{ op := .load (some 15) (.slot 1) },
      { op := .call 8 [(false, .loc 0)] [14, 15, 16, 17, 18, 19] },
      { op := .alloc 20 [.nil 1, .nil 1, .sc (.int .i64 0), .nil 4, .sc (.int .i64 0), .nil 1, .sc (.int .i64 0), .sc (.bool false), .sc (.int .i64 0), .sc (.int .i64 0), .nil 5, .nil 8, .sc (.int .i64 0), .sc (.int .i64 0), .sc (.int .i64 0)] },
      { op := .store 15 (.loc 2) (.loc 1) }], sets := [(6, 2)] }
def slaws_FnExactStepStage_r7 : Reg :=
  { id := 7, ops := [{ op := .load (some 15) (.slot 6) },
      { op := .call 108 [(false, .loc 0)] [21, 22, 23, 24, 25, 26] },
      { op := .mv (.loc 1) },
      { op := .extract (.loc 2) 0 },
      { op := .extract (.loc 2) 1 },
      { op := .alloc 27 [.nil 1, .nil 1, .sc (.int .i64 0), .nil 4, .sc (.int .i64 0), .nil 1, .sc (.int .i64 0), .sc (.bool false), .sc (.int .i64 0), .sc (.int .i64 0), .nil 5, .nil 8, .sc (.int .i64 0), .sc (.int .i64 0), .sc (.int .i64 0)] },
      { op := .store 15 (.loc 5) (.loc 3) },
      { op := .mv (.loc 4) }], sets := [(7, 5), (8, 7)] }
def slaws_FnExactStepStage_r8 : Reg :=
  { id := 8, ops := [{ op := .load (some 15) (.slot 7) },
      { op := .load (some 15) (.slot 4) },
      { op := .call 11 [(false, .loc 0), (false, .loc 1)] [] },
      { op := .un .not (.loc 2) },
      { op := .mv (.loc 3) },
      { op := .mv (.slot 8), guard := some (4, false) },
      { op := .mv (.slot 5), guard := some (4, false) },
      { op := .beq true (.loc 5) (.loc 6), guard := some (4, false) },
      { op := .pick (.loc 4) (.con (.sc (.bool true))) (.loc 7) }], sets := [(15, 8)] }
def slaws_FnExactStepStage_r9 : Reg :=
  { id := 9, ops := [{ op := .mv (.con (.sc (.bool false))) }], sets := [(2, 0)], clr := [1, 4, 5, 6, 7, 8] }
def slaws_FnExactStepStage_r10 : Reg :=
  { id := 10, draw := true, ops := [{ op := .load (some 15) (.slot 6), tau := some [20], om := [] },
      { op := .load (some 15) (.slot 1), tau := some [0], om := [] },
      { op := .call 8 [(false, .loc 1)] [28, 29, 30, 31, 32, 33], tau := some [28, 29, 30, 31, 32, 33], om := [28, 29, 30, 31, 32, 33] },
      { op := .call 11 [(false, .loc 0), (false, .loc 2)] [], tau := some [14, 15, 16, 17, 18, 19, 28, 29, 30, 31, 32, 33], om := [] },
      { op := .un .not (.loc 3), tau := some [], om := [] }], sets := [(16, 4)] }
def slaws_FnExactStepStage_r11 : Reg :=
  { id := 11, ops := [{ op := .mv (.con (.sc (.bool false))) }], sets := [(2, 0)], clr := [1, 4, 5, 6, 7, 8] }
def slaws_FnExactStepStage_r12 : Reg :=
  { id := 12, ops := [{ op := .mv (.con (.sc (.int .i64 1))) }], sets := [(9, 0)] }
def slaws_FnExactStepStage_r13 : Reg :=
  { id := 13, ops := [{ op := .load (some 15) (.slot 6) },
      { op := .mv (.slot 9) },
      { op := .call 12 [(true, .loc 0), (false, .loc 1)] [] },
      { op := .mv (.loc 2) }], sets := [(9, 3)], clr := [6] }
def slaws_FnExactStepStage_r14 : Reg :=
  { id := 14, ops := [{ op := .mv (.slot 9) },
      { op := .bin .lss (.loc 0) (.con (.sc (.int .i64 0))) },
      { op := .mv (.loc 1) },
      { op := .load (some 15) (.slot 7), guard := some (2, false) },
      { op := .load (some 15) (.slot 4), guard := some (2, false) },
      { op := .call 11 [(false, .loc 3), (false, .loc 4)] [], guard := some (2, false) },
      { op := .un .not (.loc 5), guard := some (2, false) },
      { op := .pick (.loc 2) (.con (.sc (.bool true))) (.loc 6) },
      { op := .mv (.loc 7) },
      { op := .mv (.slot 8), guard := some (8, false) },
      { op := .mv (.slot 5), guard := some (8, false) },
      { op := .beq true (.loc 9) (.loc 10), guard := some (8, false) },
      { op := .pick (.loc 8) (.con (.sc (.bool true))) (.loc 11) }], sets := [(17, 12)], clr := [8, 9] }
def slaws_FnExactStepStage_r15 : Reg :=
  { id := 15, ops := [{ op := .mv (.con (.sc (.bool false))) }], sets := [(2, 0)], clr := [1, 4, 5, 7] }
def slaws_FnExactStepStage_r16 : Reg :=
  { id := 16, ops := [{ op := .mv (.con (.sc (.int .i64 1))) }], sets := [(10, 0)] }
def slaws_FnExactStepStage_r17 : Reg :=
  { id := 17, ops := [{ op := .load (some 15) (.slot 7) },
      { op := .mv (.slot 10) },
      { op := .call 12 [(true, .loc 0), (false, .loc 1)] [] },
      { op := .mv (.loc 2) }], sets := [(10, 3)] }
def slaws_FnExactStepStage_r18 : Reg :=
  { id := 18, ops := [{ op := .mv (.con (.sc (.int .i64 1))) }], sets := [(11, 0)] }
def slaws_FnExactStepStage_r19 : Reg :=
  { id := 19, ops := [{ op := .load (some 15) (.slot 7) },
      { op := .mv (.slot 11) },
      { op := .call 13 [(false, .loc 0), (false, .loc 1)] [] },
      { op := .mv (.loc 2) }], sets := [(11, 3)] }
def slaws_FnExactStepStage_r20 : Reg :=
  { id := 20, ops := [{ op := .mv (.slot 11) },
      { op := .bin .lss (.loc 0) (.con (.sc (.int .i64 0))) }], sets := [(18, 1)] }
def slaws_FnExactStepStage_r21 : Reg :=
  { id := 21, ops := [{ op := .mv (.con (.sc (.bool false))) }], sets := [(2, 0)], clr := [1, 4, 5, 7, 10, 11] }
def slaws_FnExactStepStage_r22 : Reg :=
  { id := 22, ops := [{ op := .mv (.slot 11) },
      { op := .mv (.slot 10) },
      { op := .bin .neq (.loc 0) (.loc 1) }], sets := [(19, 2)], clr := [11] }
def slaws_FnExactStepStage_r23 : Reg :=
  { id := 23, ops := [{ op := .mv (.con (.sc (.bool false))) }], sets := [(2, 0)], clr := [1, 4, 5, 7, 10] }
def slaws_FnExactStepStage_r24 : Reg :=
  { id := 24, ops := [{ op := .load (some 15) (.slot 1) },
      { op := .call 8 [(false, .loc 0)] [34, 35, 36, 37, 38, 39] },
      { op := .call 108 [(false, .loc 1)] [40, 41, 42, 43, 44, 45] },
      { op := .mv (.loc 2) },
      { op := .extract (.loc 3) 0 },
      { op := .extract (.loc 3) 1 },
      { op := .alloc 46 [.nil 1, .nil 1, .sc (.int .i64 0), .nil 4, .sc (.int .i64 0), .nil 1, .sc (.int .i64 0), .sc (.bool false), .sc (.int .i64 0), .sc (.int .i64 0), .nil 5, .nil 8, .sc (.int .i64 0), .sc (.int .i64 0), .sc (.int .i64 0)] },
      { op := .store 15 (.loc 6) (.loc 4) },
      { op := .mv (.loc 5) }], sets := [(12, 6), (13, 8)], clr := [1] }
def slaws_FnExactStepStage_r25 : Reg :=
  { id := 25, ops := [{ op := .load (some 15) (.slot 12) },
      { op := .load (some 15) (.slot 4) },
      { op := .call 11 [(false, .loc 0), (false, .loc 1)] [] },
      { op := .un .not (.loc 2) },
      { op := .mv (.loc 3) },
      { op := .mv (.slot 13), guard := some (4, false) },
      { op := .mv (.slot 5), guard := some (4, false) },
      { op := .beq true (.loc 5) (.loc 6), guard := some (4, false) },
      { op := .pick (.loc 4) (.con (.sc (.bool true))) (.loc 7) }], sets := [(20, 8)], clr := [4, 5, 12, 13] }
def slaws_FnExactStepStage_r26 : Reg :=
  { id := 26, ops := [{ op := .mv (.con (.sc (.bool false))) }], sets := [(2, 0)], clr := [7, 10] }
def slaws_FnExactStepStage_r27 : Reg :=
  { id := 27, ops := [{ op := .mv (.con (.sc (.int .i64 1))) }], sets := [(11, 0)] }
def slaws_FnExactStepStage_r28 : Reg :=
  { id := 28, ops := [{ op := .load (some 15) (.slot 7) },
      { op := .mv (.slot 11) },
      { op := .call 13 [(false, .loc 0), (false, .loc 1)] [] },
      { op := .mv (.loc 2) }], sets := [(11, 3)], clr := [7] }
def slaws_FnExactStepStage_r29 : Reg :=
  { id := 29, ops := [{ op := .mv (.slot 11) },
      { op := .bin .lss (.loc 0) (.con (.sc (.int .i64 0))) }], sets := [(21, 1)] }
def slaws_FnExactStepStage_r30 : Reg :=
  { id := 30, ops := [{ op := .mv (.con (.sc (.bool false))) }], sets := [(2, 0)], clr := [10, 11] }
def slaws_FnExactStepStage_r31 : Reg :=
  { id := 31, ops := [{ op := .mv (.slot 11) },
      { op := .mv (.slot 10) },
      { op := .bin .neq (.loc 0) (.loc 1) }], sets := [(22, 2)], clr := [10, 11] }
def slaws_FnExactStepStage_r32 : Reg :=
  { id := 32, ops := [{ op := .mv (.con (.sc (.bool false))) }], sets := [(2, 0)] }
def slaws_FnExactStepStage_r33 : Reg :=
  { id := 33, ops := [{ op := .mv (.con (.sc (.bool true))) }], sets := [(2, 0)] }
def slaws_FnExactStepStage_b : SC := .seq (.reg slaws_FnExactStepStage_r0) (.seq (.reg slaws_FnExactStepStage_r1) (.seq (.reg slaws_FnExactStepStage_r2) (.seq (.seq (.reg slaws_FnExactStepStage_r3) (.cond 14 (.seq (.reg slaws_FnExactStepStage_r4) (.ret)) (.skip))) (.seq (.reg slaws_FnExactStepStage_r5) (.seq (.reg slaws_FnExactStepStage_r6) (.seq (.reg slaws_FnExactStepStage_r7) (.seq (.seq (.reg slaws_FnExactStepStage_r8) (.cond 15 (.seq (.reg slaws_FnExactStepStage_r9) (.ret)) (.skip))) (.seq (.seq (.reg slaws_FnExactStepStage_r10) (.cond 16 (.seq (.reg slaws_FnExactStepStage_r11) (.ret)) (.skip))) (.seq (.reg slaws_FnExactStepStage_r12) (.seq (.reg slaws_FnExactStepStage_r13) (.seq (.seq (.reg slaws_FnExactStepStage_r14) (.cond 17 (.seq (.reg slaws_FnExactStepStage_r15) (.ret)) (.skip))) (.seq (.reg slaws_FnExactStepStage_r16) (.seq (.reg slaws_FnExactStepStage_r17) (.seq (.reg slaws_FnExactStepStage_r18) (.seq (.reg slaws_FnExactStepStage_r19) (.seq (.seq (.reg slaws_FnExactStepStage_r20) (.cond 18 (.seq (.reg slaws_FnExactStepStage_r21) (.ret)) (.skip))) (.seq (.seq (.reg slaws_FnExactStepStage_r22) (.cond 19 (.seq (.reg slaws_FnExactStepStage_r23) (.ret)) (.skip))) (.seq (.reg slaws_FnExactStepStage_r24) (.seq (.seq (.reg slaws_FnExactStepStage_r25) (.cond 20 (.seq (.reg slaws_FnExactStepStage_r26) (.ret)) (.skip))) (.seq (.reg slaws_FnExactStepStage_r27) (.seq (.reg slaws_FnExactStepStage_r28) (.seq (.seq (.reg slaws_FnExactStepStage_r29) (.cond 21 (.seq (.reg slaws_FnExactStepStage_r30) (.ret)) (.skip))) (.seq (.seq (.reg slaws_FnExactStepStage_r31) (.cond 22 (.seq (.reg slaws_FnExactStepStage_r32) (.ret)) (.skip))) (.seq (.reg slaws_FnExactStepStage_r33) (.ret)))))))))))))))))))))))))
def slaws_FnExactStepStage : SFn := { nslots := 23, nobjs := 47, params := [0], ngiven := 0, bor := false, takes := [], body := slaws_FnExactStepStage_b, results := [.slot 2] }
def slaws_FnExactStepStage_t : List Tmp := [0, 1, 2, 3, 4, 5, 6, 7, 8, 9, 10, 11, 12, 13, 18, 40, 45, 61, 69, 72, 87, 92, 95]
attribute [simp] slaws_FnExactStepStage_r0 slaws_FnExactStepStage_r1 slaws_FnExactStepStage_r2 slaws_FnExactStepStage_r3 slaws_FnExactStepStage_r4 slaws_FnExactStepStage_r5 slaws_FnExactStepStage_r6 slaws_FnExactStepStage_r7 slaws_FnExactStepStage_r8 slaws_FnExactStepStage_r9 slaws_FnExactStepStage_r10 slaws_FnExactStepStage_r11 slaws_FnExactStepStage_r12 slaws_FnExactStepStage_r13 slaws_FnExactStepStage_r14 slaws_FnExactStepStage_r15 slaws_FnExactStepStage_r16 slaws_FnExactStepStage_r17 slaws_FnExactStepStage_r18 slaws_FnExactStepStage_r19 slaws_FnExactStepStage_r20 slaws_FnExactStepStage_r21 slaws_FnExactStepStage_r22 slaws_FnExactStepStage_r23 slaws_FnExactStepStage_r24 slaws_FnExactStepStage_r25 slaws_FnExactStepStage_r26 slaws_FnExactStepStage_r27 slaws_FnExactStepStage_r28 slaws_FnExactStepStage_r29 slaws_FnExactStepStage_r30 slaws_FnExactStepStage_r31 slaws_FnExactStepStage_r32 slaws_FnExactStepStage_r33 slaws_FnExactStepStage_b slaws_FnExactStepStage
end Go.Eng.T

namespace Go.Eng.T
set_option maxRecDepth 20000
set_option maxHeartbeats 2000000
abbrev FnExactEnterStageS (R : Rel) : Prop := ∀ (aW : World), lnWorld aW → rgWorld aW → R [arg (eWorld aW)] [] (B true) []
abbrev FnExactHurtEndsS (R : Rel) : Prop := ∀ (aW : World), lnWorld aW → rgWorld aW → R [arg (eWorld aW)] [] (B true) []
abbrev FnExactStepStartS (R : Rel) : Prop := ∀ (aW : World), lnWorld aW → rgWorld aW → R [arg (eWorld aW)] [] (B true) []
abbrev FnExactIsBoundedS (R : Rel) : Prop := ∀ (aW : World), lnWorld aW → rgWorld aW → R [arg (eWorld aW)] [] (B true) []
abbrev FnExactStepReviveS (R : Rel) : Prop := ∀ (aW : World) (aV : Int), lnWorld aW → rgWorld aW → rgI aV → R [arg (eWorld aW), I aV] [] (B true) []
abbrev FnExactStepStageS (R : Rel) : Prop := ∀ (aW : World), lnWorld aW → rgWorld aW → R [arg (eWorld aW)] [] (B true) []
theorem FnExactStepStage_b (D : Dn) (hs : StepStageS (D gspec_StepStage)) (hi : StepStageS (D gimpl_StepStage)) (hszWorld : szWorldS (D glaws_szWorld)) (htoWorld : toWorldS (D glaws_toWorld)) (heqWorld : eqWorldS (D glaws_eqWorld)) (hmarkWorld : markWorldS (D glaws_markWorld)) (hheldWorld : heldWorldS (D glaws_heldWorld)) : FnExactStepStageS (Body D slaws_FnExactStepStage) := by
  intro aW l_aW w_aW
  simp -implicitDefEqProofs []
  refine callQ_of (hszWorld aW ((1048576 : Int)) (by omega) (by omega) l_aW) ?_
  by_cases g1 : (1048576 : Int) < ((szWorld aW : Nat) : Int)
  · simp -implicitDefEqProofs [szl_lt g1]
  have p1 : ¬ (1048576 : Int) - ((szWorld aW : Nat) : Int) < 0 := by omega
  simp -implicitDefEqProofs [szl_ge g1, p1]
  have hs' := hs aW (by omega)
  have hi' := hi aW (by omega)
  obtain ⟨b0, c0⟩ : szWorld ((stepStage aW).1) ≤ 1099511627776 ∧ mcWorld ((stepStage aW).1) ≤ 1099511627776 := (by have a1 := stepStage_sz aW; have a2 := mc_szWorld ((stepStage aW).1); have a3 := world_ends (w := aW) (by omega); omega)
  generalize (stepStage aW).1 = r0 at hs' hi' b0 c0
  refine callQ_of (htoWorld aW (by omega)) ?_
  simp -implicitDefEqProofs [szl_ge g1, p1]
  refine callQ_of (hs') ?_
  simp -implicitDefEqProofs [szl_ge g1, p1]
  refine callQ_of (htoWorld aW (by omega)) ?_
  simp -implicitDefEqProofs [szl_ge g1, p1]
  refine callQ_of (hi') ?_
  simp -implicitDefEqProofs [szl_ge g1, p1]
  refine callQ_of (heqWorld r0 r0 (by omega) (by omega)) ?_
  simp -implicitDefEqProofs [szl_ge g1, p1]
  refine callQ_of (htoWorld aW (by omega)) ?_
  simp -implicitDefEqProofs [szl_ge g1, p1]
  refine callQ_of (heqWorld aW aW (by omega) (by omega)) ?_
  simp -implicitDefEqProofs [szl_ge g1, p1]
  have qaW := mc_szWorld aW
  have pkaW : ¬ 1 + ((mcWorld aW : Nat) : Int) < 0 := by omega
  refine callQ_of (hmarkWorld aW (1) (by omega) (by omega)) ?_
  simp -implicitDefEqProofs [szl_ge g1, p1, pkaW, mkWorld, mkRollout]
  refine callQ_of (heqWorld r0 r0 (by omega) (by omega)) ?_
  simp -implicitDefEqProofs [szl_ge g1, p1, pkaW, mkWorld, mkRollout]
  refine callQ_of (hmarkWorld r0 (1) (by omega) (by omega)) ?_
  simp -implicitDefEqProofs [szl_ge g1, p1, pkaW, mkWorld, mkRollout]
  have pq0 : ¬ 1 + ((mcWorld r0 : Nat) : Int) < 0 := by omega
  have hr := hheldWorld r0 (1) (by omega) (by omega)
  simp -implicitDefEqProofs [mkWorld, mkRollout] at hr
  refine callQ_of (hr) ?_
  simp -implicitDefEqProofs [szl_ge g1, p1, pkaW, mkWorld, mkRollout, pq0]
  refine callQ_of (htoWorld aW (by omega)) ?_
  simp -implicitDefEqProofs [szl_ge g1, p1, pkaW, mkWorld, mkRollout, pq0]
  refine callQ_of (hi') ?_
  simp -implicitDefEqProofs [szl_ge g1, p1, pkaW, mkWorld, mkRollout, pq0]
  refine callQ_of (heqWorld r0 r0 (by omega) (by omega)) ?_
  simp -implicitDefEqProofs [szl_ge g1, p1, pkaW, mkWorld, mkRollout, pq0]
  have hr := hheldWorld r0 (1) (by omega) (by omega)
  simp -implicitDefEqProofs [mkWorld, mkRollout] at hr
  refine callQ_of (hr) ?_
  simp -implicitDefEqProofs [szl_ge g1, p1, pkaW, mkWorld, mkRollout, pq0]
end Go.Eng.T

namespace Go.Eng
open Go.Lib Go.RowKit

/-- what is read only -/
inductive RdArgs (fid : Nat → Option FuncId) (w : World) : List V → List Value → Prop where
  | nil : RdArgs fid w [] []
  | sc {v : Value} {azs : List V} {xs : List Value} (h : RdArgs fid w azs xs) : RdArgs fid w (.sc v :: azs) (v :: xs)
  | sl {e len : Nat} {cells : List V} {x : Value} {azs : List V} {xs : List Value} (h1 : Rd fid w (· < w.heap.size) (.sl 1 e len cells) x) (h : RdArgs fid w azs xs) : RdArgs fid w (.sl 1 e len cells :: azs) (x :: xs)

def plainA : V → Prop
  | .sc _ => True
  | .sl 1 _ _ _ => True
  | _ => False

theorem rdArgs_of {F : Fr} {w : World} {β : Nat → Base} {own : Nat → Option (Nat × List Nat)} {H : Hp} (hw : w = F.w0) : ∀ {azs : List V} {xs : List Value}, (∀ a, a ∈ azs → plainA a) → Pw (VR F β own H w) azs xs → RdArgs F.fid w azs xs
  | [], xs, _, h => by rw [h.unnil]; exact .nil
  | a :: azs, xs, hp, h => by
    obtain ⟨x, r, rfl, h1, h2⟩ := h.uncons
    have ih := rdArgs_of hw (fun a ha => hp a (List.mem_cons_of_mem _ ha)) h2
    have ha := hp a (by simp)
    cases h1 with
    | sc h => exact .sc ih
    | @rd fl e len cells _ h3 h =>
      match fl, ha, h with
      | 1, _, h => exact .sl (Rd.move h (fun b hb => by rw [hw]; exact hb.1) (fun _ _ => rfl)) ih
    | _ => exact absurd ha (by simp [plainA])

theorem den_read {P : Program} {fid : Nat → Option FuncId} {G : Gl} {g : Nat} {args : List V} {v : Value} (hv : v.oneCell' = true) (hp' : ∀ a, a ∈ args → plainA a)
    (h : ∀ id, fid g = some id → ∀ w : World, (∀ b, G b → b < w.heap.size ∧ w.heap[b]? = G.is b) → ∀ xs, RdArgs fid w args xs → Calls P id xs.toArray w fun e w' => e = .returned v ∧ Below w.heap.size w w') : Den P fid G g args [] (.sc v) [] := by
  intro id hid F hF hG hb ht hn inv xs hx
  have hr := rdArgs_of (F := F) rfl hp' hx
  rw [hF] at hr
  refine (h id hid F.w0 (fun b hb => ?_) xs hr).mono fun e w' ⟨he, hw⟩ => ?_
  · have := inv.glob b (by rw [hG]; exact hb)
    exact ⟨this.1, by rw [← hG]; exact this.2.2⟩
  · subst he
    refine ⟨F.own0, ⟨hw.size, hw.os, hw.tape, hw.output, fun b hb _ => hw.block b hb, fun b p hb => ⟨Nat.lt_of_lt_of_le (inv.ownb b p hb).1 hw.size, fun _ => ?_⟩, .sc hv, hn.symm, fun i o hi => ?_⟩⟩
    · rw [hb]; simp
    · simp at hi

theorem below_grow {w : World} {k : Nat} {os : Array Obj} : Below w.heap.size w (Sort.grow (w.drewN k) os) :=
  ⟨rfl, rfl, rfl, by simp [Sort.grow, World.drewN], fun b hb => by simp [Sort.grow, World.drewN, Array.getElem?_append, hb]⟩

/-- a table that nobody writes reads azs it did -/
theorem tab_same {P : Program} {W w : World} {name : String} {k : IntKind} {zs : List Int} {b : Nat} (hg : P.globalNamed name = some b) (h : TabIs P W name k zs) (he : w.heap[b]? = W.heap[b]?) : TabIs P w name k zs := by
  unfold TabIs World.var? at *
  rw [hg] at h ⊢
  simp only [Option.bind_some] at h ⊢
  rw [he]
  exact h
theorem tab_of_laid {P : Program} {W : World} {name : String} {k : IntKind} {zs : List Int} {rest : List (String × DataW Unit)} {g : Nat} {t e : TypeId} {n : Nat} {ps : List MemPlace}
    (hg : P.globalNamed name = some g) (hty : (P.globals[g]?).map (·.type) = some t) (ht : P.underlying t = some (.array n e)) (he : P.underlying e = some (.int k)) (hce : P.cellsOf e = 1) (hct : P.cellsOf t = n)
    (h : DataW.LaidVars P W ((name, tabData k zs) :: rest) ps) : TabIs P W name k zs := by
  obtain ⟨g', t', cs, fuel, p, q, hg', ht', hvar, hd, _, _⟩ := h
  obtain rfl := Option.some.inj (hg.symm.trans hg')
  obtain rfl := Option.some.inj (hty.symm.trans ht')
  unfold TabIs
  rw [hvar, ← cells_of_tab ht he hce hct hd]
theorem laid_tail {P : Program} {W : World} {x : String × DataW Unit} {rest : List (String × DataW Unit)} {ps : List MemPlace} (h : DataW.LaidVars P W (x :: rest) ps) : ∃ q, DataW.LaidVars P W rest q := by
  obtain ⟨g', t', cs, fuel, p, q, hg', ht', hvar, hd, hr, _⟩ := h
  exact ⟨q, hr⟩
theorem tab_third {P : Program} {W : World} {name : String} {k : IntKind} {zs : List Int} {a b : String × DataW Unit} {rest : List (String × DataW Unit)} {g : Nat} {t e : TypeId} {n : Nat}
    (hg : P.globalNamed name = some g) (hty : (P.globals[g]?).map (·.type) = some t) (ht : P.underlying t = some (.array n e)) (he : P.underlying e = some (.int k)) (hce : P.cellsOf e = 1) (hct : P.cellsOf t = n)
    (h : laidMet P (a :: b :: (name, tabData k zs) :: rest) W) : TabIs P W name k zs := by
  obtain ⟨ps, h1, _⟩ := h
  obtain ⟨q1, h2⟩ := laid_tail h1
  obtain ⟨q2, h3⟩ := laid_tail h2
  exact tab_of_laid hg hty ht he hce hct h3
theorem tab_size {P : Program} {W : World} {name : String} {k : IntKind} {zs : List Int} {b : Nat} (hg : P.globalNamed name = some b) (h : TabIs P W name k zs) : b < W.heap.size := by
  unfold TabIs World.var? at h
  rw [hg] at h
  simp only [Option.bind_some] at h
  by_cases hb : b < W.heap.size
  · exact hb
  · rw [Array.getElem?_eq_none (by omega)] at h; cases h
end Go.Eng

namespace Go.Eng
open Go.Lib Go.RowKit Go.Sort

def iv (l : List Int) : List Value := l.map (Value.int .i64)
@[simp] theorem iv_len (l : List Int) : (iv l).length = l.length := by simp [iv]
theorem iv_ones (l : List Int) : Ones (iv l) := by
  intro v hv
  simp only [iv, List.mem_map] at hv
  obtain ⟨x, _, rfl⟩ := hv
  rfl

/-- what is as it was beside what is owned -/
structure Kept (F : Fr) (w' : World) : Prop where
  size : F.w0.heap.size ≤ w'.heap.size
  os : w'.os = F.w0.os
  tape : w'.tape = F.w0.tape
  output : w'.output = F.w0.output
  keep : ∀ b, b < F.w0.heap.size → F.own0 b = none → w'.heap[b]? = F.w0.heap[b]?

theorem Kept.refl (F : Fr) : Kept F F.w0 := ⟨Nat.le_refl _, rfl, rfl, rfl, fun _ _ _ => rfl⟩

/-- an array of numbers that is handed over -/
theorem own_ints {F : Fr} {given : List O} {k : Nat} {l : List Int} {x : Value} (inv : Inv F F.β0 F.own0 (hp given) F.w0) (hk : hp given k = .arr 1 0 l.length (T.ints l)) (h : VR F F.β0 F.own0 (hp given) F.w0 (.arr k) x) :
    ∃ a cap, x = .slice a l.length cap ∧ (l.length ≤ cap ∧ cap ≤ 9223372036854775807) ∧ a = (F.β0 k).a ∧ cap = (F.β0 k).cap ∧ (cap = 0 ∨ ∃ b o, a = some ⟨b, o, none⟩ ∧ F.own0 b = some (k, []) ∧ Has F.w0 b o (iv l) cap) := by
  have ho := inv.objs k
  rw [hk] at ho
  obtain ⟨vs, h1, h2, h3, h4, h5⟩ := ho
  have hv : vs = iv l := by
    apply List.ext_getElem?
    intro i
    by_cases hi : i < l.length
    · have hlen : vs.length = l.length := by rw [h1]; simp
      have e1 : vs[i]? = some (vs[i]'(by omega)) := by simp [hlen, hi]
      have := h5 i (.sc (.int .i64 l[i])) _ (by simp [hi]) e1
      rw [e1]
      generalize vs[i]'(by omega) = y at this
      cases this with
      | sc _ => simp [iv, hi]
    · rw [List.getElem?_eq_none (by rw [h1]; simp; omega), List.getElem?_eq_none (by simp; omega)]
  subst hv
  cases h with
  | @arr _ e t len cs he =>
    rw [hk] at he
    simp only [arrOf, Option.some.injEq, Prod.mk.injEq] at he
    obtain ⟨rfl, rfl, rfl, rfl⟩ := he
    refine ⟨_, _, rfl, h3, rfl, rfl, ?_⟩
    rcases h4 with h4 | ⟨b, o, h4, h6, h7⟩
    · exact .inl (by omega)
    · exact .inr ⟨b, o, h4, h6, by rw [Nat.mul_one] at h7; exact h7⟩
  | goneA hd => rw [hk] at hd; cases hd

theorem den_slice {P : Program} {fid : Nat → Option FuncId} {G : Gl} {g : Nat} {args : List V} {given : List O} {l' : List Int}
    (h : ∀ id, fid g = some id → ∀ F : Fr, F.fid = fid → Inv F F.β0 F.own0 (hp given) F.w0 → ∀ xs, Pw (VR F F.β0 F.own0 (hp given) F.w0) args xs →
      Calls P id xs.toArray F.w0 fun e w' => ∃ a cap, e = .returned (.slice a l'.length cap) ∧ (l'.length ≤ cap ∧ cap ≤ 9223372036854775807) ∧ (cap = 0 ∨ ∃ b o, a = some ⟨b, o, none⟩ ∧ Has w' b o (iv l') cap ∧ (b < F.w0.heap.size → F.own0 b ≠ none)) ∧ Kept F w') :
    Den P fid G g args given (.sl 0 1 l'.length (T.ints l')) (given.map fun _ => .dead) := by
  intro id hid F hF hG hb ht hn inv xs hx
  refine (h id hid F hF inv xs hx).mono fun e w' ⟨a, cap, he, hl, hm, hk⟩ => ?_
  subst he
  have hcs : ∀ own (i : Nat) (v : V) (x : Value), (T.ints l')[i]? = some v → (iv l')[i]? = some x → Ow F.fid w' own (fun _ b => F.G b) 0 F.ngiven ([] ++ [i]) v x := by
    intro own i v x h1 h2
    by_cases hi : i < l'.length
    · rw [T.ints_at hi] at h1
      simp only [iv, List.getElem?_map, hi, List.getElem?_eq_getElem, Option.map_some, Option.some.injEq] at h1 h2
      subst h1 h2
      exact .sc rfl
    · rw [List.getElem?_eq_none (by simp; omega)] at h1; cases h1
  rcases hm with hm | ⟨b, o, rfl, hhas, hown⟩
  · refine ⟨fun _ => none, ⟨hk.size, hk.os, hk.tape, hk.output, hk.keep, fun b p h => (by cases h), .own hl (by simp) (by simp) (.inl (by omega)) (hcs _), by simp [hn], fun i o hi => ?_⟩⟩
    simp only [List.getElem?_map, Option.map_eq_some_iff] at hi
    obtain ⟨_, _, rfl⟩ := hi
    trivial
  · refine ⟨fun b' => if b' = b then some (F.ngiven, []) else none, ⟨hk.size, hk.os, hk.tape, hk.output, hk.keep, fun b' p h => ?_, .own hl (by simp) (by simp) (.inr ⟨b, o, rfl, if_pos rfl, by rw [Nat.mul_one]; exact hhas⟩) (hcs _), by simp [hn], fun i o' hi => ?_⟩⟩
    · by_cases e : b' = b
      · subst e; exact ⟨has_lt hhas, hown⟩
      · rw [if_neg e] at h; cases h
    · simp only [List.getElem?_map, Option.map_eq_some_iff] at hi
      obtain ⟨_, _, rfl⟩ := hi
      trivial

/-- the array written over in place -/
theorem den_write {P : Program} {fid : Nat → Option FuncId} {G : Gl} {g : Nat} {l l' : List Int} (hll : l'.length = l.length)
    (h : ∀ id, fid g = some id → ∀ F : Fr, F.fid = fid → Inv F F.β0 F.own0 (hp [.arr 1 0 l.length (T.ints l)]) F.w0 → ∀ a cap, l.length ≤ cap → (cap = 0 ∨ ∃ b o, a = some ⟨b, o, none⟩ ∧ F.own0 b = some (0, []) ∧ Has F.w0 b o (iv l) cap) →
      Calls P id #[.slice a l.length cap] F.w0 fun e w' => e = .returned (.tuple #[]) ∧ (cap = 0 ∨ ∃ b o, a = some ⟨b, o, none⟩ ∧ Has w' b o (iv l') cap) ∧ Kept F w') :
    Den P fid G g [.arr 0] [.arr 1 0 l.length (T.ints l)] (.tup []) [.arr 1 0 l.length (T.ints l')] := by
  intro id hid F hF hG hb ht hn inv xs hx
  obtain ⟨x, r, rfl, h1, h2⟩ := hx.uncons
  obtain rfl := h2.unnil
  obtain ⟨a, cap, rfl, hl, ha, hc, hm⟩ := own_ints inv rfl h1
  refine (h id hid F hF inv a cap hl.1 hm).mono fun e w' ⟨he, hm', hk⟩ => ?_
  subst he
  refine ⟨F.own0, ⟨hk.size, hk.os, hk.tape, hk.output, hk.keep, fun b p h => ⟨Nat.lt_of_lt_of_le (inv.ownb b p h).1 hk.size, fun _ => by rw [h]; simp⟩, .tup (vs := []) rfl (fun i v x h _ => by simp at h), by rw [hn]; rfl, fun i o hi => ?_⟩⟩
  match i, hi with
  | 0, hi =>
    simp only [List.getElem?_cons_zero, Option.some.injEq] at hi
    subst hi
    refine ⟨rfl, iv l', by simp, by simp [hll], by rw [← hc]; exact hl, ?_, ?_⟩
    · rcases hm with hm | ⟨b, o, e1, e2, e3⟩
      · exact .inl (by rw [← hc, hm])
      · rcases hm' with hm' | ⟨b', o', e1', e2'⟩
        · exact .inl (by rw [← hc, hm'])
        · rw [e1] at e1'
          cases e1'
          exact .inr ⟨b, o, by rw [← ha, e1], e2, by rw [← hc, Nat.mul_one]; exact e2'⟩
    · intro i v x h1 h2
      by_cases hi : i < l'.length
      · rw [T.ints_at hi] at h1
        simp only [iv, List.getElem?_map, hi, List.getElem?_eq_getElem, Option.map_some, Option.some.injEq] at h1 h2
        subst h1 h2
        exact .sc rfl
      · rw [List.getElem?_eq_none (by simp; omega)] at h1; cases h1
  | i + 1, hi => simp at hi
end Go.Eng

namespace Go.Eng
open Go.Lib Go.RowKit Go.Sort

theorem map_at (w : World) (b : Nat) (f : Array Value → Array Value) : (mapBlock w b f).heap[b]? = (w.heap[b]?).map (onCells f) := by
  simp [mapBlock, Array.getElem?_modify]
theorem map_off (w : World) {b k : Nat} (f : Array Value → Array Value) (h : k ≠ b) : (mapBlock w b f).heap[k]? = w.heap[k]? := by
  simp [mapBlock, Array.getElem?_modify, Ne.symm h]
theorem map_size (w : World) (b : Nat) (f : Array Value → Array Value) : (mapBlock w b f).heap.size = w.heap.size := by simp [mapBlock]

theorem has_map {w w' : World} {b o n : Nat} {vs vs' : List Value} {f : Array Value → Array Value} (h : Has w b o vs n) (hw : w'.heap[b]? = (w.heap[b]?).map (onCells f)) (hs : ∀ c, (f c).size = c.size)
    (hf : ∀ c : Array Value, o + n ≤ c.size → (∀ i, i < vs.length → c[o + i]? = vs[i]?) → ∀ i, i < vs'.length → (f c)[o + i]? = vs'[i]?) (ho : Ones vs') (hl : vs'.length ≤ n) : Has w' b o vs' n := by
  obtain ⟨_, c, et, hb, h2, h3, h4⟩ := h
  exact ⟨ho, f c, et, by rw [hw, hb]; rfl, by rw [hs]; exact h2, hl, hf c h2 h4⟩

theorem has_holds {w : World} {b o n : Nat} {l : List Int} (h : Has w b o (iv l) n) : Holds (Value.int .i64) w b o l.toArray := by
  intro j hj
  simp only [List.size_toArray] at hj
  have hr := (has_reads h).2 j (by simpa using hj)
  obtain ⟨_, c, et, hb, _, _, _⟩ := h
  refine ⟨?_, ?_⟩
  · rw [hr]
    simp [iv, hj]
  · unfold World.frozen?
    simp only [hb]
    simp

theorem putCells_size {α : Type} [Inhabited α] (enc : α → Value) (o : Nat) (d : Array α) (c : Array Value) : (putCells enc o d c).size = c.size := by simp [putCells]
theorem putCells_at (l : List Int) (o : Nat) (c : Array Value) {i : Nat} (hi : i < l.length) (hc : o + i < c.size) : (putCells (Value.int .i64) o l.toArray c)[o + i]? = (iv l)[i]? := by
  simp only [putCells, Array.getElem?_mapIdx, Array.getElem?_eq_getElem hc, Option.map_some]
  rw [if_pos ⟨by omega, by simp; omega⟩]
  simp [iv, hi]

def sortL (l : List Int) : List Int := l.mergeSort fun x y => decide (x ≤ y)
theorem sortL_len (l : List Int) : (sortL l).length = l.length := by simp [sortL]

theorem sort_den {P : Program} {fid : Nat → Option FuncId} {G : Gl} {g k : Nat} (hid : fid g = some k)
    (h0 : ∀ (p : Option Addr) (cap : Nat) (w : World), Calls P k #[.slice p 0 cap] w fun e w' => e = .returned (.tuple #[]) ∧ w' = w)
    (hc : ∀ (blk off cap : Nat) (zs : List Int) (w : World), Holds (Value.int .i64) w blk off zs.toArray → blk < w.heap.size → zs.length < 4611686018427387904 →
      Calls P k #[.slice (some ⟨blk, off, none⟩) zs.length cap] w fun e w' => e = .returned (.tuple #[]) ∧ ∃ n os, w' = grow (putRow (Value.int .i64) (Sort.ahead w n) blk off (zs.mergeSort fun x y => decide (x ≤ y)).toArray) os)
    (l : List Int) (hl : l.length ≤ 4194304) : Den P fid G g [.arr 0] [.arr 1 0 l.length (T.ints l)] (.tup []) [.arr 1 0 l.length (T.ints (sortL l))] := by
  refine den_write (sortL_len l) fun id hi F hF inv a cap hcap hm => ?_
  rw [hid] at hi
  cases hi
  rcases hm with hm | ⟨b, o, rfl, hown, hhas⟩
  · subst hm
    have : l = [] := List.eq_nil_of_length_eq_zero (by omega)
    subst this
    refine (h0 a 0 F.w0).mono fun e w' ⟨he, hw⟩ => ⟨he, .inl rfl, ?_⟩
    rw [hw]; exact Kept.refl F
  · refine (hc b o cap l F.w0 (has_holds hhas) (has_lt hhas) (by omega)).mono fun e w' ⟨he, n, os, hw⟩ => ⟨he, .inr ⟨b, o, rfl, ?_⟩, ?_⟩
    · refine has_map (f := putCells (Value.int .i64) o (sortL l).toArray) hhas ?_ (putCells_size _ _ _) (fun c h1 _ i h2 => ?_) (iv_ones _) (by simp [sortL_len]; exact hcap)
      · have hb := has_lt hhas
        rw [hw]
        simp only [grow, putRow]
        rw [Array.getElem?_append, if_pos (by rw [map_size]; exact hb), map_at]
        rfl
      · simp only [iv_len] at h2
        exact putCells_at (sortL l) o c h2 (by rw [sortL_len] at h2; omega)
    · rw [hw]
      refine ⟨by simp [grow, putRow, map_size, Sort.ahead], rfl, rfl, rfl, fun b' h1 h2 => ?_⟩
      have hne : b' ≠ b := by intro e; rw [e, hown] at h2; cases h2
      simp only [grow, putRow]
      rw [Array.getElem?_append, if_pos (by rw [map_size]; exact h1), map_off _ _ hne]
      rfl

theorem compact_den {P : Program} {fid : Nat → Option FuncId} {G : Gl} {g k : Nat} (hid : fid g = some k)
    (h0 : ∀ (p : Option Addr) (cap : Nat) (w : World), Calls P k #[.slice p 0 cap] w fun e w' => e = .returned (.slice p 0 cap) ∧ w' = w)
    (hc : ∀ (blk off cap : Nat) (zs : List Int) (w : World), Holds (Value.int .i64) w blk off zs.toArray → zs.length ≤ 9223372036854775807 → zs.length ≤ cap →
      Calls P k #[.slice (some ⟨blk, off, none⟩) zs.length cap] w fun e w' => e = .returned (.slice (some ⟨blk, off, none⟩) (compact zs).length cap) ∧ ∃ q, w' = putRow (Value.int .i64) (Sort.ahead w q) blk off (compact zs ++ List.replicate (zs.length - (compact zs).length) 0).toArray)
    (l : List Int) (hl : l.length ≤ 4194304) (hcl : (compact l).length ≤ l.length) : Den P fid G g [.arr 0] [.arr 1 0 l.length (T.ints l)] (.sl 0 1 (compact l).length (T.ints (compact l))) [.dead] := by
  refine den_slice (given := [.arr 1 0 l.length (T.ints l)]) fun id hi F hF inv xs hx => ?_
  rw [hid] at hi
  cases hi
  obtain ⟨x, r, rfl, h1, h2⟩ := hx.uncons
  obtain rfl := h2.unnil
  obtain ⟨a, cap, rfl, hcap, _, _, hm⟩ := own_ints inv rfl h1
  rcases hm with hm | ⟨b, o, rfl, hown, hhas⟩
  · subst hm
    have : l = [] := List.eq_nil_of_length_eq_zero (by omega)
    subst this
    refine (h0 a 0 F.w0).mono fun e w' ⟨he, hw⟩ => ⟨a, 0, he, ⟨Nat.le_refl _, by omega⟩, .inl rfl, ?_⟩
    rw [hw]; exact Kept.refl F
  · refine (hc b o cap l F.w0 (has_holds hhas) (by omega) hcap.1).mono fun e w' ⟨he, q, hw⟩ => ⟨_, cap, he, ⟨by omega, hcap.2⟩, .inr ⟨b, o, rfl, ?_, fun _ => by rw [hown]; simp⟩, ?_⟩
    · refine has_map (f := putCells (Value.int .i64) o (compact l ++ List.replicate (l.length - (compact l).length) 0).toArray) hhas ?_ (putCells_size _ _ _) (fun c h1 _ i h2 => ?_) (iv_ones _) (by simp; omega)
      · rw [hw]
        simp only [putRow]
        rw [map_at]
        rfl
      · simp only [iv_len] at h2
        rw [putCells_at _ o c (by simp; omega) (by omega)]
        simp [iv, List.getElem?_append, h2]
    · rw [hw]
      refine ⟨by simp [putRow, map_size, Sort.ahead], rfl, rfl, rfl, fun b' h1 h2 => ?_⟩
      have hne : b' ≠ b := by intro e; rw [e, hown] at h2; cases h2
      simp only [putRow]
      rw [map_off _ _ hne]
      rfl
end Go.Eng

namespace Go.Eng
open Go.Lib Go.RowKit Go.Sort

def putVs : Nat → List Value → Array Value → Array Value
  | _, [], c => c
  | o, v :: r, c => putVs (o + 1) r (c.setIfInBounds o v)
theorem putVs_size : ∀ (vs : List Value) (o : Nat) (c : Array Value), (putVs o vs c).size = c.size
  | [], _, _ => rfl
  | v :: r, o, c => by rw [putVs, putVs_size r]; simp
theorem putVs_out : ∀ (vs : List Value) (o k : Nat) (c : Array Value), k < o ∨ o + vs.length ≤ k → (putVs o vs c)[k]? = c[k]?
  | [], _, _, _, _ => rfl
  | v :: r, o, k, c, h => by
    simp only [List.length_cons] at h
    rw [putVs, putVs_out r (o + 1) k _ (by omega), Array.getElem?_setIfInBounds, if_neg (by omega)]
theorem putVs_in : ∀ (vs : List Value) (o i : Nat) (c : Array Value), i < vs.length → o + vs.length ≤ c.size → (putVs o vs c)[o + i]? = vs[i]?
  | v :: r, o, 0, c, _, hc => by
    simp only [List.length_cons] at hc
    rw [putVs, putVs_out r (o + 1) (o + 0) _ (by omega), Array.getElem?_setIfInBounds, if_pos (by omega), if_pos (by omega)]
    rfl
  | v :: r, o, i + 1, c, hi, hc => by
    simp only [List.length_cons] at hc hi
    rw [putVs, show o + (i + 1) = o + 1 + i by omega, putVs_in r (o + 1) i _ (by omega) (by simp; omega)]
    simp
theorem setCells_map (b : Nat) : ∀ (vs : List Value) (o : Nat) (w : World), w.setCells b o vs = mapBlock w b (putVs o vs)
  | [], o, w => (mapBlock_id w b _ fun _ _ _ _ => rfl).symm
  | v :: r, o, w => by
    rw [World.setCells, setCells_map b r, setCell_eq, mapBlock_mapBlock]
    rfl

def insL (l : List Int) (i : Nat) (v : Int) : List Int := l.take i ++ v :: l.drop i
theorem insL_len {l : List Int} {i : Nat} {v : Int} (hi : i ≤ l.length) : (insL l i v).length = l.length + 1 := by simp [insL]; omega
theorem insL_get {l : List Int} {i j : Nat} {v : Int} (hi : i ≤ l.length) : (insL l i v)[j]? = if j < i then l[j]? else if j = i then some v else l[j - 1]? := by
  unfold insL
  have hm : min i l.length = i := by omega
  rw [List.getElem?_append]
  simp only [List.length_take, hm]
  split
  · rename_i h; rw [List.getElem?_take, if_pos h]
  · split
    · rename_i h1 h2; subst h2; simp
    · rename_i h1 h2
      obtain ⟨d, rfl⟩ : ∃ d, j = i + (d + 1) := ⟨j - i - 1, by omega⟩
      rw [show i + (d + 1) - i = d + 1 by omega, List.getElem?_cons_succ, List.getElem?_drop]
      congr 1
theorem iv_get {l : List Int} {j : Nat} : (iv l)[j]? = (l[j]?).map (Value.int .i64) := by simp [iv]
theorem iv_ins {l : List Int} {i j : Nat} {v : Int} (hi : i ≤ l.length) : (iv (insL l i v))[j]? = if j < i then (iv l)[j]? else if j = i then some (.int .i64 v) else (iv l)[j - 1]? := by
  rw [iv_get, insL_get hi]
  split
  · rw [iv_get]
  · split
    · rfl
    · rw [iv_get]

/-- the facts that the kit's contracts ask of a row that is handed over -/
theorem has_cell {w : World} {b o n : Nat} {vs : List Value} (h : Has w b o vs n) {j : Nat} {v : Value} (hj : vs[j]? = some v) : w.cell? ⟨b, o + j, none⟩ = some v := by
  have hl := (List.getElem?_eq_some_iff.1 hj).1
  rw [(has_reads h).2 j hl, hj]
theorem has_some {w : World} {b o n : Nat} {vs : List Value} (h : Has w b o vs n) {j : Nat} (hj : j < n) : (w.cell? ⟨b, o + j, none⟩).isSome = true := by
  obtain ⟨_, c, et, hb, h2, _, _⟩ := h
  unfold World.cell?
  simp only [hb]
  have : o + j < c.size := by omega
  simp [this]
theorem has_warm {w : World} {b o n : Nat} {vs : List Value} (h : Has w b o vs n) (x : Nat) : w.frozen? ⟨b, x, none⟩ = false := by
  obtain ⟨_, c, et, hb, _⟩ := h
  unfold World.frozen?
  simp only [hb]
  simp
theorem has_shape {w : World} {b o n : Nat} {vs : List Value} (h : Has w b o vs n) : ∃ t k, w.shape? b = some (t, k) ∧ o + n ≤ k := by
  obtain ⟨_, c, et, hb, h2, _⟩ := h
  exact ⟨et, c.size, by unfold World.shape?; simp only [hb], h2⟩
theorem ones1 {vs : List Value} (h : Ones vs) : ∀ v ∈ vs, v.oneCell' = true := h
theorem iv1 (v : Int) : iv [v] = [.int .i64 v] := rfl

theorem alloc_at (w : World) (o : Obj) : (w.alloc o).heap[w.heap.size]? = some o := by
  show (w.heap.push o)[w.heap.size]? = some o
  rw [Array.getElem?_push, if_pos rfl]
theorem alloc_off (w : World) (o : Obj) {k : Nat} (h : k < w.heap.size) : (w.alloc o).heap[k]? = w.heap[k]? := by
  show (w.heap.push o)[k]? = w.heap[k]?
  rw [Array.getElem?_push, if_neg (by omega)]
theorem alloc_size (w : World) (o : Obj) : (w.alloc o).heap.size = w.heap.size + 1 := Array.size_push _
theorem zc_size (n : Nat) : (Builtin.zeroCells (Value.int .i64 0).cells n).size = n := by simp [Builtin.zeroCells, Value.cells]

theorem onCells_comp (f g : Array Value → Array Value) (o : Obj) : onCells g (onCells f o) = onCells (fun c => g (f c)) o := by cases o <;> rfl
/-- the cells behind an insertion in place -/
theorem ins_cells {l : List Int} {off i n : Nat} {v : Int} (hi : i ≤ l.length) (hn : l.length + 1 ≤ n) (c : Array Value) (hc : off + n ≤ c.size) (hl : ∀ j, j < i → c[off + j]? = (iv l)[j]?) (j : Nat) (hj : j < l.length + 1) :
    (putVs (off + i) (iv [v]) (putVs (off + (i + 1)) ((iv l).drop i) c))[off + j]? = (iv (insL l i v))[j]? := by
  rw [iv_ins hi]
  by_cases h1 : j < i
  · rw [if_pos h1, putVs_out _ _ _ _ (.inl (by omega)), putVs_out _ _ _ _ (.inl (by omega)), hl j h1]
  · rw [if_neg h1]
    by_cases h2 : j = i
    · subst h2
      rw [if_pos rfl]
      have := putVs_in (iv [v]) (off + j) 0 (putVs (off + (j + 1)) ((iv l).drop j) c) (by simp) (by rw [putVs_size]; simp; omega)
      simp only [Nat.add_zero] at this
      rw [this]; rfl
    · rw [if_neg h2, putVs_out _ _ _ _ (.inr (by simp; omega))]
      have := putVs_in ((iv l).drop i) (off + (i + 1)) (j - (i + 1)) c (by simp; omega) (by simp; omega)
      rw [show off + (i + 1) + (j - (i + 1)) = off + j by omega] at this
      rw [this, List.getElem?_drop]
      congr 1; omega
theorem kept_map {F : Fr} {b : Nat} {f : Array Value → Array Value} {w : World} (hh : w.heap = F.w0.heap) (ho : w.os = F.w0.os) (ht : w.tape = F.w0.tape) (hu : w.output = F.w0.output) (hb : F.own0 b ≠ none) : Kept F (mapBlock w b f) := by
  refine ⟨by rw [map_size, hh]; exact Nat.le_refl _, ho, ht, hu, fun b' h1 h2 => ?_⟩
  have hne : b' ≠ b := by intro e; rw [e] at h2; exact hb h2
  rw [map_off _ _ hne, hh]

theorem insert_den {P : Program} {fid : Nat → Option FuncId} {G : Gl} {g k : Nat} {t3 : TypeId} (hid : fid g = some k)
    (hShift : ∀ (b off n c i vb voff m vc : Nat) (cs vs : List Value) (w : World), i < n → 0 < m → n + m ≤ c → c ≤ 9223372036854775807 → vb ≠ b → cs.length = n → vs.length = m →
      (∀ j v, cs[j]? = some v → w.cell? ⟨b, off + j, none⟩ = some v) → (∀ j, j < n + m → (w.cell? ⟨b, off + j, none⟩).isSome = true) → (∀ j, j < n + m → w.frozen? ⟨b, off + j, none⟩ = false) →
      (∀ j v, vs[j]? = some v → w.cell? ⟨vb, voff + j, none⟩ = some v) → (∀ v ∈ cs, v.oneCell' = true) → (∀ v ∈ vs, v.oneCell' = true) →
      ∀ (tA tB : TypeId) (kA kB : Nat), w.shape? vb = some (tA, kA) → w.shape? b = some (tB, kB) → kB ≠ 0 → w.frozen? ⟨vb, voff, none⟩ = false → w.frozen? ⟨vb, kA, none⟩ = false →
      Calls P k #[.slice (some ⟨b, off, none⟩) n c, .int .i64 i, .slice (some ⟨vb, voff, none⟩) m vc] w fun e w' =>
        e = .returned (.slice (some ⟨b, off, none⟩) (n + m) c) ∧ w' = (w.drew.setCells b (off + (i + m)) (cs.drop i)).setCells b (off + i) vs)
    (hEndRoom : ∀ (b off n c vb voff m vc : Nat) (vs : List Value) (w : World), 0 < m → n + m ≤ c → c ≤ 9223372036854775807 → vs.length = m →
      (∀ j, j < m → (w.cell? ⟨b, off + n + j, none⟩).isSome = true) → (∀ j, j < m → w.frozen? ⟨b, off + n + j, none⟩ = false) →
      (∀ j v, vs[j]? = some v → w.cell? ⟨vb, voff + j, none⟩ = some v) → (∀ v ∈ vs, v.oneCell' = true) →
      Calls P k #[.slice (some ⟨b, off, none⟩) n c, .int .i64 n, .slice (some ⟨vb, voff, none⟩) m vc] w fun e w' =>
        e = .returned (.slice (some ⟨b, off, none⟩) (n + m) c) ∧ w' = w.setCells b (off + n) vs)
    (hEndGrow : ∀ (base : Option Addr) (n c vb voff m vc : Nat) (cs vs : List Value) (w : World), 0 < m → n ≤ c → c < n + m → (n + m) * 8 ≤ 140737488355328 → cs.length = n → vs.length = m → (base = none → n = 0) →
      (∀ a, base = some a → ∀ j v, cs[j]? = some v → w.cell? (a.add j) = some v) → (∀ j v, vs[j]? = some v → w.cell? ⟨vb, voff + j, none⟩ = some v) → (∀ v ∈ vs, v.oneCell' = true) →
      Calls P k #[.slice base n c, .int .i64 n, .slice (some ⟨vb, voff, none⟩) m vc] w fun e w' =>
        e = .returned (.slice (some ⟨w.heap.size, 0, none⟩) (n + m) (grownCap w (n + m) c t3)) ∧
        w' = w.drew.alloc (.cells ((cs ++ vs).toArray ++ Builtin.zeroCells (Value.int .i64 0).cells (grownCap w (n + m) c t3 - (n + m))) t3))
    (hGrow : ∀ (b off n c i vb voff m vc : Nat) (cs vs : List Value) (w : World), i < n → 0 < m → n ≤ c → c < n + m → (n + m) * 8 ≤ 140737488355328 → cs.length = n → vs.length = m →
      (∀ j v, cs[j]? = some v → w.cell? ⟨b, off + j, none⟩ = some v) → (∀ j v, vs[j]? = some v → w.cell? ⟨vb, voff + j, none⟩ = some v) → (∀ v ∈ cs, v.oneCell' = true) → (∀ v ∈ vs, v.oneCell' = true) →
      Calls P k #[.slice (some ⟨b, off, none⟩) n c, .int .i64 i, .slice (some ⟨vb, voff, none⟩) m vc] w fun e w' =>
        e = .returned (.slice (some ⟨w.heap.size, 0, none⟩) (n + m) (grownCap w (n + m) c t3)) ∧
        w' = (((w.alloc (.cells ((cs.take i).toArray ++ Builtin.zeroCells (Value.int .i64 0).cells (n + m - i) ++ Builtin.zeroCells (Value.int .i64 0).cells (grownCap w (n + m) c t3 - (n + m))) t3)).drew.setCells w.heap.size i vs).drew).setCells w.heap.size (i + m) (cs.drop i))
    (l : List Int) (i : Nat) (v : Int) (hl : l.length ≤ 4194304) (hi : i ≤ l.length) :
    Den P fid G g [.arr 0, .sc (.int .i64 i), .arr 1] [.arr 1 0 l.length (T.ints l), .arr 1 0 1 (T.ints [v])] (.sl 0 1 (insL l i v).length (T.ints (insL l i v))) [.dead, .dead] := by
  refine den_slice (given := [.arr 1 0 l.length (T.ints l), .arr 1 0 1 (T.ints [v])]) fun id hid' F hF inv xs hx => ?_
  rw [hid] at hid'
  cases hid'
  obtain ⟨x0, r0, rfl, h1, h2⟩ := hx.uncons
  obtain ⟨x1, r1, rfl, h3, h4⟩ := h2.uncons
  obtain ⟨x2, r2, rfl, h5, h6⟩ := h4.uncons
  obtain rfl := h6.unnil
  obtain ⟨a, cap, rfl, hcap, _, _, hm⟩ := own_ints (k := 0) inv rfl h1
  obtain ⟨a2, cap2, rfl, hcap2, _, _, hm2⟩ := own_ints (k := 1) (l := [v]) inv rfl h5
  cases h3
  have hlen := insL_len (v := v) hi
  rw [hlen]
  obtain ⟨vb, vo, rfl, hvown, hvhas⟩ : ∃ vb vo, a2 = some ⟨vb, vo, none⟩ ∧ F.own0 vb = some (1, []) ∧ Has F.w0 vb vo (iv [v]) cap2 := by
    rcases hm2 with h | h
    · simp at hcap2; omega
    · exact h
  have hvs : ∀ j x, (iv [v])[j]? = some x → F.w0.cell? ⟨vb, vo + j, none⟩ = some x := fun j x hj => has_cell hvhas hj
  have hgc := le_grownCap F.w0 (l.length + 1) cap t3
  have hgb := grownCap_big F.w0 (l.length + 1) cap t3 (by omega)
  have hvne : F.own0 vb ≠ none := by rw [hvown]; simp
  have new : ∀ {w' : World} {o : Obj}, (∀ b, b < F.w0.heap.size → w'.heap[b]? = F.w0.heap[b]?) → F.w0.heap.size ≤ w'.heap.size → w'.os = F.w0.os → w'.tape = F.w0.tape → w'.output = F.w0.output → Kept F w' :=
    fun h1 h2 h3 h4 h5 => ⟨h2, h3, h4, h5, fun b hb _ => h1 b hb⟩
  -- the new row at the end
  have endGrow : cap < l.length + 1 → i = l.length → (∀ a0, a = some a0 → ∀ j x, (iv l)[j]? = some x → F.w0.cell? (a0.add j) = some x) → (a = none → l.length = 0) → _ := fun hc hin hcells hnil =>
    (hEndGrow a l.length cap vb vo 1 cap2 (iv l) (iv [v]) F.w0 (by omega) hcap.1 hc (by omega) (by simp) rfl hnil hcells hvs (iv_ones [v])).mono
      (R' := fun e w' => ∃ a cap, e = .returned (.slice a (l.length + 1) cap) ∧ (l.length + 1 ≤ cap ∧ cap ≤ 9223372036854775807) ∧ (cap = 0 ∨ ∃ b o, a = some ⟨b, o, none⟩ ∧ Has w' b o (iv (insL l i v)) cap ∧ (b < F.w0.heap.size → F.own0 b ≠ none)) ∧ Kept F w')
      fun e w' ⟨he, hw⟩ => by
        subst hw
        refine ⟨_, _, he, ⟨hgc, hgb⟩, .inr ⟨_, _, rfl, ?_, fun h => absurd h (by omega)⟩, ?_⟩
        · have e2 : iv (insL l i v) = iv l ++ iv [v] := by subst hin; simp [insL, iv]
          rw [e2]
          refine ⟨by rw [← e2]; exact iv_ones _, _, t3, alloc_at F.w0.drew _, ?_, by simp; exact hgc, fun j hj => ?_⟩
          · simp [zc_size]; omega
          · simp only [List.length_append, iv_len] at hj
            rw [Nat.zero_add, Array.getElem?_append, if_pos (by simp; simp at hj; omega)]
            simp
        · refine ⟨by rw [alloc_size]; simp, rfl, rfl, rfl, fun b hb _ => alloc_off F.w0.drew _ hb⟩
  rcases hm with hm | ⟨b, o, rfl, hown, hhas⟩
  · subst hm
    have hl0 : l = [] := List.eq_nil_of_length_eq_zero (by omega)
    subst hl0
    obtain rfl : i = 0 := by simpa using hi
    exact endGrow (by simp) rfl (fun a0 _ j x hj => by simp [iv] at hj) (fun _ => rfl)
  · have hbne : vb ≠ b := by intro e; rw [e, hown] at hvown; cases hvown
    have hcs : ∀ j x, (iv l)[j]? = some x → F.w0.cell? ⟨b, o + j, none⟩ = some x := fun j x hj => has_cell hhas hj
    have hob : F.own0 b ≠ none := by rw [hown]; simp
    by_cases hroom : l.length + 1 ≤ cap
    · by_cases hin : i = l.length
      · subst hin
        refine (hEndRoom b o l.length cap vb vo 1 cap2 (iv [v]) F.w0 (by omega) hroom hcap.2 rfl (fun j hj => ?_) (fun j _ => has_warm hhas _) hvs (iv_ones [v])).mono fun e w' ⟨he, hw⟩ => ?_
        · have := has_some hhas (j := l.length + j) (by omega)
          rwa [← Nat.add_assoc] at this
        · rw [setCells_map] at hw
          subst hw
          refine ⟨_, _, he, ⟨hroom, hcap.2⟩, .inr ⟨_, _, rfl, ?_, fun _ => hob⟩, kept_map rfl rfl rfl rfl hob⟩
          refine has_map hhas (map_at _ _ _) (putVs_size _ _) (fun c h1 h2 j hj => ?_) (iv_ones _) (by simp [hlen]; exact hroom)
          have := ins_cells (v := v) (Nat.le_refl l.length) hroom c h1 (fun j hj => h2 j (by simpa using hj)) j (by simpa [hlen] using hj)
          rw [List.drop_eq_nil_of_le (by simp)] at this
          exact this
      · obtain ⟨tA, kA, hsa, _⟩ := has_shape hvhas
        obtain ⟨tB, kB, hsb, hkB⟩ := has_shape hhas
        refine (hShift b o l.length cap i vb vo 1 cap2 (iv l) (iv [v]) F.w0 (by omega) (by omega) hroom hcap.2 hbne (by simp) rfl hcs (fun j hj => has_some hhas (by omega)) (fun j _ => has_warm hhas _) hvs (iv_ones l) (iv_ones [v]) tA tB kA kB hsa hsb (by omega) (has_warm hvhas _) (has_warm hvhas _)).mono fun e w' ⟨he, hw⟩ => ?_
        rw [setCells_map, setCells_map, mapBlock_mapBlock] at hw
        subst hw
        refine ⟨_, _, he, ⟨hroom, hcap.2⟩, .inr ⟨_, _, rfl, ?_, fun _ => hob⟩, kept_map rfl rfl rfl rfl hob⟩
        refine has_map hhas (map_at _ _ _) (fun c => by rw [putVs_size, putVs_size]) (fun c h1 h2 j hj => ?_) (iv_ones _) (by simp [hlen]; exact hroom)
        exact ins_cells (v := v) hi hroom c h1 (fun j hj => h2 j (by simp; omega)) j (by simpa [hlen] using hj)
    · by_cases hin : i = l.length
      · rw [hin]
        rw [hin] at endGrow
        refine endGrow (by omega) rfl (fun a0 ha j x hj => ?_) (fun h => by cases h)
        cases ha
        rw [Addr.add_lit]
        exact hcs j x hj
      · refine (hGrow b o l.length cap i vb vo 1 cap2 (iv l) (iv [v]) F.w0 (by omega) (by omega) hcap.1 (by omega) (by omega) (by simp) rfl hcs hvs (iv_ones l) (iv_ones [v])).mono fun e w' ⟨he, hw⟩ => ?_
        rw [setCells_map, setCells_map] at hw
        have hsz : w'.heap.size = F.w0.heap.size + 1 := by
          rw [hw, map_size]; simp only [World.drew]; rw [map_size, alloc_size]
        have hoff : ∀ b', b' < F.w0.heap.size → w'.heap[b']? = F.w0.heap[b']? := by
          intro b' hb'
          rw [hw, map_off _ _ (by omega)]
          simp only [World.drew]
          rw [map_off _ _ (by omega)]
          exact alloc_off F.w0 _ hb'
        refine ⟨_, _, he, ⟨hgc, hgb⟩, .inr ⟨_, _, rfl, ?_, fun h => absurd h (by omega)⟩, ⟨by omega, by rw [hw]; rfl, by rw [hw]; rfl, by rw [hw]; rfl, fun b' hb' _ => hoff b' hb'⟩⟩
        have hat : w'.heap[F.w0.heap.size]? = some (.cells (putVs (i + 1) ((iv l).drop i) (putVs i (iv [v]) (((iv l).take i).toArray ++ Builtin.zeroCells (Value.int .i64 0).cells (l.length + 1 - i) ++ Builtin.zeroCells (Value.int .i64 0).cells (grownCap F.w0 (l.length + 1) cap t3 - (l.length + 1))))) t3 (0, 0)) := by
          rw [hw, map_at]
          simp only [World.drew]
          rw [map_at]
          simp only []
          rw [alloc_at]
          rfl
        refine ⟨iv_ones _, _, t3, hat, ?_, by simp [hlen]; exact hgc, fun j hj => ?_⟩
        · rw [putVs_size, putVs_size]
          simp [zc_size]; omega
        · simp only [iv_len, hlen] at hj
          rw [iv_ins hi, Nat.zero_add]
          by_cases q1 : j < i
          · rw [if_pos q1, putVs_out _ _ _ _ (.inl (by omega)), putVs_out _ _ _ _ (.inl q1), Array.getElem?_append, if_pos (by simp [zc_size]; omega), Array.getElem?_append, if_pos (by simp; omega)]
            simp [q1]
          · rw [if_neg q1]
            by_cases q2 : j = i
            · subst q2
              rw [if_pos rfl, putVs_out _ _ _ _ (.inl (by omega))]
              have := putVs_in (iv [v]) j 0 (((iv l).take j).toArray ++ Builtin.zeroCells (Value.int .i64 0).cells (l.length + 1 - j) ++ Builtin.zeroCells (Value.int .i64 0).cells (grownCap F.w0 (l.length + 1) cap t3 - (l.length + 1))) (by simp) (by simp [zc_size]; omega)
              simp only [Nat.add_zero] at this
              rw [this]; rfl
            · rw [if_neg q2]
              have := putVs_in ((iv l).drop i) (i + 1) (j - (i + 1)) (putVs i (iv [v]) (((iv l).take i).toArray ++ Builtin.zeroCells (Value.int .i64 0).cells (l.length + 1 - i) ++ Builtin.zeroCells (Value.int .i64 0).cells (grownCap F.w0 (l.length + 1) cap t3 - (l.length + 1)))) (by simp; omega) (by rw [putVs_size]; simp [zc_size]; omega)
              rw [show i + 1 + (j - (i + 1)) = j by omega] at this
              rw [this, List.getElem?_drop]
              congr 1; omega
end Go.Eng

namespace Go.Eng.T
open Go.Lib Go.RowKit Go.Sort

theorem sort_prom {P : Program} {fid : Nat → Option FuncId} {G : Gl} {g k : Nat} (hid : fid g = some k)
    (h0 : ∀ (p : Option Addr) (cap : Nat) (w : Go.World), Calls P k #[.slice p 0 cap] w fun e w' => e = .returned (.tuple #[]) ∧ w' = w)
    (hc : ∀ (blk off cap : Nat) (zs : List Int) (w : Go.World), Holds (Value.int .i64) w blk off zs.toArray → blk < w.heap.size → zs.length < 4611686018427387904 →
      Calls P k #[.slice (some ⟨blk, off, none⟩) zs.length cap] w fun e w' => e = .returned (.tuple #[]) ∧ ∃ n os, w' = grow (putRow (Value.int .i64) (Sort.ahead w n) blk off (zs.mergeSort fun x y => decide (x ≤ y)).toArray) os) :
    SortS (Den P fid G g) := fun l hl => sort_den hid h0 hc l hl
theorem compact_prom {P : Program} {fid : Nat → Option FuncId} {G : Gl} {g k : Nat} (hid : fid g = some k)
    (h0 : ∀ (p : Option Addr) (cap : Nat) (w : Go.World), Calls P k #[.slice p 0 cap] w fun e w' => e = .returned (.slice p 0 cap) ∧ w' = w)
    (hc : ∀ (blk off cap : Nat) (zs : List Int) (w : Go.World), Holds (Value.int .i64) w blk off zs.toArray → zs.length ≤ 9223372036854775807 → zs.length ≤ cap →
      Calls P k #[.slice (some ⟨blk, off, none⟩) zs.length cap] w fun e w' => e = .returned (.slice (some ⟨blk, off, none⟩) (compact zs).length cap) ∧ ∃ q, w' = putRow (Value.int .i64) (Sort.ahead w q) blk off (compact zs ++ List.replicate (zs.length - (compact zs).length) 0).toArray) :
    CompactS (Den P fid G g) := fun l hl => compact_den hid h0 hc l hl (compact_length_le l)
end Go.Eng.T

namespace Go.Proofs
open Go.Shelf
def Tryz.laysNm221_ren : Go.Shelf.Ren := ⟨fun | 21 => 133 | 27 => 185 | 28 => 186 | 35 => 220 | 39 => 267 | n => n, fun | 22 => 24 | 3 => 3 | 4 => 4 | 0 => 0 | n => n, fun | n => n⟩
theorem Tryz.laysNm221 : Go.Proofs.Lays2.n21 Tryz.prog Tryz.laysNm221_ren := {
  mixed := by kernel_rfl
  f21 := Tryz.func133.trans (congrArg some (by kernel_rfl))
  f27 := Tryz.func185.trans (congrArg some (by kernel_rfl))
  f28 := Tryz.func186.trans (congrArg some (by kernel_rfl))
  f35 := Tryz.func220.trans (congrArg some (by kernel_rfl))
  f39 := Tryz.func267.trans (congrArg some (by kernel_rfl))
  t0 := Tryz.underlying0
  a0 := Tryz.isAgg0
  z0 := Tryz.sizeOf0
  v0 := Tryz.zeroValue0
  t3 := Tryz.underlying3
  a3 := Tryz.isAgg3
  z3 := Tryz.sizeOf3
  v3 := Tryz.zeroValue3
  t4 := Tryz.underlying4
  a4 := Tryz.isAgg4
  z4 := Tryz.sizeOf4
  v4 := Tryz.zeroValue4
  t22 := Tryz.underlying24
  a22 := Tryz.isAgg24
  z22 := Tryz.sizeOf24
  v22 := Tryz.zeroValue24
  i3 := by kernel_rfl }
end Go.Proofs

