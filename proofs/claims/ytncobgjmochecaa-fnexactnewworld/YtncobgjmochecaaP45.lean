/- Own work: part 45 of the proof of FnExactNewWorld. -/
import Derived.Test.YtncobgjmochecaaP44
set_option linter.unusedSimpArgs false
set_option linter.unusedVariables false
namespace Go.Eng.T
set_option maxRecDepth 20000
set_option maxHeartbeats 1000000

def maxF (l : List Int) : Int := l.foldl (fun a v => if v > a then v else a) 0
theorem maxF_lt {x : Int} : ∀ (l : List Int) (a : Int), (∀ y, y ∈ l → y < x) → a < x → l.foldl (fun a v => if v > a then v else a) a < x
  | [], a, _, h => h
  | y :: l, a, hl, h => by
    simp only [List.foldl_cons]
    refine maxF_lt l _ (fun z hz => hl z (by simp [hz])) ?_
    split
    · exact hl y (by simp)
    · exact h
theorem rises_lt {xs : List Int} : ∀ (n : Nat), risesV xs n = true → ∀ i j, i < j → j < n → xs.getD i 0 < xs.getD j 0
  | 0, _, i, j, _, h => by omega
  | n + 1, hr, i, j, hij, hj => by
    rw [risesV_step] at hr
    simp only [Bool.and_eq_true, Bool.or_eq_true, decide_eq_true_eq] at hr
    obtain ⟨h1, _, h3⟩ := hr
    by_cases hjn : j < n
    · exact rises_lt n h1 i j hij hjn
    · obtain rfl : j = n := by omega
      have h4 : xs.getD (j - 1) 0 < xs.getD j 0 := by
        rcases h3 with h3 | h3
        · omega
        · exact h3
      by_cases he : i = j - 1
      · rw [he]; exact h4
      · have := rises_lt j h1 i (j - 1) (by omega) (by omega)
        omega
theorem rises_in {xs : List Int} {n i : Nat} (h : risesV xs n = true) (hi : i < n) : InV (xs.getD i 0) 1 9 := by
  unfold risesV at h
  have := List.all_eq_true.1 h i (List.mem_range.2 hi)
  simp at this
  exact ⟨this.1.1, this.1.2⟩
theorem vers_pair {xs : List Int} (h : areVers xs = true) : xs.Pairwise (· < ·) := by
  unfold areVers at h
  simp only [Bool.and_eq_true, decide_eq_true_eq] at h
  rw [List.pairwise_iff_getElem]
  intro i j hi hj hij
  have := rises_lt _ h.1 i j hij hj
  rwa [getDV hi, getDV hj] at this
theorem vers_in {xs : List Int} (h : areVers xs = true) : ∀ x, x ∈ xs → InV x 1 9 := by
  unfold areVers at h
  simp only [Bool.and_eq_true, decide_eq_true_eq] at h
  intro x hx
  obtain ⟨i, hi, rfl⟩ := List.getElem_of_mem hx
  have := rises_in h.1 hi
  rwa [getDV hi] at this
theorem maxF_last {l : List Int} (hp : l.Pairwise (· < ·)) (h0 : ∀ x, x ∈ l → 0 < x) (hn : 0 < l.length) : maxF l = l[l.length - 1] := by
  obtain ⟨l', x, rfl⟩ : ∃ l' x, l = l' ++ [x] := by
    rcases List.eq_nil_or_concat l with h | ⟨l', x, h⟩
    · rw [h] at hn; simp at hn
    · exact ⟨l', x, by simpa using h⟩
  rw [List.pairwise_append] at hp
  have h1 : maxF l' < x := maxF_lt l' 0 (fun y hy => hp.2.2 y hy x (by simp)) (h0 x (by simp))
  have h2 : maxF (l' ++ [x]) = if x > maxF l' then x else maxF l' := by unfold maxF; rw [List.foldl_append]; rfl
  rw [h2, if_pos h1]
  simp
def bestCommon (a b : List Int) : Int := if areVers a = true ∧ areVers b = true then maxF (common a b) else 0
abbrev BestCommonS (R : Rel) : Prop := ∀ a b : List Int, a.length ≤ 4194304 → b.length ≤ 4194304 → R [.sl 1 1 a.length (ints a), .sl 1 1 b.length (ints b)] [] (I (bestCommon a b)) []
theorem ml {n : Nat} (h : n ≤ 4194304) : n ≤ maxLen := by unfold maxLen; omega
theorem sBestCommon_b (D : Dn) (hC : CommonOfS (D gspec_CommonOf)) (hA : AreVersionsS (D gspec_AreVersions)) : BestCommonS (Body D sspec_BestCommon) := by
  intro a b ha hb
  have hcl : (common a b).length ≤ 4194304 := Nat.le_trans (List.length_filter_le _ _) ha
  simp -implicitDefEqProofs
  refine callQ_of (hC a b ha (ml hb)) ?_
  simp -implicitDefEqProofs
  refine callQ_of (hA a (ml ha)) ?_
  by_cases h1 : areVers a = true
  rotate_left
  · simp -implicitDefEqProofs [h1, bestCommon]
  simp -implicitDefEqProofs [h1]
  refine callQ_of (hA b (ml hb)) ?_
  by_cases h2 : areVers b = true
  rotate_left
  · simp -implicitDefEqProofs [h2, bestCommon]
  have e : bestCommon a b = maxF (common a b) := by unfold bestCommon; rw [if_pos ⟨h1, h2⟩]
  rw [e]
  by_cases h3 : common a b = []
  · simp -implicitDefEqProofs [h2, h3, maxF]
  have h4 : 0 < (common a b).length := List.length_pos_iff.2 h3
  have h5 := maxF_last (l := common a b) ((vers_pair h1).filter _) (fun x hx => by have := vers_in h1 x (List.mem_filter.1 hx).1; omega) h4
  rw [h5]
  generalize common a b = l at h3 h4 hcl
  have hw : IntKind.i64.wrap ((l.length : Int) - 1) = ((l.length - 1 : Nat) : Int) := by rw [wrap_id (by omega) (by omega)]; omega
  have h6 : l.length - 1 < l.length := by omega
  simp -implicitDefEqProofs [h2, h3, hw, h6, h4]
theorem iBestCommon_b (D : Dn) (hC : CommonOfS (D gimpl_CommonOf)) (hA : AreVersionsS (D gimpl_AreVersions)) : BestCommonS (Body D simpl_BestCommon) := by
  intro a b ha hb
  have hcl : (common a b).length ≤ 4194304 := Nat.le_trans (List.length_filter_le _ _) ha
  simp -implicitDefEqProofs
  refine callQ_of (hA a (ml ha)) ?_
  by_cases h1 : areVers a = true
  rotate_left
  · simp -implicitDefEqProofs [h1, bestCommon]
  simp -implicitDefEqProofs [h1]
  refine callQ_of (hA b (ml hb)) ?_
  by_cases h2 : areVers b = true
  rotate_left
  · simp -implicitDefEqProofs [h2, bestCommon]
  have e : bestCommon a b = maxF (common a b) := by unfold bestCommon; rw [if_pos ⟨h1, h2⟩]
  rw [e]
  simp -implicitDefEqProofs [h2]
  refine callQ_of (hC a b ha (ml hb)) ?_
  generalize common a b = l at hcl
  simp -implicitDefEqProofs
  refine swp_loop (fun k s => ∃ j, j + k = l.length ∧ s = ⟨[.undef, .undef, .undef, .sc (.int .i64 (maxF (l.take j))), .undef, .undef, .arr 0, .sc (.int .i64 l.length), .sc (.int .i64 j), .undef], [.arr 1 0 l.length (ints l)]⟩) ?_ l.length _ ⟨0, by simp, by simp [maxF]⟩
  intro k s ⟨j, hj, hs⟩
  subst hs
  by_cases hjn : j < l.length
  · have hw : IntKind.i64.wrap ((j : Int) + 1) = (j + 1 : Nat) := by rw [wrap_id (by omega) (by omega)]; simp
    have hst : maxF (l.take (j + 1)) = if l[j] > maxF (l.take j) then l[j] else maxF (l.take j) := by
      have e : l.take (j + 1) = l.take j ++ [l[j]] := by simp
      unfold maxF
      rw [e, List.foldl_append]; rfl
    simp -implicitDefEqProofs [hjn]
    exact ⟨k - 1, by omega, j + 1, by omega, by rw [hst], by simp [hw]⟩
  · have hx : l.take j = l := List.take_of_length_le (by omega)
    simp -implicitDefEqProofs [hjn, hx]
end Go.Eng.T

namespace Go.Eng.T
set_option maxRecDepth 20000

/-- the places, from i on, at which p holds -/
def idxL {α : Type} (p : α → Bool) : List α → Nat → List Int
  | [], _ => []
  | x :: r, i => if p x then (i : Int) :: idxL p r (i + 1) else idxL p r (i + 1)
theorem idxL_append {α : Type} {p : α → Bool} (b : List α) : ∀ (a : List α) (i : Nat), idxL p (a ++ b) i = idxL p a i ++ idxL p b (i + a.length)
  | [], i => by simp [idxL]
  | x :: r, i => by
    have := idxL_append (p := p) b r (i + 1)
    simp only [List.cons_append, idxL, this, List.length_cons]
    rw [show i + 1 + r.length = i + (r.length + 1) by omega]
    by_cases h : p x = true <;> simp [h]
theorem idxL_step {α : Type} {p : α → Bool} {xs : List α} {j : Nat} (h : j < xs.length) : idxL p (xs.take (j + 1)) 0 = idxL p (xs.take j) 0 ++ (if p xs[j] then [(j : Int)] else []) := by
  have e : xs.take (j + 1) = xs.take j ++ [xs[j]] := by simp
  rw [e, idxL_append]
  have hl : (xs.take j).length = j := by simp; omega
  by_cases hp : p xs[j] = true <;> simp [idxL, hp, hl]
theorem idxL_all {α : Type} {p : α → Bool} {xs : List α} {j : Nat} (h : xs.length ≤ j) : idxL p (xs.take j) 0 = idxL p xs 0 := by rw [List.take_of_length_le h]
theorem idxL_len {α : Type} {p : α → Bool} : ∀ (xs : List α) (i : Nat), (idxL p xs i).length ≤ xs.length
  | [], _ => by simp [idxL]
  | x :: r, i => by
    have := idxL_len (p := p) r (i + 1)
    by_cases h : p x = true
    · simp [idxL, h]; omega
    · simp [idxL, h]; omega

def hasE (v : Int) (e : Endpoint) : Bool := decide (v ∈ e.versions)
theorem world_vers {w : World} (h : szWorld w ≤ 4194304) {j : Nat} (hj : j < w.ends.length) : w.ends[j].versions.length ≤ maxLen := by
  have := size_at (f := szEndpoint) hj
  have e : szEndpoint w.ends[j] = w.ends[j].versions.length + w.ends[j].tags.length + sumF szBox w.ends[j].path := rfl
  unfold szWorld at h
  unfold maxLen; omega
abbrev HasVersionS (R : Rel) : Prop := ∀ (w : World) (v : Int), szWorld w ≤ 4194304 → R [arg (eWorld w), I v] [] (.sl 0 1 (idxL (hasE v) w.ends 0).length (ints (idxL (hasE v) w.ends 0))) []
end Go.Eng.T

namespace Go.Eng.T
set_option maxRecDepth 20000
set_option maxHeartbeats 1000000

def rowsV (xs : List (List Int)) : List V := xs.map fun l => .sl 0 1 l.length (ints l)
@[simp high] theorem rowsV_len (xs : List (List Int)) : (rowsV xs).length = xs.length := by simp [rowsV]
@[simp] theorem rowsV_nil : rowsV [] = [] := rfl
@[simp] theorem rowsV_ro (xs : List (List Int)) : (rowsV xs).map (roCell 0) = rowsV xs := by simp [rowsV, Function.comp_def, roCell]
@[simp high] theorem rowsV_at {xs : List (List Int)} {j : Nat} (h : j < xs.length) : (rowsV xs)[j]? = some (V.sl 0 1 xs[j].length (ints xs[j])) := by simp [rowsV, h]
theorem rowsV_push (xs : List (List Int)) (l : List Int) {n : Nat} (h : n = l.length) : rowsV xs ++ [.sl 0 1 n (ints l)] = rowsV (xs ++ [l]) := by subst h; simp [rowsV]
def szRows (xs : List (List Int)) : Nat := sumF List.length xs
theorem rows_at {xs : List (List Int)} {j : Nat} (h : j < xs.length) : xs[j].length ≤ szRows xs := size_at (f := List.length) h
theorem rows_len {xs : List (List Int)} : xs.length ≤ szRows xs := size_len

def listsOf (w : World) : List (List Int) := w.ends.map (·.versions)
abbrev ListsOfS (R : Rel) : Prop := ∀ w : World, szWorld w ≤ 4194304 → R [arg (eWorld w)] [] (.sl 0 1 (listsOf w).length (rowsV (listsOf w))) []
theorem lists_step {xs : List Endpoint} {j : Nat} (h : j < xs.length) : rowsV ((xs.map (·.versions)).take j) ++ [.sl 0 1 xs[j].versions.length (ints xs[j].versions)] = rowsV ((xs.map (·.versions)).take (j + 1)) := by
  have h' : j < (xs.map (·.versions)).length := by simpa using h
  have e : (xs.map (·.versions)).take (j + 1) = (xs.map (·.versions)).take j ++ [xs[j].versions] := by
    have := List.take_append_getElem h'
    rw [← this]; simp
  rw [e, rowsV_push _ _ rfl]
theorem sListsOf_b (D : Dn) : ListsOfS (Body D sspec_ListsOf) := by
  intro w h
  have hl := world_ends h
  have hres : listsOf w = w.ends.map (·.versions) := rfl
  rw [hres]
  simp -implicitDefEqProofs
  refine swp_loop (fun k s => ∃ j o2 o3 o4 o5, j + k = w.ends.length ∧ s = ⟨[.undef, .ptr 0 0, .undef, .arr 6, .sc (.int .i64 j), .undef], [.var ((eWorld w).map (roCell 1)), .free, o2, o3, o4, o5, .arr 1 0 j (rowsV ((w.ends.take j).map (·.versions)))]⟩) ?_ w.ends.length _ ⟨0, .free, .free, .free, .free, by simp, by simp⟩
  intro k s ⟨j, o2, o3, o4, o5, hj, hs⟩
  subst hs
  by_cases hjn : j < w.ends.length
  · have hw : IntKind.i64.wrap ((j : Int) + 1) = (j + 1 : Nat) := by rw [wrap_id (by omega) (by omega)]; simp
    have hst := lists_step hjn
    have hvl := world_vers h hjn
    unfold maxLen at hvl
    have h2 : w.ends[j].versions.length ≤ 4194304 := by
      have := size_at (f := szEndpoint) hjn
      have e : szEndpoint w.ends[j] = w.ends[j].versions.length + w.ends[j].tags.length + sumF szBox w.ends[j].path := rfl
      unfold szWorld at h
      omega
    have hb : w.ends[j].versions.length * 8 ≤ 1099511627776 := by omega
    have hb2 : (j + 1) * 24 ≤ 1099511627776 := by omega
    have hjl : min j w.ends.length = j := by omega
    simp -implicitDefEqProofs [hjn, hb, hb2, hjl]
    exact ⟨k - 1, by omega, j + 1, by omega, by simp [hw], rfl, hst⟩
  · obtain rfl : j = w.ends.length := by omega
    simp -implicitDefEqProofs
theorem iListsOf_b (D : Dn) : ListsOfS (Body D simpl_ListsOf) := by
  intro w h
  have hl := world_ends h
  have hres : listsOf w = w.ends.map (·.versions) := rfl
  rw [hres]
  simp -implicitDefEqProofs
  refine swp_loop (fun k s => ∃ j o2 o3 o4 o5 o6, j + k = w.ends.length ∧ s = ⟨[.undef, .undef, .undef, .arr 7, .undef, .sl 1 4 w.ends.length (w.ends.flatMap eEndpoint), .sc (.int .i64 w.ends.length), .sc (.int .i64 j), .undef], [.var ((eWorld w).map (roCell 1)), .free, o2, o3, o4, o5, o6, .arr 1 0 j (rowsV ((w.ends.take j).map (·.versions)))]⟩) ?_ w.ends.length _ ⟨0, .free, .free, .free, .free, .free, by simp, by simp⟩
  intro k s ⟨j, o2, o3, o4, o5, o6, hj, hs⟩
  subst hs
  by_cases hjn : j < w.ends.length
  · have hw : IntKind.i64.wrap ((j : Int) + 1) = (j + 1 : Nat) := by rw [wrap_id (by omega) (by omega)]; simp
    have hst := lists_step hjn
    have h2 : w.ends[j].versions.length ≤ 4194304 := by
      have := size_at (f := szEndpoint) hjn
      have e : szEndpoint w.ends[j] = w.ends[j].versions.length + w.ends[j].tags.length + sumF szBox w.ends[j].path := rfl
      unfold szWorld at h
      omega
    have hb : w.ends[j].versions.length * 8 ≤ 1099511627776 := by omega
    have hb2 : (j + 1) * 24 ≤ 1099511627776 := by omega
    have hjl : min j w.ends.length = j := by omega
    simp -implicitDefEqProofs [hjn, hb, hb2, hjl]
    exact ⟨k - 1, by omega, j + 1, by omega, by simp [hw], rfl, hst⟩
  · obtain rfl : j = w.ends.length := by omega
    simp -implicitDefEqProofs

abbrev rowsA (ls : List (List Int)) : V := .sl 1 1 ls.length (rowsV ls)
def useB (s : List Int) (v : Int) (l : List Int) : Bool := decide (bestCommon s l = v)
def useOf (s : List Int) (ls : List (List Int)) (v : Int) : Nat := if 1 ≤ v then cntF (useB s v) ls else 0
abbrev UseOfS (R : Rel) : Prop := ∀ (s : List Int) (ls : List (List Int)) (v : Int), s.length ≤ 4194304 → szRows ls ≤ 4194304 → R [.sl 1 1 s.length (ints s), rowsA ls, I v] [] (I (useOf s ls v)) []
def strB (s : List Int) (v : Int) (l : List Int) : Bool := decide (0 < bestCommon s l) && decide (bestCommon (withoutV s v) l = 0)
def stranded (s : List Int) (ls : List (List Int)) (v : Int) : List Int := idxL (strB s v) ls 0
abbrev StrandedS (R : Rel) : Prop := ∀ (s : List Int) (ls : List (List Int)) (v : Int), s.length ≤ 4194304 → szRows ls ≤ 4194304 → R [.sl 1 1 s.length (ints s), rowsA ls, I v] [] (.sl 0 1 (stranded s ls v).length (ints (stranded s ls v))) []
theorem useOf_le (s : List Int) (ls : List (List Int)) (v : Int) : useOf s ls v ≤ ls.length := by
  unfold useOf
  split
  · have := cnt_le (f := useB s v) (xs := ls) (j := ls.length) (by omega)
    rwa [List.take_length] at this
  · omega
def mayRetire (s : List Int) (ls : List (List Int)) (v pm : Int) : Bool := areVers s && (decide (v ∈ s) && (!decide (s.length = 1) && (decide (InV pm 0 1000) && (decide (stranded s ls v = []) && decide (1000 * (useOf s ls v : Int) ≤ pm * (ls.length : Int))))))
abbrev MayRetireS (R : Rel) : Prop := ∀ (s : List Int) (ls : List (List Int)) (v pm : Int), s.length ≤ 4194304 → szRows ls ≤ 4194304 → R [.sl 1 1 s.length (ints s), rowsA ls, I v, I pm] [] (B (mayRetire s ls v pm)) []
def retire (s : List Int) (ls : List (List Int)) (v pm : Int) : List Int × Bool := if mayRetire s ls v pm = true then (withoutV s v, true) else (s, false)
abbrev RetireVersionS (R : Rel) : Prop := ∀ (s : List Int) (ls : List (List Int)) (v pm : Int), s.length ≤ 4194304 → szRows ls ≤ 4194304 → R [.sl 1 1 s.length (ints s), rowsA ls, I v, I pm] [] (.tup [.sl 0 1 (retire s ls v pm).1.length (ints (retire s ls v pm).1), B (retire s ls v pm).2]) []
theorem world_serv' {w : World} (h : szWorld w ≤ 4194304) : w.server.length ≤ 4194304 := by unfold szWorld at h; omega
theorem listsF (xs : List Endpoint) : szRows (xs.map (·.versions)) ≤ sumF szEndpoint xs := by
  induction xs with
  | nil => simp [szRows, sumF]
  | cons x r ih =>
    simp only [szRows, sumF, List.map_cons, List.sum_cons, List.length_cons, szEndpoint, List.length_map] at *
    omega
theorem lists_sz {w : World} (h : szWorld w ≤ 4194304) : szRows (listsOf w) ≤ 4194304 := by
  have := listsF w.ends
  unfold szWorld at h
  unfold listsOf
  omega
def stepRetire (w : World) (v pm : Int) : World × Bool := if (retire w.server (listsOf w) v pm).2 = true ∧ ¬ v = w.rollout.version then ({ w with server := (retire w.server (listsOf w) v pm).1 }, true) else (w, false)
abbrev StepRetireS (R : Rel) : Prop := ∀ (w : World) (v pm : Int), szWorld w ≤ 4194304 → R [arg (eWorld w), I v, I pm] [] (.tup [.agg (eWorld (stepRetire w v pm).1), B (stepRetire w v pm).2]) []
end Go.Eng.T

namespace Go.Eng.T

structure Ext where
  tag : Int
  body : List Int
  deriving DecidableEq
structure Hello where
  versions : List Int
  exts : List Ext
  deriving DecidableEq
structure Answer where
  version : Int
  exts : List Ext
  deriving DecidableEq
def eExt (x : Ext) : List V := [.sc (.int .i64 x.tag), .sl 0 1 x.body.length (ints x.body)]
def eHello (h : Hello) : List V := [.sl 0 1 h.versions.length (ints h.versions), .sl 0 2 h.exts.length (h.exts.flatMap eExt)]
def eAnswer (a : Answer) : List V := [.sc (.int .i64 a.version), .sl 0 2 a.exts.length (a.exts.flatMap eExt)]
theorem eExt_len (x : Ext) : (eExt x).length = 2 := rfl
@[simp] theorem eExt_ro (xs : List Ext) : (xs.flatMap eExt).map (roCell 0) = xs.flatMap eExt := flat_ro (fun _ => rfl) xs
@[simp high] theorem eExt_at {xs : List Ext} {j : Nat} (h : j < xs.length) : getAt (xs.flatMap eExt) (j * 2) 2 = some (eExt xs[j]) := getAt_flat eExt_len h
@[simp high] theorem eExt_flen (xs : List Ext) : (xs.flatMap eExt).length = xs.length * 2 := flat_len eExt_len xs
theorem eExt_push (xs : List Ext) (a : Int) (b : List Int) {nb : Nat} (hb : nb = b.length) : xs.flatMap eExt ++ [.sc (.int .i64 a), .sl 0 1 nb (ints b)] = (xs ++ [(⟨a, b⟩ : Ext)]).flatMap eExt := by subst hb; simp [eExt]
@[simp high] theorem eExt_c0 {xs : List Ext} {j : Nat} (h : j < xs.length) : (xs.flatMap eExt)[j * 2]? = some (.sc (.int .i64 xs[j].tag)) := by
  have := getCell_flat (o := 0) eExt_len h (by omega)
  simpa [eExt] using this
@[simp high] theorem eExt_c1 {xs : List Ext} {j : Nat} (h : j < xs.length) : (xs.flatMap eExt)[j * 2 + 1]? = some (.sl 0 1 xs[j].body.length (ints xs[j].body)) := by
  have := getCell_flat (o := 1) eExt_len h (by omega)
  simpa [eExt] using this
theorem flat_take {α : Type} {f : α → List V} {e : Nat} (hf : ∀ x, (f x).length = e) (xs : List α) (i : Nat) : (xs.flatMap f).take (i * e) = (xs.take i).flatMap f := by
  induction xs generalizing i with
  | nil => simp
  | cons x xs ih =>
    cases i with
    | zero => simp
    | succ i =>
      simp only [List.flatMap_cons, List.take_succ_cons]
      rw [← ih i, show (i + 1) * e = (f x).length + i * e by rw [hf, Nat.add_mul]; omega, List.take_length_add_append]
theorem part_flat {α : Type} {f : α → List V} {e : Nat} (hf : ∀ x, (f x).length = e) (xs : List α) (o n : Nat) : part (xs.flatMap f) e o n = ((xs.drop o).take n).flatMap f := by
  unfold part
  rw [flat_drop hf, flat_take hf]
@[simp high] theorem eExt_part (xs : List Ext) (o n : Nat) : part (xs.flatMap eExt) 2 o n = ((xs.drop o).take n).flatMap eExt := part_flat eExt_len xs o n
attribute [simp] eExt eHello eAnswer

/-- lists that are small enough to be copied -/
def exB (l : List Ext) : Prop := l.length ≤ 4194304 ∧ ∀ x, x ∈ l → x.body.length ≤ 4194304
theorem exB_at {l : List Ext} (h : exB l) {j : Nat} (hj : j < l.length) : l[j].body.length ≤ 4194304 := h.2 _ (List.getElem_mem hj)
theorem exB_nil : exB [] := ⟨by simp, by simp⟩
theorem exB_filter {l : List Ext} (h : exB l) (p : Ext → Bool) : exB (l.filter p) :=
  ⟨Nat.le_trans (List.length_filter_le p l) h.1, fun x hx => h.2 x (List.mem_filter.1 hx).1⟩
theorem exB_take {l : List Ext} (h : exB l) (n : Nat) : exB (l.take n) :=
  ⟨by have := h.1; simp; omega, fun x hx => h.2 x (List.mem_of_mem_take hx)⟩
theorem exB_one {l : List Ext} (h : exB l) {j : Nat} (hj : j < l.length) : exB [l[j]] :=
  ⟨by simp, fun x hx => by obtain rfl := List.mem_singleton.1 hx; exact exB_at h hj⟩

/-- for all i less than j -/
def allTo (q : Nat → Bool) (j : Nat) : Bool := (List.range j).all q
@[simp] theorem allTo_zero (q : Nat → Bool) : allTo q 0 = true := rfl
theorem allTo_step (q : Nat → Bool) (j : Nat) : allTo q (j + 1) = (allTo q j && q j) := by
  unfold allTo
  rw [List.range_succ, List.all_append]
  simp
theorem allTo_no {q : Nat → Bool} {j n : Nat} (h : j < n) (hn : q j = false) : allTo q n = false := by
  have : ∀ m, allTo q (j + 1 + m) = false := by
    intro m
    induction m with
    | zero => rw [Nat.add_zero, allTo_step, hn]; simp
    | succ m ih => rw [show j + 1 + (m + 1) = (j + 1 + m) + 1 by omega, allTo_step, ih]; rfl
  have := this (n - (j + 1))
  rwa [show j + 1 + (n - (j + 1)) = n by omega] at this
theorem allTo_iff {q : Nat → Bool} {n : Nat} : allTo q n = true ↔ ∀ i, i < n → q i = true := by
  unfold allTo
  rw [List.all_eq_true]
  simp
theorem filtE_step {α : Type} {p : α → Bool} {xs : List α} {j : Nat} (h : j < xs.length) : (xs.take (j + 1)).filter p = (xs.take j).filter p ++ (if p xs[j] then [xs[j]] else []) := by
  have e : xs.take (j + 1) = xs.take j ++ [xs[j]] := by simp
  rw [e, List.filter_append]
  by_cases hp : p xs[j] = true <;> simp [hp]
theorem filtE_all {α : Type} {p : α → Bool} {xs : List α} {j : Nat} (h : xs.length ≤ j) : (xs.take j).filter p = xs.filter p := by rw [List.take_of_length_le h]
theorem filtE_len {α : Type} {p : α → Bool} {xs : List α} {j : Nat} : ((xs.take j).filter p).length ≤ j := by
  have := List.length_filter_le p (xs.take j)
  have h2 : (xs.take j).length ≤ j := by simp; omega
  omega
end Go.Eng.T

namespace Go.Eng.T
end Go.Eng.T

namespace Go.Eng.T
set_option maxRecDepth 20000
abbrev IndexFuncExtS (D : Dn) (R : Rel) : Prop := ∀ (xs : List Ext) (g : Nat) (caps : List V) (p : Ext → Bool), xs.length ≤ maxLen → CapOk caps → (∀ (j : Nat) (h : j < xs.length), D g (arg (eExt xs[j]) :: caps) [] (B (p xs[j])) []) → R [.sl 1 2 xs.length (xs.flatMap eExt), .fn g caps] [] (I (idxP p xs 0)) []
abbrev ContainsFuncExtS (D : Dn) (R : Rel) : Prop := ∀ (xs : List Ext) (g : Nat) (caps : List V) (p : Ext → Bool), xs.length ≤ maxLen → CapOk caps → (∀ (j : Nat) (h : j < xs.length), D g (arg (eExt xs[j]) :: caps) [] (B (p xs[j])) []) → R [.sl 1 2 xs.length (xs.flatMap eExt), .fn g caps] [] (B (xs.any p)) []
end Go.Eng.T

namespace Go.Eng.T
set_option maxRecDepth 20000

def hasTag (t : Int) (x : Ext) : Bool := decide (x.tag = t)
def extOf (l : List Ext) (t : Int) : Int := idxP (hasTag t) l 0
abbrev ExtOfS (R : Rel) : Prop := ∀ (l : List Ext) (t : Int), l.length ≤ maxLen → R [.sl 1 2 l.length (l.flatMap eExt), I t] [] (I (extOf l t)) []
abbrev ExtOf1S (R : Rel) : Prop := ∀ (x : Ext) (t : Int), R [arg (eExt x), .rptr 1 [I t] 0] [] (B (hasTag t x)) []
def okExt (x : Ext) : Bool := decide (InR x.tag 0 255) && (decide (x.body.length ≤ 4) && allIn x.body 0 255)
def newTag (l : List Ext) (i : Nat) : Bool := match l[i]? with
  | some x => okExt x && !(l.take i).any (hasTag x.tag)
  | none => true
theorem newTag_at {l : List Ext} {i : Nat} (h : i < l.length) : newTag l i = (okExt l[i] && !(l.take i).any (hasTag l[i].tag)) := by
  unfold newTag
  rw [List.getElem?_eq_getElem h]
def areExts (l : List Ext) : Bool := allTo (newTag l) l.length && decide (l.length ≤ 6)
theorem idxP_range {α : Type} {p : α → Bool} : ∀ {xs : List α} {i : Int}, idxP p xs i = -1 ∨ (i ≤ idxP p xs i ∧ idxP p xs i < i + xs.length)
  | [], i => .inl rfl
  | x :: r, i => by
    by_cases hp : p x = true
    · right; simp [idxP, hp]; omega
    · rcases idxP_range (p := p) (xs := r) (i := i + 1) with h | h
      · left; simp [idxP, hp, h]
      · right; simp [idxP, hp] at *; omega
/-- the first place lies before j -/
theorem idxP_lt {α : Type} {p : α → Bool} : ∀ {xs : List α} {i : Int} {j : Nat}, 0 ≤ i → (h : j < xs.length) → p xs[j] = true → (idxP p xs i < i + j ↔ (xs.take j).any p = true)
  | x :: r, i, 0, hi, h, hp => by
    have : p x = true := hp
    simp [idxP, this]
  | x :: r, i, j + 1, hi, h, hp => by
    by_cases hx : p x = true
    · simp [idxP, hx]; omega
    · have := idxP_lt (p := p) (xs := r) (i := i + 1) (j := j) (by omega) (by simpa using h) (by simpa using hp)
      simp only [idxP, hx, List.take_succ_cons, List.any_cons, Bool.false_or]
      rw [← this]
      simp
      omega
theorem extOf_lt {l : List Ext} {j : Nat} (h : j < l.length) : (extOf l l[j].tag < (j : Int)) = ((l.take j).any (hasTag l[j].tag) = true) := by
  have := idxP_lt (p := hasTag l[j].tag) (i := 0) (by omega) h (by simp [hasTag])
  rw [Int.zero_add] at this
  exact propext this
theorem extOf_take {l : List Ext} {j : Nat} {t : Int} : (0 ≤ extOf (l.take j) t) = ((l.take j).any (hasTag t) = true) := idxP_ge (by omega)
theorem areExts_no {l : List Ext} {j : Nat} (h : j < l.length) (hn : newTag l j = false) : areExts l = false := by
  unfold areExts
  rw [allTo_no h hn]; rfl
abbrev AreExtsS (R : Rel) : Prop := ∀ l : List Ext, exB l → R [.sl 1 2 l.length (l.flatMap eExt)] [] (B (areExts l)) []
def tagsOf (l : List Ext) : List Int := l.map (·.tag)
theorem tags_step {l : List Ext} {j : Nat} (h : j < l.length) : tagsOf (l.take (j + 1)) = tagsOf (l.take j) ++ [l[j].tag] := by
  have e : l.take (j + 1) = l.take j ++ [l[j]] := by simp
  unfold tagsOf
  rw [e, List.map_append]; rfl
abbrev TagsOfS (R : Rel) : Prop := ∀ l : List Ext, l.length ≤ 4194304 → R [.sl 1 2 l.length (l.flatMap eExt)] [] (.sl 0 1 (tagsOf l).length (ints (tagsOf l))) []
end Go.Eng.T

namespace Go.Eng.T
set_option maxRecDepth 20000
def kept (p : Int → Bool) (l : List Ext) : List Ext := l.filter fun x => p x.tag
theorem kept_step {p : Int → Bool} {l : List Ext} {j : Nat} (h : j < l.length) : kept p (l.take (j + 1)) = kept p (l.take j) ++ (if p l[j].tag then [l[j]] else []) := filtE_step (p := fun x : Ext => p x.tag) h
theorem kept_all {p : Int → Bool} {l : List Ext} {j : Nat} (h : l.length ≤ j) : kept p (l.take j) = kept p l := filtE_all h
theorem kept_len {p : Int → Bool} {l : List Ext} {j : Nat} : (kept p (l.take j)).length ≤ j := filtE_len
theorem exB_kept {l : List Ext} (h : exB l) (p : Int → Bool) : exB (kept p l) := exB_filter h _
theorem kept_push {p : Int → Bool} {l : List Ext} {j : Nat} (h : j < l.length) (hp : p l[j].tag = true) :
    (kept p (l.take j)).flatMap eExt ++ [.sc (.int .i64 l[j].tag), .sl 0 1 l[j].body.length (ints l[j].body)] = (kept p (l.take (j + 1))).flatMap eExt := by
  rw [kept_step h, if_pos hp, List.flatMap_append]; simp
theorem kept_push_len {p : Int → Bool} {l : List Ext} {j : Nat} (h : j < l.length) (hp : p l[j].tag = true) : (kept p (l.take (j + 1))).length = (kept p (l.take j)).length + 1 := by
  rw [kept_step h, if_pos hp]; simp
theorem kept_skip {p : Int → Bool} {l : List Ext} {j : Nat} (h : j < l.length) (hp : ¬ p l[j].tag = true) : kept p (l.take (j + 1)) = kept p (l.take j) := by
  rw [kept_step h, if_neg hp, List.append_nil]
/-- what is captured holds nothing of the frame -/
def NoObj (caps : List V) : Prop := ∀ k, caps.any (m1 k) = false
theorem noObj_nil : NoObj [] := fun _ => rfl
theorem noObj_rptr {fl : Nat} {cs : List V} {o : Nat} {r : List V} (h : NoObj r) : NoObj (.rptr fl cs o :: r) := fun k => by
  have := h k
  simp only [List.any_cons, this, m1, Bool.or_self]
theorem killV_cap {k g : Nat} {caps : List V} (h : NoObj caps) : killV k (.fn g caps) = .fn g caps := by
  have := h k
  simp only [killV, m3, m2, this]
  rfl
theorem renV_cap {a b g : Nat} {caps : List V} (h : NoObj caps) : renV a b (.fn g caps) = .fn g caps := by
  have := h a
  simp only [renV, m3, m2, this]
  rfl
abbrev keptExtsS (D : Dn) (R : Rel) : Prop := ∀ (l : List Ext) (g : Nat) (caps : List V) (p : Int → Bool), exB l → CapOk caps → NoObj caps → (∀ t : Int, D g (I t :: caps) [] (B (p t)) []) →
  R [.sl 1 2 l.length (l.flatMap eExt), .fn g caps] [] (.sl 0 2 (kept p l).length ((kept p l).flatMap eExt)) []
abbrev KeepAllS (R : Rel) : Prop := ∀ t : Int, R [I t] [] (B true) []
abbrev KeepUnresS (R : Rel) : Prop := ∀ t : Int, R [I t] [] (B (!isReserved t)) []
theorem kept_true (l : List Ext) : kept (fun _ => true) l = l := by simp [kept]
abbrev cpExtsS (R : Rel) : Prop := ∀ l : List Ext, exB l → R [.sl 1 2 l.length (l.flatMap eExt)] [] (.sl 0 2 l.length (l.flatMap eExt)) []
def stripG (l : List Ext) : List Ext := kept (fun t => !isReserved t) l
def knownOf (l : List Ext) (tags : List Int) : List Ext := kept (fun t => decide (t ∈ tags)) l
abbrev StripGreaseS (R : Rel) : Prop := ∀ l : List Ext, exB l → R [.sl 1 2 l.length (l.flatMap eExt)] [] (.sl 0 2 (stripG l).length ((stripG l).flatMap eExt)) []
abbrev KnownOfS (R : Rel) : Prop := ∀ (l : List Ext) (tags : List Int), exB l → tags.length ≤ maxLen → R [.sl 1 2 l.length (l.flatMap eExt), .sl 1 1 tags.length (ints tags)] [] (.sl 0 2 (knownOf l tags).length ((knownOf l tags).flatMap eExt)) []
abbrev KnownOf1S (R : Rel) : Prop := ∀ (t : Int) (tags : List Int), tags.length ≤ maxLen → R [I t, .rptr 1 [.sl 0 1 tags.length (ints tags)] 0] [] (B (decide (t ∈ tags))) []
theorem capOk_ints {a : List Int} {r : List V} (h : CapOk r) : CapOk (.rptr 1 [.sl 0 1 a.length (ints a)] 0 :: r) := capOk_cons (fun H => by simp) (fun H => by simp) h
theorem known_self (l : List Ext) : knownOf l (tagsOf l) = l := by
  unfold knownOf kept
  rw [List.filter_eq_self]
  intro x hx
  simp only [decide_eq_true_eq]
  exact List.mem_map.2 ⟨x, hx, rfl⟩
theorem tags_len (l : List Ext) : (tagsOf l).length = l.length := by simp [tagsOf]
end Go.Eng.T

namespace Go.Eng.T
set_option maxRecDepth 20000
def hB (h : Hello) : Prop := h.versions.length ≤ 4194304 ∧ exB h.exts
def isHello (h : Hello) : Bool := areVers h.versions && areExts h.exts
abbrev IsHelloS (R : Rel) : Prop := ∀ h : Hello, hB h → R [arg (eHello h)] [] (B (isHello h)) []
abbrev cpHelloS (R : Rel) : Prop := ∀ h : Hello, hB h → R [arg (eHello h)] [] (.agg (eHello h)) []
def lossy (b : Box) (x : Ext) : Bool := decide (x.tag ∈ b.drops) || (b.lists && (!decide (x.tag ∈ b.strips) && !decide (InR x.tag 1 3)))
def topV (vs : List Int) : Int := vs.getLastD 0
def losesB (b : Box) (h : Hello) : Bool := (decide (0 < b.limit) && decide (b.limit < topV h.versions)) || h.exts.any (lossy b)
def stays (b : Box) (t : Int) : Bool := !decide (t ∈ b.strips)
def noHello : Hello := ⟨[], []⟩
def passBox (b : Box) (h : Hello) : Hello × Bool := if isBox b && (isHello h && !losesB b h) then (⟨h.versions, kept (stays b) h.exts⟩, true) else (noHello, false)
abbrev PassBoxS (R : Rel) : Prop := ∀ (b : Box) (h : Hello), lnBox b → hB h → R [arg (eBox b), arg (eHello h)] [] (.tup [.agg (eHello (passBox b h).1), B (passBox b h).2]) []
theorem vers_pos {xs : List Int} (h : areVers xs = true) : 0 < xs.length := by
  unfold areVers at h
  simp only [Bool.and_eq_true, decide_eq_true_eq] at h
  exact h.2
theorem topV_at {xs : List Int} (h : xs.length - 1 < xs.length) : topV xs = xs[xs.length - 1] := by
  unfold topV
  rw [List.getLastD_eq_getLast?, List.getLast?_eq_getElem?, List.getElem?_eq_getElem h]; rfl
abbrev PassBox1S (R : Rel) : Prop := ∀ (t : Int) (b : Box), lnBox b → R [I t, .rptr 1 (eBox b) 0] [] (B (stays b t)) []
abbrev loses1S (R : Rel) : Prop := ∀ (x : Ext) (b : Box), lnBox b → R [arg (eExt x), .rptr 1 (eBox b) 0] [] (B (lossy b x)) []
def maxL (xs : List Int) : Int := xs.foldl max (xs.headD 0)
abbrev MaxS (R : Rel) : Prop := ∀ xs : List Int, 0 < xs.length → xs.length ≤ 4194304 → R [.sl 1 1 xs.length (ints xs)] [] (I (maxL xs)) []
abbrev CloneS (R : Rel) : Prop := ∀ xs : List Int, xs.length ≤ 4194304 → R [.sl 1 1 xs.length (ints xs)] [] (.sl 0 1 xs.length (ints xs)) []
abbrev losesS (R : Rel) : Prop := ∀ (b : Box) (h : Hello), lnBox b → hB h → isBox b = true → areVers h.versions = true → R [arg (eBox b), arg (eHello h)] [] (B (losesB b h)) []
theorem foldmax_last : ∀ (xs : List Int) (a : Int), (∀ x, x ∈ xs → a ≤ x) → (∀ i, (h : i + 1 < xs.length) → xs[i] ≤ xs[i + 1]) → xs.foldl max a = (xs.getLast?.getD a)
  | [], a, _, _ => rfl
  | x :: r, a, h1, h2 => by
    have hx := h1 x (by simp)
    have hr : ∀ y, y ∈ r → x ≤ y := by
      intro y hy
      obtain ⟨n, hn, rfl⟩ := List.getElem_of_mem hy
      have key : ∀ m, (hm : m < r.length) → x ≤ r[m] := by
        intro m
        induction m with
        | zero => intro hm; have := h2 0 (by simp; omega); simpa using this
        | succ m ih =>
          intro hm
          have h3 := ih (by omega)
          have := h2 (m + 1) (by simp; omega)
          simp only [List.getElem_cons_succ] at this
          omega
      exact key n hn
    have ih := foldmax_last r x hr (fun i h => by have := h2 (i + 1) (by simp; omega); simpa using this)
    simp only [List.foldl_cons]
    rw [show max a x = x by omega, ih]
    cases r with
    | nil => rfl
    | cons y s => simp [List.getLast?_cons_cons, List.getLast?_cons]
theorem vers_up {xs : List Int} (h : areVers xs = true) {i : Nat} (hi : i + 1 < xs.length) : xs[i] < xs[i + 1] := by
  unfold areVers risesV at h
  simp only [Bool.and_eq_true, List.all_eq_true, List.mem_range] at h
  have := (h.1 (i + 1) hi).2
  rw [getDV hi, show i + 1 - 1 = i by omega, getDV (by omega)] at this
  simpa using this
theorem vers_at {xs : List Int} (h : areVers xs = true) {i : Nat} (hi : i < xs.length) : InV xs[i] 1 9 := by
  unfold areVers risesV at h
  simp only [Bool.and_eq_true, List.all_eq_true, List.mem_range] at h
  have := (h.1 i hi).1
  rw [getDV hi] at this
  simpa using this
theorem maxL_vers {xs : List Int} (h : areVers xs = true) : maxL xs = topV xs := by
  cases xs with
  | nil => rfl
  | cons x r =>
    unfold maxL topV
    simp only [List.headD_cons, List.foldl_cons]
    rw [show max x x = x by omega, foldmax_last r x ?_ ?_]
    · cases r with
      | nil => rfl
      | cons y s => simp [List.getLastD_eq_getLast?, List.getLast?_cons_cons, List.getLast?_cons]
    · intro y hy
      obtain ⟨n, hn, rfl⟩ := List.getElem_of_mem hy
      induction n with
      | zero => have := vers_up h (i := 0) (by simp; omega); simp at this; omega
      | succ m ih =>
        have h3 := ih (by omega) (List.getElem_mem _)
        have := vers_up h (i := m + 1) (by simp; omega)
        simp only [List.getElem_cons_succ] at this
        omega
    · intro i hi
      have := vers_up h (i := i + 1) (by simp; omega)
      simp only [List.getElem_cons_succ] at this
      omega
theorem capOk_box {b : Box} {r : List V} (h : CapOk r) : CapOk (.rptr 1 (eBox b) 0 :: r) := capOk_cons (fun H => by simp) (fun H => by simp) h
end Go.Eng.T

namespace Go.Eng.T
set_option maxRecDepth 20000
def passGo : List Box → Hello → Hello × Bool
  | [], h => (h, true)
  | b :: r, h => if (passBox b h).2 = true then passGo r (passBox b h).1 else (noHello, false)
theorem passGo_drop {path : List Box} {j : Nat} {x : Hello} (h : j < path.length) : passGo (path.drop j) x = if (passBox path[j] x).2 = true then passGo (path.drop (j + 1)) (passBox path[j] x).1 else (noHello, false) := by
  rw [List.drop_eq_getElem_cons h]; rfl
theorem passGo_end {path : List Box} {j : Nat} {x : Hello} (h : path.length ≤ j) : passGo (path.drop j) x = (x, true) := by rw [List.drop_eq_nil_of_le h]; rfl
def passPath (path : List Box) (h : Hello) : Hello × Bool := if decide (path.length ≤ 4) && isHello h then passGo path h else (noHello, false)
theorem hB_no : hB noHello := ⟨by simp [noHello], exB_nil⟩
theorem hB_pass {b : Box} {h : Hello} (hh : hB h) : hB (passBox b h).1 := by
  unfold passBox
  split
  · exact ⟨hh.1, exB_kept hh.2 _⟩
  · exact hB_no
theorem passBox_no {b : Box} {h : Hello} (hk : (passBox b h).2 = false) : (passBox b h).1 = noHello := by
  unfold passBox at *
  split at hk
  · cases hk
  · rename_i hc; rw [if_neg hc]
abbrev PassPathS (R : Rel) : Prop := ∀ (path : List Box) (h : Hello), lnS lnBox path → hB h → R [.sl 1 4 path.length (path.flatMap eBox), arg (eHello h)] [] (.tup [.agg (eHello (passPath path h).1), B (passPath path h).2]) []
def isClear (b : Box) : Bool := decide (b.limit = 0) && (decide (b.drops.length = 0) && (decide (b.strips.length = 0) && !b.lists))
abbrev IsClearS (R : Rel) : Prop := ∀ b : Box, lnBox b → R [arg (eBox b)] [] (B (isClear b)) []
theorem clear_box {b : Box} (h : isClear b = true) : isBox b = true := by
  unfold isClear at h
  simp only [Bool.and_eq_true, decide_eq_true_eq] at h
  obtain ⟨h1, h2, h3, _⟩ := h
  have h2' := List.eq_nil_of_length_eq_zero h2
  have h3' := List.eq_nil_of_length_eq_zero h3
  simp [isBox, h1, h2', h3', allIn]
def isClearPath (path : List Box) : Bool := decide (path.length ≤ 4) && path.all isClear
abbrev IsClearPathS (R : Rel) : Prop := ∀ path : List Box, lnS lnBox path → R [.sl 1 4 path.length (path.flatMap eBox)] [] (B (isClearPath path)) []
theorem all_here {α : Type} {p : α → Bool} {xs : List α} {j : Nat} (h : j < xs.length) (hp : p xs[j] = false) : xs.all p = false := List.all_eq_false.2 ⟨_, List.getElem_mem h, by simp [hp]⟩
theorem all_step {α : Type} {p : α → Bool} {xs : List α} {j : Nat} (h : j < xs.length) : (xs.take (j + 1)).all p = ((xs.take j).all p && p xs[j]) := by
  have e : xs.take (j + 1) = xs.take j ++ [xs[j]] := by simp
  rw [e, List.all_append]; simp
theorem all_all {α : Type} {p : α → Bool} {xs : List α} {j : Nat} (h : xs.length ≤ j) : (xs.take j).all p = xs.all p := by rw [List.take_of_length_le h]
abbrev IsClearPath1S (R : Rel) : Prop := ∀ b : Box, lnBox b → R [arg (eBox b)] [] (B (!isClear b)) []
abbrev PlainHelloS (R : Rel) : Prop := ∀ xs : List Int, xs.length ≤ 4194304 → R [.sl 1 1 xs.length (ints xs)] [] (.agg (eHello ⟨xs, []⟩)) []
def isOpen (path : List Box) (vs : List Int) : Bool := areVers vs && (passPath path ⟨vs.take 1, []⟩).2
abbrev IsOpenPathS (R : Rel) : Prop := ∀ (path : List Box) (vs : List Int), lnS lnBox path → vs.length ≤ 4194304 → R [.sl 1 4 path.length (path.flatMap eBox), .sl 1 1 vs.length (ints vs)] [] (B (isOpen path vs)) []
def lostV (path : List Box) (v : Int) : Bool := !(passPath path ⟨[v], []⟩).2
def lostVersions (path : List Box) (vs : List Int) : List Int := if areVers vs = true then vs.filter (lostV path) else []
abbrev LostVersionsS (R : Rel) : Prop := ∀ (path : List Box) (vs : List Int), lnS lnBox path → vs.length ≤ 4194304 → R [.sl 1 4 path.length (path.flatMap eBox), .sl 1 1 vs.length (ints vs)] [] (.sl 0 1 (lostVersions path vs).length (ints (lostVersions path vs))) []
theorem isOpen_one (path : List Box) (v : Int) : isOpen path [v] = !lostV path v := by
  unfold isOpen lostV
  by_cases h : areVers [v] = true
  · simp [h]
  · have : passPath path ⟨[v], []⟩ = (noHello, false) := by
      unfold passPath isHello
      have h' : areVers [v] = false := by simpa using h
      simp [h']
    simp [h, this]
end Go.Eng.T

namespace Go.Eng.T
set_option maxRecDepth 20000
set_option maxHeartbeats 1000000
def leftOf (a b : List Int) : List Int := a.filter fun v => !decide (v ∈ b)
abbrev LeftS (R : Rel) : Prop := ∀ a b : List Int, a.length ≤ 4194304 → b.length ≤ 4194304 → R [.sl 1 1 a.length (ints a), .sl 1 1 b.length (ints b)] [] (.sl 0 1 (leftOf a b).length (ints (leftOf a b))) []
/-- numbers that rise -/
def upTo (xs : List Int) (i : Nat) : Bool := decide (i = 0) || decide (xs.getD (i - 1) 0 < xs.getD i 0)
def areTags (xs : List Int) : Bool := allTo (upTo xs) xs.length && allIn xs 0 255
abbrev AreTagsS (R : Rel) : Prop := ∀ xs : List Int, xs.length ≤ maxLen → R [.sl 1 1 xs.length (ints xs)] [] (B (areTags xs)) []
theorem areTags_no1 {xs : List Int} {j : Nat} (h : j < xs.length) (hn : ¬ InR xs[j] 0 255) : areTags xs = false := by unfold areTags; rw [allIn_no h hn]; simp
theorem areTags_no2 {xs : List Int} {j : Nat} (h : j < xs.length) (hn : upTo xs j = false) : areTags xs = false := by unfold areTags; rw [allTo_no h hn]; simp
theorem upTo_zero (xs : List Int) : upTo xs 0 = true := by simp [upTo]
theorem upTo_at {xs : List Int} {j : Nat} (h0 : ¬ j = 0) (h : j < xs.length) (h' : j - 1 < xs.length) : upTo xs j = decide (xs[j - 1] < xs[j]) := by
  unfold upTo
  rw [getDV h, getDV h']
  simp [h0]
theorem sl32Tags_b (D : Dn) (hI : InS (D gspec_l1In)) : AreTagsS (Body D sspec_l32Tags) := by
  intro xs hl
  unfold maxLen at hl
  simp -implicitDefEqProofs
  refine swp_loop (fun k s => ∃ j, j + k = xs.length ∧ allIn (xs.take j) 0 255 = true ∧ allTo (upTo xs) j = true ∧ s = ⟨[.sl 1 1 xs.length (ints xs), .undef, I j, .undef, .undef], []⟩) ?_ (xs.length) _ ⟨0, by simp, by simp [allIn], by simp, by simp⟩
  intro k s ⟨j, hj, hp, hr, hs⟩
  subst hs
  by_cases hjn : j < xs.length
  · have hw : IntKind.i64.wrap ((j : Int) + 1) = (j + 1 : Nat) := by rw [wrap_id (by omega) (by omega)]; simp
    have hst := allTo_step (upTo xs) j
    rw [hr, Bool.true_and] at hst
    simp -implicitDefEqProofs [hjn]
    refine callQ_of (hI _ _ _) ?_
    by_cases h1 : InR xs[j] 0 255
    rotate_left
    · simp -implicitDefEqProofs [h1, areTags_no1 hjn h1]
    by_cases h0 : j = 0
    · subst h0
      simp -implicitDefEqProofs [h1]
      exact ⟨k - 1, by omega, 1, by omega, by rw [allIn_step hjn, hp]; simp [h1], by rw [hst, upTo_zero], by simpa using hw⟩
    · have hw2 : IntKind.i64.wrap ((j : Int) - 1) = ((j - 1 : Nat) : Int) := by rw [wrap_id (by omega) (by omega)]; omega
      have h2 : (0 : Int) < j := by omega
      have h2' : 0 < j := by omega
      have h3 : j - 1 < xs.length := by omega
      rw [upTo_at h0 hjn h3] at hst
      by_cases h4 : xs[j - 1] < xs[j]
      · have h4' : ¬ xs[j] ≤ xs[j - 1] := by omega
        simp -implicitDefEqProofs [h1, h2, h2', hw2, h3, hjn, h4']
        exact ⟨k - 1, by omega, j + 1, by omega, by rw [allIn_step hjn, hp]; simp [h1], by rw [hst]; simp [h4], by simp [hw]⟩
      · have e := areTags_no2 hjn (by rw [upTo_at h0 hjn h3]; simp [h4])
        have h4' : xs[j] ≤ xs[j - 1] := by omega
        simp -implicitDefEqProofs [h1, h2, h2', hw2, h3, hjn, h4', e]
  · obtain rfl : j = xs.length := by omega
    have e : areTags xs = true := by unfold areTags; rw [hr, allIn_all (by omega) hp]; rfl
    simp -implicitDefEqProofs [e]
theorem iareTags_b (D : Dn) (hN : areNumbersS (D gimpl_areNumbers)) : AreTagsS (Body D simpl_areTags) := by
  intro xs hl
  have hl0 := hl
  unfold maxLen at hl
  simp -implicitDefEqProofs
  refine swp_loop (fun k s => ∃ j, j + k = xs.length ∧ allTo (upTo xs) j = true ∧ s = ⟨[.sl 1 1 xs.length (ints xs), .undef, .undef, .undef, .sl 1 1 xs.length (ints xs), I xs.length, I j, .undef, .undef], []⟩) ?_ (xs.length) _ ⟨0, by simp, by simp, by simp⟩
  intro k s ⟨j, hj, hr, hs⟩
  subst hs
  by_cases hjn : j < xs.length
  · have hw : IntKind.i64.wrap ((j : Int) + 1) = (j + 1 : Nat) := by rw [wrap_id (by omega) (by omega)]; simp
    have hst := allTo_step (upTo xs) j
    rw [hr, Bool.true_and] at hst
    by_cases h0 : j = 0
    · subst h0
      simp -implicitDefEqProofs [hjn]
      exact ⟨k - 1, by omega, 1, by omega, by rw [hst, upTo_zero], by simpa using hw⟩
    · have hw2 : IntKind.i64.wrap ((j : Int) - 1) = ((j - 1 : Nat) : Int) := by rw [wrap_id (by omega) (by omega)]; omega
      have h2 : (0 : Int) < j := by omega
      have h2' : 0 < j := by omega
      have h3 : j - 1 < xs.length := by omega
      rw [upTo_at h0 hjn h3] at hst
      by_cases h4 : xs[j - 1] < xs[j]
      · have h4' : ¬ xs[j] ≤ xs[j - 1] := by omega
        simp -implicitDefEqProofs [h2, h2', hw2, h3, hjn, h4']
        exact ⟨k - 1, by omega, j + 1, by omega, by rw [hst]; simp [h4], by simp [hw]⟩
      · have e := areTags_no2 hjn (by rw [upTo_at h0 hjn h3]; simp [h4])
        have h4' : xs[j] ≤ xs[j - 1] := by omega
        simp -implicitDefEqProofs [h2, h2', hw2, h3, hjn, h4', e]
  · obtain rfl : j = xs.length := by omega
    have e : areTags xs = allIn xs 0 255 := by unfold areTags; rw [hr]; rfl
    simp -implicitDefEqProofs
    refine callQ_of (hN xs _ _ hl0) ?_
    simp -implicitDefEqProofs [e]

def isEndpoint (e : Endpoint) : Bool := areVers e.versions && (decide (e.tags.length ≤ 5) && (areTags e.tags && (!e.tags.any isReserved && (decide (e.path.length ≤ 4) && (e.path.all isBox && decide (InR e.cls 0 5))))))
abbrev IsEndpointS (R : Rel) : Prop := ∀ e : Endpoint, lnEndpoint e → R [arg (eEndpoint e)] [] (B (isEndpoint e)) []
theorem sIsEndpoint_b (D : Dn) (hI : InS (D gspec_l1In)) (hR : IsReservedS (D gspec_IsReserved)) (hX : IsBoxS (D gspec_IsBox)) (hA : AreVersionsS (D gspec_AreVersions)) : IsEndpointS (Body D sspec_IsEndpoint) := by
  intro e hl
  obtain ⟨hl1, hl2, hl3⟩ := hl
  have hl4 := hl3.1
  have hl2' := hl2
  unfold lnInts at hl2
  unfold maxLen at hl2 hl4
  simp -implicitDefEqProofs
  refine swp_loop (fun k s => ∃ j, j + k = e.tags.length ∧ allIn (e.tags.take j) 0 255 = true ∧ allTo (upTo e.tags) j = true ∧ (e.tags.take j).any isReserved = false ∧ s = ⟨[.undef, .ptr 0 0, .undef, I j, .undef, .undef, .undef, .undef, .undef], [.var ((eEndpoint e).map (roCell 1))]⟩) ?_ (e.tags.length) _ ⟨0, by simp, by simp [allIn], by simp, by simp, by simp⟩
  intro k s ⟨j, hj, hp, hr, hq, hs⟩
  subst hs
  by_cases hjn : j < e.tags.length
  · have hw : IntKind.i64.wrap ((j : Int) + 1) = (j + 1 : Nat) := by rw [wrap_id (by omega) (by omega)]; simp
    have hst := allTo_step (upTo e.tags) j
    rw [hr, Bool.true_and] at hst
    have hsq := any_step (p := isReserved) hjn
    rw [hq, Bool.false_or] at hsq
    simp -implicitDefEqProofs [hjn]
    refine callQ_of (hI _ _ _) ?_
    by_cases h1 : InR e.tags[j] 0 255
    rotate_left
    · have e0 : isEndpoint e = false := by unfold isEndpoint; rw [areTags_no1 hjn h1]; simp
      simp -implicitDefEqProofs [h1, e0]
    simp -implicitDefEqProofs [h1, hjn]
    refine callQ_of (hR _) ?_
    by_cases h5 : isReserved e.tags[j] = true
    · have e0 : isEndpoint e = false := by unfold isEndpoint; rw [any_here hjn h5]; simp
      simp -implicitDefEqProofs [h5, e0]
    have h5' : isReserved e.tags[j] = false := by simpa using h5
    by_cases h0 : j = 0
    · subst h0
      simp -implicitDefEqProofs [h1, h5']
      exact ⟨k - 1, by omega, 1, by omega, by rw [allIn_step hjn, hp]; simp [h1], by rw [hst, upTo_zero], by simpa using hsq.trans h5', by simpa using hw⟩
    · have hw2 : IntKind.i64.wrap ((j : Int) - 1) = ((j - 1 : Nat) : Int) := by rw [wrap_id (by omega) (by omega)]; omega
      have h2 : (0 : Int) < j := by omega
      have h2' : 0 < j := by omega
      have h3 : j - 1 < e.tags.length := by omega
      rw [upTo_at h0 hjn h3] at hst
      by_cases h4 : e.tags[j - 1] < e.tags[j]
      · have h4' : ¬ e.tags[j] ≤ e.tags[j - 1] := by omega
        simp -implicitDefEqProofs [h1, h5', h2, h2', hw2, h3, hjn, h4']
        exact ⟨k - 1, by omega, j + 1, by omega, by rw [allIn_step hjn, hp]; simp [h1], by rw [hst]; simp [h4], by simpa using hsq.trans h5', by simp [hw]⟩
      · have e0 : isEndpoint e = false := by unfold isEndpoint; rw [areTags_no2 hjn (by rw [upTo_at h0 hjn h3]; simp [h4])]; simp
        have h4' : e.tags[j] ≤ e.tags[j - 1] := by omega
        simp -implicitDefEqProofs [h1, h5', h2, h2', hw2, h3, hjn, h4', e0]
  obtain rfl : j = e.tags.length := by omega
  have et : areTags e.tags = true := by unfold areTags; rw [hr, allIn_all (by omega) hp]; rfl
  have er : e.tags.any isReserved = false := any_none (by omega) hq
  simp -implicitDefEqProofs
  refine swp_loop (fun k s => ∃ j, j + k = e.path.length ∧ (e.path.take j).all isBox = true ∧ s = ⟨[.undef, .ptr 0 0, .undef, .undef, I j, .undef, .undef, .undef, .undef], [.var ((eEndpoint e).map (roCell 1))]⟩) ?_ (e.path.length) _ ⟨0, by simp, by simp, by simp⟩
  intro k s ⟨j, hj, hb, hs⟩
  subst hs
  by_cases hjn : j < e.path.length
  · have hw : IntKind.i64.wrap ((j : Int) + 1) = (j + 1 : Nat) := by rw [wrap_id (by omega) (by omega)]; simp
    have hst := all_step (p := isBox) hjn
    rw [hb, Bool.true_and] at hst
    simp -implicitDefEqProofs [hjn]
    refine callQ_of (hX _ (hl3.2 j hjn)) ?_
    by_cases h1 : isBox e.path[j] = true
    · simp -implicitDefEqProofs [h1]
      exact ⟨k - 1, by omega, j + 1, by omega, by simpa using hst.trans h1, by simp [hw]⟩
    · have e0 : isEndpoint e = false := by unfold isEndpoint; rw [all_here hjn (by simpa using h1)]; simp
      simp -implicitDefEqProofs [h1, e0]
  have eb : e.path.all isBox = true := by rw [← all_all (j := j) (by omega), hb]
  simp -implicitDefEqProofs [hjn]
  refine callQ_of (hA _ hl1) ?_
  by_cases g1 : areVers e.versions = true
  rotate_left
  · simp -implicitDefEqProofs [g1, isEndpoint]
  by_cases g2 : e.tags.length ≤ 5
  rotate_left
  · have g2' : ¬ (e.tags.length : Int) ≤ 5 := by omega
    simp -implicitDefEqProofs [g1, g2, g2', isEndpoint]
  have g2' : (e.tags.length : Int) ≤ 5 := by omega
  by_cases g3 : e.path.length ≤ 4
  rotate_left
  · have g3' : ¬ (e.path.length : Int) ≤ 4 := by omega
    simp -implicitDefEqProofs [g1, g2, g2', g3, g3', isEndpoint]
  have g3' : (e.path.length : Int) ≤ 4 := by omega
  simp -implicitDefEqProofs [g1, g2', g3']
  refine callQ_of (hI _ _ _) ?_
  have ee : isEndpoint e = decide (InR e.cls 0 5) := by unfold isEndpoint; rw [et, er, eb]; simp [g1, g2, g3]
  simp -implicitDefEqProofs [ee]
abbrev IsEndpoint1S (R : Rel) : Prop := ∀ b : Box, lnBox b → R [arg (eBox b)] [] (B (!isBox b)) []
theorem IsEndpoint1_b (D : Dn) (hX : IsBoxS (D gimpl_IsBox)) : IsEndpoint1S (Body D simpl_IsEndpoint_1) := by
  intro b hb
  simp -implicitDefEqProofs
  refine callQ_of (hX b hb) ?_
  simp -implicitDefEqProofs
theorem any_not {α : Type} (p : α → Bool) (xs : List α) : (xs.any fun x => !p x) = !xs.all p := by rw [List.all_eq_not_any_not]; simp
theorem iIsEndpoint_b (D : Dn) (hA : AreVersionsS (D gimpl_AreVersions)) (hT : AreTagsS (D gimpl_areTags)) (hH : IsHardenedS (D gimpl_IsHardened)) (h1 : IsEndpoint1S (D gimpl_IsEndpoint_1)) (hC : ContainsFuncBoxS D (D gslices_ContainsFunc___impl_Box_impl_Box_)) (hI : InS (D gimpl_InRange)) : IsEndpointS (Body D simpl_IsEndpoint) := by
  intro e hl
  obtain ⟨hl1, hl2, hl3⟩ := hl
  simp -implicitDefEqProofs
  refine callQ_of (hA _ hl1) ?_
  by_cases g1 : areVers e.versions = true
  rotate_left
  · simp -implicitDefEqProofs [g1, isEndpoint]
  by_cases g2 : e.tags.length ≤ 5
  rotate_left
  · have g2' : ¬ (e.tags.length : Int) ≤ 5 := by omega
    simp -implicitDefEqProofs [g1, g2, g2', isEndpoint]
  have g2' : (e.tags.length : Int) ≤ 5 := by omega
  simp -implicitDefEqProofs [g1, g2']
  refine callQ_of (hT _ hl2) ?_
  by_cases g4 : areTags e.tags = true
  rotate_left
  · simp -implicitDefEqProofs [g4, isEndpoint]
  simp -implicitDefEqProofs [g4]
  refine callQ_of (hH _ hl2) ?_
  by_cases g5 : e.tags.any isReserved = true
  · have e0 : isEndpoint e = false := by unfold isEndpoint; rw [g5]; simp
    generalize e.tags.any isReserved = q at g5
    subst g5
    simp -implicitDefEqProofs [e0]
  have g5' : e.tags.any isReserved = false := by simpa using g5
  have ee : isEndpoint e = (decide (e.path.length ≤ 4) && (e.path.all isBox && decide (InR e.cls 0 5))) := by unfold isEndpoint; rw [g5', g1, g4]; simp [g2]
  rw [ee]
  generalize e.tags.any isReserved = q at g5'
  subst g5'
  by_cases g3 : e.path.length ≤ 4
  rotate_left
  · have g3' : ¬ (e.path.length : Int) ≤ 4 := by omega
    simp -implicitDefEqProofs [g3, g3']
  have g3' : (e.path.length : Int) ≤ 4 := by omega
  simp -implicitDefEqProofs [g3, g3']
  refine callQ_of (hC e.path gimpl_IsEndpoint_1 [] (fun b => !isBox b) hl3.1 capOk_nil (fun j hj => h1 e.path[j] (hl3.2 j hj))) ?_
  rw [any_not]
  generalize e.path.all isBox = q
  by_cases g6 : q = true
  rotate_left
  · simp -implicitDefEqProofs [g6]
  simp -implicitDefEqProofs [g6]
  refine callQ_of (hI _ _ _) ?_
  simp -implicitDefEqProofs

theorem ln_box {b : Box} (h : szBox b ≤ 4194304) : lnBox b := by
  unfold szBox at h
  exact ⟨by unfold lnInts maxLen; omega, by unfold lnInts maxLen; omega⟩
theorem ln_path {p : List Box} (h : sumF szBox p ≤ 4194304) : lnS lnBox p :=
  ⟨by have := size_len (f := szBox) (xs := p); unfold maxLen; omega, fun j hj => ln_box (by have := size_at (f := szBox) hj; omega)⟩
theorem ln_end {e : Endpoint} (h : szEndpoint e ≤ 4194304) : lnEndpoint e := by
  unfold szEndpoint at h
  exact ⟨by unfold lnInts maxLen; omega, by unfold lnInts maxLen; omega, ln_path (by omega)⟩
theorem world_end {w : World} (h : szWorld w ≤ 4194304) {n : Nat} (hn : n < w.ends.length) : szEndpoint w.ends[n] ≤ 4194304 := by
  have := size_at (f := szEndpoint) hn
  have := (world_szs h).2.2.1
  omega
theorem endp_vers {e : Endpoint} (h : szEndpoint e ≤ 4194304) : e.versions.length ≤ 4194304 := by unfold szEndpoint at h; omega
def bestFor (e : Endpoint) (s : List Int) : Int := if isEndpoint e = true then bestCommon s (leftOf e.versions (lostVersions e.path e.versions)) else 0
abbrev BestForS (R : Rel) : Prop := ∀ (e : Endpoint) (s : List Int), szEndpoint e ≤ 4194304 → s.length ≤ 4194304 → R [arg (eEndpoint e), .sl 1 1 s.length (ints s)] [] (I (bestFor e s)) []
theorem lost_len (path : List Box) (vs : List Int) : (lostVersions path vs).length ≤ vs.length := by
  unfold lostVersions
  split
  · exact List.length_filter_le _ _
  · simp
theorem left_len (a b : List Int) : (leftOf a b).length ≤ a.length := List.length_filter_le _ _
def bestNow (w : World) (i : Int) : Int := if InQ i 0 ((w.ends.length : Int) - 1) then (match w.ends[i.toNat]? with | some e => bestFor e w.server | none => 0) else 0
abbrev BestNowS (R : Rel) : Prop := ∀ (w : World) (i : Int), szWorld w ≤ 4194304 → R [arg (eWorld w), I i] [] (I (bestNow w i)) []
end Go.Eng.T

namespace Go.Eng.T
set_option maxRecDepth 20000
set_option maxHeartbeats 2000000
abbrev IndexFuncRowsS (D : Dn) (R : Rel) : Prop := ∀ (xs : List (List Int)) (g : Nat) (caps : List V) (p : List Int → Bool), xs.length ≤ maxLen → CapOk caps → (∀ (j : Nat) (h : j < xs.length), D g (.sl 1 1 xs[j].length (ints xs[j]) :: caps) [] (B (p xs[j])) []) → R [rowsA xs, .fn g caps] [] (I (idxP p xs 0)) []
theorem IndexFuncRows_b (D : Dn) : IndexFuncRowsS D (Body D sslices_IndexFunc_____int___int_) := by
  intro xs g caps p hl hc hp
  unfold maxLen at hl
  simp -implicitDefEqProofs
  refine swp_loop (fun k s => ∃ j, j + k = xs.length ∧ idxP p xs 0 = idxP p (xs.drop j) j ∧ s = ⟨[rowsA xs, .fn g caps, .undef, .undef, I xs.length, I j, .undef, .undef], []⟩) ?_ (xs.length) _ ⟨0, by simp, by simp, by simp⟩
  intro k s ⟨j, hj, hi, hs⟩
  subst hs
  by_cases hjn : j < xs.length
  · have hw : IntKind.i64.wrap ((j : Int) + 1) = (j + 1 : Nat) := by rw [wrap_id (by omega) (by omega)]; simp
    rw [idxP_drop hjn] at hi
    simp -implicitDefEqProofs [hjn, hc.1, hc.2.1]
    refine callQ_of (hp j hjn) ?_
    by_cases he : p xs[j] = true
    · rw [if_pos he] at hi
      simp -implicitDefEqProofs [he, hi]
    · rw [if_neg he] at hi
      simp -implicitDefEqProofs [he]
      exact ⟨k - 1, by omega, j + 1, by omega, by simpa using hi, by simp [hw]⟩
  · rw [idxP_end (by omega)] at hi
    simp -implicitDefEqProofs [hjn, hi]
abbrev ContainsFuncRowsS (D : Dn) (R : Rel) : Prop := ∀ (xs : List (List Int)) (g : Nat) (caps : List V) (p : List Int → Bool), xs.length ≤ maxLen → CapOk caps → (∀ (j : Nat) (h : j < xs.length), D g (.sl 1 1 xs[j].length (ints xs[j]) :: caps) [] (B (p xs[j])) []) → R [rowsA xs, .fn g caps] [] (B (xs.any p)) []
theorem ContainsFuncRows_b (D : Dn) (hI : IndexFuncRowsS D (D gslices_IndexFunc_____int___int_)) : ContainsFuncRowsS D (Body D sslices_ContainsFunc_____int___int_) := by
  intro xs g caps p hl hc hp
  simp -implicitDefEqProofs [hc.2.2]
  refine callQ_of (hI xs g caps p hl hc hp) ?_
  have e : decide (0 ≤ idxP p xs 0) = xs.any p := by rw [Bool.eq_iff_iff]; simp only [decide_eq_true_eq]; rw [idxP_ge (by omega)]
  simp -implicitDefEqProofs [e]
def reach (s l : List Int) : Bool := !decide (bestCommon s l = 0)
def allReach (s : List Int) (ls : List (List Int)) : Bool := areVers s && ls.all (reach s)
abbrev AllReachS (R : Rel) : Prop := ∀ (s : List Int) (ls : List (List Int)), s.length ≤ 4194304 → szRows ls ≤ 4194304 → R [.sl 1 1 s.length (ints s), rowsA ls] [] (B (allReach s ls)) []
theorem sAllReach_b (D : Dn) (hB : BestCommonS (D gspec_BestCommon)) (hA : AreVersionsS (D gspec_AreVersions)) : AllReachS (Body D sspec_AllReach) := by
  intro sv ls hs hl
  have hll := rows_len (xs := ls)
  simp -implicitDefEqProofs
  refine swp_loop (fun k s => ∃ j, j + k = ls.length ∧ (ls.take j).all (reach sv) = true ∧ s = ⟨[.sl 1 1 sv.length (ints sv), rowsA ls, .undef, I j, .undef, .undef], []⟩) ?_ (ls.length) _ ⟨0, by simp, by simp, by simp⟩
  intro k s ⟨j, hj, hp, hs⟩
  subst hs
  by_cases hjn : j < ls.length
  · have hw : IntKind.i64.wrap ((j : Int) + 1) = (j + 1 : Nat) := by rw [wrap_id (by omega) (by omega)]; simp
    have hst := all_step (p := reach sv) hjn
    rw [hp, Bool.true_and] at hst
    have hra := rows_at hjn
    simp -implicitDefEqProofs [hjn]
    refine callQ_of (hB sv _ hs (by omega)) ?_
    by_cases h1 : bestCommon sv ls[j] = 0
    · have e : allReach sv ls = false := by unfold allReach; rw [all_here hjn (by simp [reach, h1])]; simp
      simp -implicitDefEqProofs [h1, e, beqI]
    · simp -implicitDefEqProofs [h1, beqI]
      exact ⟨k - 1, by omega, j + 1, by omega, by simpa using hst.trans (show reach sv ls[j] = true by simp [reach, h1]), by simp [hw]⟩
  · have e : allReach sv ls = areVers sv := by unfold allReach; rw [← all_all (j := j) (by omega), hp]; simp
    simp -implicitDefEqProofs [hjn]
    refine callQ_of (hA sv (by unfold maxLen; omega)) ?_
    simp -implicitDefEqProofs [e]
abbrev AllReach1S (R : Rel) : Prop := ∀ (s l : List Int), s.length ≤ 4194304 → l.length ≤ 4194304 → R [.sl 1 1 l.length (ints l), .rptr 1 [.sl 0 1 s.length (ints s)] 0] [] (B (!reach s l)) []
theorem AllReach1_b (D : Dn) (hB : BestCommonS (D gimpl_BestCommon)) : AllReach1S (Body D simpl_AllReach_1) := by
  intro s l hs hl
  simp -implicitDefEqProofs
  refine callQ_of (hB s l hs hl) ?_
  simp -implicitDefEqProofs [reach, beqI]
theorem iAllReach_b (D : Dn) (hA : AreVersionsS (D gimpl_AreVersions)) (h1' : AllReach1S (D gimpl_AllReach_1)) (hC : ContainsFuncRowsS D (D gslices_ContainsFunc_____int___int_)) : AllReachS (Body D simpl_AllReach) := by
  intro s ls hs hl
  have hll := rows_len (xs := ls)
  simp -implicitDefEqProofs
  refine callQ_of (hA s (by unfold maxLen; omega)) ?_
  by_cases h1 : areVers s = true
  rotate_left
  · simp -implicitDefEqProofs [h1, allReach]
  simp -implicitDefEqProofs [h1]
  refine callQ_of (hC ls gimpl_AllReach_1 _ (fun l => !reach s l) (by unfold maxLen; omega) (capOk_ints capOk_nil) (fun j hj => h1' s ls[j] hs (by have := rows_at hj; omega))) ?_
  rw [any_not]
  generalize hq : ls.all (reach s) = q
  simp -implicitDefEqProofs [allReach, h1, hq]
def validKey (k : Int) : Bool := decide (InR k 1 2147483646)
abbrev ValidKeyS (R : Rel) : Prop := ∀ k : Int, R [I k] [] (B (validKey k)) []
theorem sValidKey_b (D : Dn) (hI : InS (D gspec_l1In)) : ValidKeyS (Body D sspec_IsValidKey) := by
  intro k
  simp -implicitDefEqProofs
  refine callQ_of (hI _ _ _) ?_
  simp -implicitDefEqProofs [validKey]
theorem iValidKey_b (D : Dn) (hI : InS (D gimpl_InRange)) : ValidKeyS (Body D simpl_IsValidKey) := by
  intro k
  simp -implicitDefEqProofs
  refine callQ_of (hI _ _ _) ?_
  simp -implicitDefEqProofs [validKey]
def isWorldA (w : World) : Bool := allReach w.server (listsOf w) && (areTags w.tags && validKey w.key)
def isWorldB (w : World) : Bool := isRollout w.rollout && (decide (w.rollout.version ∈ w.server) && (decide (InR w.least 1 100) && decide (InR w.percent 0 100)))
def isWorldC (w : World) : Bool := decide (w.stage.length ≤ 60) && (decide (w.log.length ≤ 60) && (decide (InR w.now 0 10000) && (decide (InR w.hurt 0 w.log.length) && decide (InR w.reached 0 w.rollout.stages.length))))
def isWorld (w : World) : Bool := isWorldA w && (decide (w.ends.length ≤ 6) && (w.ends.all isEndpoint && (isWorldB w && isWorldC w)))
abbrev IsWorldS (R : Rel) : Prop := ∀ w : World, szWorld w ≤ 4194304 → R [arg (eWorld w)] [] (B (isWorld w)) []
abbrev IsWorld1S (R : Rel) : Prop := ∀ e : Endpoint, szEndpoint e ≤ 4194304 → R [arg (eEndpoint e)] [] (B (!isEndpoint e)) []
theorem IsWorld1_b (D : Dn) (hE : IsEndpointS (D gimpl_IsEndpoint)) : IsWorld1S (Body D simpl_IsWorld_1) := by
  intro e h
  simp -implicitDefEqProofs
  refine callQ_of (hE e (ln_end h)) ?_
  simp -implicitDefEqProofs
theorem iIsWorld_b (D : Dn) (hL : ListsOfS (D gimpl_ListsOf)) (hA : AllReachS (D gimpl_AllReach)) (hT : AreTagsS (D gimpl_areTags)) (hK : ValidKeyS (D gimpl_IsValidKey)) (h1' : IsWorld1S (D gimpl_IsWorld_1)) (hC : ContainsFuncEndpointS D (D gslices_ContainsFunc___impl_Endpoint_impl_Endpoint_)) (hR : IsRolloutS (D gimpl_IsRollout)) (hH : HasS (D gslices_Contains___int_int_)) (hI : InS (D gimpl_InRange)) : IsWorldS (Body D simpl_IsWorld) := by
  intro w hsz
  have hs := world_szs hsz
  have he := world_ends hsz
  simp -implicitDefEqProofs
  refine callQ_of (hL w hsz) ?_
  simp -implicitDefEqProofs
  refine callQ_of (hA w.server (listsOf w) hs.1 (lists_sz hsz)) ?_
  by_cases a1 : allReach w.server (listsOf w) = true
  rotate_left
  · simp -implicitDefEqProofs [a1, isWorld, isWorldA]
  simp -implicitDefEqProofs [a1]
  refine callQ_of (hT w.tags (by unfold maxLen; omega)) ?_
  by_cases a2 : areTags w.tags = true
  rotate_left
  · simp -implicitDefEqProofs [a2, isWorld, isWorldA]
  simp -implicitDefEqProofs [a2]
  refine callQ_of (hK w.key) ?_
  by_cases a3 : validKey w.key = true
  rotate_left
  · simp -implicitDefEqProofs [a3, isWorld, isWorldA]
  by_cases e1 : w.ends.length ≤ 6
  rotate_left
  · have e1' : (6 : Int) < w.ends.length := by omega
    simp -implicitDefEqProofs [a3, e1', e1, isWorld]
  have e1' : ¬ (6 : Int) < w.ends.length := by omega
  simp -implicitDefEqProofs [a3, e1']
  refine callQ_of (hC w.ends gimpl_IsWorld_1 [] (fun e => !isEndpoint e) (by unfold maxLen; omega) capOk_nil (fun j hj => h1' w.ends[j] (world_end hsz hj))) ?_
  rw [any_not]
  generalize hq : w.ends.all isEndpoint = q
  by_cases e2 : q = true
  rotate_left
  · have e : isWorld w = false := by unfold isWorld; rw [hq]; simp [e2]
    simp -implicitDefEqProofs [e2, e]
  have hq' := hq.trans e2
  simp -implicitDefEqProofs [e2]
  refine callQ_of (hR w.rollout (world_roll hsz)) ?_
  by_cases b1 : isRollout w.rollout = true
  rotate_left
  · simp -implicitDefEqProofs [b1, isWorld, isWorldB]
  simp -implicitDefEqProofs [b1]
  refine callQ_of (hH w.server _ (by unfold maxLen; omega)) ?_
  by_cases b2 : w.rollout.version ∈ w.server
  rotate_left
  · simp -implicitDefEqProofs [b2, isWorld, isWorldB]
  simp -implicitDefEqProofs [b2]
  refine callQ_of (hI _ _ _) ?_
  by_cases b3 : InR w.least 1 100
  rotate_left
  · simp -implicitDefEqProofs [b3, isWorld, isWorldB]
  simp -implicitDefEqProofs [b3]
  refine callQ_of (hI _ _ _) ?_
  by_cases b4 : InR w.percent 0 100
  rotate_left
  · simp -implicitDefEqProofs [b4, isWorld, isWorldB]
  by_cases c1 : w.stage.length ≤ 60
  rotate_left
  · have c1' : ¬ (w.stage.length : Int) ≤ 60 := by omega
    simp -implicitDefEqProofs [b4, c1', c1, isWorld, isWorldC]
  have c1' : (w.stage.length : Int) ≤ 60 := by omega
  by_cases c2 : w.log.length ≤ 60
  rotate_left
  · have c2' : ¬ (w.log.length : Int) ≤ 60 := by omega
    simp -implicitDefEqProofs [b4, c1', c2', c2, isWorld, isWorldC]
  have c2' : (w.log.length : Int) ≤ 60 := by omega
  simp -implicitDefEqProofs [b4, c1', c2']
  refine callQ_of (hI _ _ _) ?_
  by_cases c3 : InR w.now 0 10000
  rotate_left
  · simp -implicitDefEqProofs [b4, c1', c2', c3, isWorld, isWorldC]
  simp -implicitDefEqProofs [b4, c1', c2', c3]
  refine callQ_of (hI _ _ _) ?_
  by_cases c4 : InR w.hurt 0 w.log.length
  rotate_left
  · simp -implicitDefEqProofs [b4, c1', c2', c3, c4, isWorld, isWorldC]
  simp -implicitDefEqProofs [b4, c1', c2', c3, c4]
  refine callQ_of (hI _ _ _) ?_
  have ec : isWorldC w = decide (InR w.reached 0 w.rollout.stages.length) := by unfold isWorldC; simp [c1, c2, c3, c4]
  have ee : isWorld w = isWorldC w := by unfold isWorld isWorldA isWorldB; rw [hq']; simp [a1, a2, a3, e1, b1, b2, b3, b4]
  simp -implicitDefEqProofs [ee, ec]
theorem sIsWorld_b (D : Dn) (hE : IsEndpointS (D gspec_IsEndpoint)) (hV : AreVersionsS (D gspec_AreVersions)) (hT : AreTagsS (D gspec_l32Tags)) (hK : ValidKeyS (D gspec_IsValidKey)) (hR : IsRolloutS (D gspec_IsRollout)) (hH : HasS (D gspec_l9Has)) (hL : ListsOfS (D gspec_ListsOf)) (hA : AllReachS (D gspec_AllReach)) (hI : InS (D gspec_l1In)) : IsWorldS (Body D sspec_IsWorld) := by
  intro w hsz
  have hs := world_szs hsz
  have he := world_ends hsz
  simp -implicitDefEqProofs
  refine swp_loop (fun k s => ∃ j, j + k = w.ends.length ∧ (w.ends.take j).all isEndpoint = true ∧ s = ⟨[.undef, .ptr 0 0, .undef, I j, .undef, .undef, .undef], [.var ((eWorld w).map (roCell 1)), .free]⟩) ?_ (w.ends.length) _ ⟨0, by simp, by simp, by simp⟩
  intro k s ⟨j, hj, hp, hs⟩
  subst hs
  by_cases hjn : j < w.ends.length
  · have hw : IntKind.i64.wrap ((j : Int) + 1) = (j + 1 : Nat) := by rw [wrap_id (by omega) (by omega)]; simp
    have hst := all_step (p := isEndpoint) hjn
    rw [hp, Bool.true_and] at hst
    simp -implicitDefEqProofs [hjn]
    refine callQ_of (hE w.ends[j] (ln_end (world_end hsz hjn))) ?_
    by_cases h1 : isEndpoint w.ends[j] = true
    · simp -implicitDefEqProofs [h1]
      exact ⟨k - 1, by omega, j + 1, by omega, by simpa using hst.trans h1, by simp [hw]⟩
    · have e : isWorld w = false := by unfold isWorld; rw [all_here hjn (by simpa using h1)]; simp
      simp -implicitDefEqProofs [h1, e]
  have hq' : w.ends.all isEndpoint = true := by rw [← all_all (j := j) (by omega), hp]
  simp -implicitDefEqProofs [hjn]
  refine callQ_of (hV w.server (by unfold maxLen; omega)) ?_
  by_cases v1 : areVers w.server = true
  rotate_left
  · simp -implicitDefEqProofs [v1, isWorld, isWorldA, allReach]
  simp -implicitDefEqProofs [v1]
  refine callQ_of (hT w.tags (by unfold maxLen; omega)) ?_
  by_cases a2 : areTags w.tags = true
  rotate_left
  · simp -implicitDefEqProofs [a2, isWorld, isWorldA]
  simp -implicitDefEqProofs [a2]
  refine callQ_of (hK w.key) ?_
  by_cases a3 : validKey w.key = true
  rotate_left
  · simp -implicitDefEqProofs [a3, isWorld, isWorldA]
  by_cases e1 : w.ends.length ≤ 6
  rotate_left
  · have e1' : (6 : Int) < w.ends.length := by omega
    simp -implicitDefEqProofs [a3, e1', e1, isWorld]
  have e1' : ¬ (6 : Int) < w.ends.length := by omega
  simp -implicitDefEqProofs [a3, e1']
  refine callQ_of (hR w.rollout (world_roll hsz)) ?_
  by_cases b1 : isRollout w.rollout = true
  rotate_left
  · simp -implicitDefEqProofs [b1, isWorld, isWorldB]
  simp -implicitDefEqProofs [b1]
  refine callQ_of (hH w.server _ (by unfold maxLen; omega)) ?_
  by_cases b2 : w.rollout.version ∈ w.server
  rotate_left
  · simp -implicitDefEqProofs [b2, isWorld, isWorldB]
  simp -implicitDefEqProofs [b2]
  refine callQ_of (hL w hsz) ?_
  simp -implicitDefEqProofs [b2]
  refine callQ_of (hA w.server (listsOf w) hs.1 (lists_sz hsz)) ?_
  by_cases a1 : allReach w.server (listsOf w) = true
  rotate_left
  · simp -implicitDefEqProofs [a1, isWorld, isWorldA]
  simp -implicitDefEqProofs [a1]
  refine callQ_of (hI _ _ _) ?_
  by_cases b3 : InR w.least 1 100
  rotate_left
  · simp -implicitDefEqProofs [b3, isWorld, isWorldB]
  simp -implicitDefEqProofs [b3]
  refine callQ_of (hI _ _ _) ?_
  by_cases b4 : InR w.percent 0 100
  rotate_left
  · simp -implicitDefEqProofs [b4, isWorld, isWorldB]
  by_cases c1 : w.stage.length ≤ 60
  rotate_left
  · have c1' : ¬ (w.stage.length : Int) ≤ 60 := by omega
    simp -implicitDefEqProofs [b4, c1', c1, isWorld, isWorldC]
  have c1' : (w.stage.length : Int) ≤ 60 := by omega
  by_cases c2 : w.log.length ≤ 60
  rotate_left
  · have c2' : ¬ (w.log.length : Int) ≤ 60 := by omega
    simp -implicitDefEqProofs [b4, c1', c2', c2, isWorld, isWorldC]
  have c2' : (w.log.length : Int) ≤ 60 := by omega
  simp -implicitDefEqProofs [b4, c1', c2']
  refine callQ_of (hI _ _ _) ?_
  by_cases c3 : InR w.now 0 10000
  rotate_left
  · simp -implicitDefEqProofs [b4, c1', c2', c3, isWorld, isWorldC]
  simp -implicitDefEqProofs [b4, c1', c2', c3]
  refine callQ_of (hI _ _ _) ?_
  by_cases c4 : InR w.hurt 0 w.log.length
  rotate_left
  · simp -implicitDefEqProofs [b4, c1', c2', c3, c4, isWorld, isWorldC]
  simp -implicitDefEqProofs [b4, c1', c2', c3, c4]
  refine callQ_of (hI _ _ _) ?_
  have ec : isWorldC w = decide (InR w.reached 0 w.rollout.stages.length) := by unfold isWorldC; simp [c1, c2, c3, c4]
  have ee : isWorld w = isWorldC w := by unfold isWorld isWorldA isWorldB; rw [hq']; simp [a1, a2, a3, e1, b1, b2, b3, b4]
  simp -implicitDefEqProofs [ee, ec]
def zeroWorld : World := ⟨[], [], 0, [], ⟨0, [], 0, false⟩, 0, 0, [], [], 0, 0, 0⟩
def firstWorld (s t : List Int) (es : List Endpoint) (r : Rollout) : World := ⟨s, t, 77, es, r, 4, 25, [], [], 0, 0, 0⟩
def newWorld (s t : List Int) (es : List Endpoint) (r : Rollout) : World × Bool := if isWorld (firstWorld s t es r) = true then (firstWorld s t es r, true) else (zeroWorld, false)
abbrev NewWorldS (R : Rel) : Prop := ∀ (s t : List Int) (es : List Endpoint) (r : Rollout), szWorld (firstWorld s t es r) ≤ 4194304 → R [.sl 1 1 s.length (ints s), .sl 1 1 t.length (ints t), .sl 1 4 es.length (es.flatMap eEndpoint), arg (eRollout r)] [] (.tup [.agg (eWorld (newWorld s t es r).1), B (newWorld s t es r).2]) []
theorem first_sz (s t : List Int) (es : List Endpoint) (r : Rollout) : szWorld (firstWorld s t es r) = s.length + t.length + sumF szEndpoint es + szRollout r := by
  simp [szWorld, firstWorld, sumF]
theorem new_sz (s t : List Int) (es : List Endpoint) (r : Rollout) : szWorld (newWorld s t es r).1 ≤ s.length + t.length + sumF szEndpoint es + szRollout r := by
  unfold newWorld
  split
  · rw [first_sz]; omega
  · simp [szWorld, zeroWorld, sumF, szRollout]
theorem sNewWorld_b (D : Dn) (hC : cpWorldS (D gspec_l32Copy)) (hW : IsWorldS (D gspec_IsWorld)) : NewWorldS (Body D sspec_NewWorld) := by
  intro s t es r hsz
  simp -implicitDefEqProofs
  refine callQ_of (hC (firstWorld s t es r) hsz) ?_
  simp -implicitDefEqProofs [firstWorld]
  refine callQ_of (hW (firstWorld s t es r) hsz) ?_
  generalize hq : isWorld (firstWorld s t es r) = q
  by_cases h1 : q = true
  · have e : newWorld s t es r = (firstWorld s t es r, true) := by unfold newWorld; rw [if_pos (hq.trans h1)]
    simp -implicitDefEqProofs [h1, e, firstWorld]
  · have e : newWorld s t es r = (zeroWorld, false) := by unfold newWorld; rw [if_neg (by rw [hq]; exact h1)]
    simp -implicitDefEqProofs [h1, e, zeroWorld]
theorem iNewWorld_b (D : Dn) (hC : cpWorldS (D gimpl_copyWorld)) (hW : IsWorldS (D gimpl_IsWorld)) : NewWorldS (Body D simpl_NewWorld) := by
  intro s t es r hsz
  simp -implicitDefEqProofs
  refine callQ_of (hC (firstWorld s t es r) hsz) ?_
  simp -implicitDefEqProofs [firstWorld]
  refine callQ_of (hW (firstWorld s t es r) hsz) ?_
  generalize hq : isWorld (firstWorld s t es r) = q
  by_cases h1 : q = true
  · have e : newWorld s t es r = (firstWorld s t es r, true) := by unfold newWorld; rw [if_pos (hq.trans h1)]
    simp -implicitDefEqProofs [h1, e, firstWorld]
  · have e : newWorld s t es r = (zeroWorld, false) := by unfold newWorld; rw [if_neg (by rw [hq]; exact h1)]
    simp -implicitDefEqProofs [h1, e, zeroWorld]
end Go.Eng.T

namespace Go.Eng.T
set_option maxRecDepth 20000
set_option maxHeartbeats 2000000
abbrev FnExactNewWorldS (R : Rel) : Prop := ∀ (aServer : List Int) (aTags : List Int) (aEnds : List Endpoint) (aR : Rollout), lnInts aServer → lnInts aTags → lnS lnEndpoint aEnds → lnRollout aR → rgInts aServer → rgInts aTags → rgS rgEndpoint aEnds → rgRollout aR → R [.sl 1 1 aServer.length (ints aServer), .sl 1 1 aTags.length (ints aTags), .sl 1 4 aEnds.length (aEnds.flatMap eEndpoint), arg (eRollout aR)] [] (B true) []
theorem FnExactNewWorld_b (D : Dn) (hs : NewWorldS (D gspec_NewWorld)) (hi : NewWorldS (D gimpl_NewWorld)) (hszEndpointS : szEndpointSS (D glaws_szEndpointS)) (hszRollout : szRolloutS (D glaws_szRollout)) (htoIntS : toIntSS (D glaws_toIntS)) (htoEndpointS : toEndpointSS (D glaws_toEndpointS)) (htoRollout : toRolloutS (D glaws_toRollout)) (heqWorld : eqWorldS (D glaws_eqWorld)) (heqIntS : eqIntSS (D glaws_eqIntS)) (heqEndpointS : eqEndpointSS (D glaws_eqEndpointS)) (heqRollout : eqRolloutS (D glaws_eqRollout)) (hmarkIntS : markIntSS (D glaws_markIntS)) (hmarkEndpointS : markEndpointSS (D glaws_markEndpointS)) (hmarkRollout : markRolloutS (D glaws_markRollout)) (hmarkWorld : markWorldS (D glaws_markWorld)) (hheldWorld : heldWorldS (D glaws_heldWorld)) : FnExactNewWorldS (Body D slaws_FnExactNewWorld) := by
  intro aServer aTags aEnds aR l_aServer l_aTags l_aEnds l_aR w_aServer w_aTags w_aEnds w_aR
  by_cases g1 : (1048576 : Int) < ((aServer.length : Nat) : Int)
  · simp -implicitDefEqProofs [g1]
  by_cases g2 : (1048576 : Int) < ((aTags.length : Nat) : Int)
  · simp -implicitDefEqProofs [g1, g2]
  simp -implicitDefEqProofs [g1, g2]
  refine callQ_of (hszEndpointS aEnds ((1048576 : Int)) (by omega) (by omega) l_aEnds) ?_
  by_cases g3 : (1048576 : Int) < ((sumF szEndpoint aEnds : Nat) : Int)
  · simp -implicitDefEqProofs [szl_lt g3]
  have p3 : ¬ (1048576 : Int) - ((sumF szEndpoint aEnds : Nat) : Int) < 0 := by omega
  simp -implicitDefEqProofs [g1, g2, szl_ge g3, p3]
  refine callQ_of (hszRollout aR ((1048576 : Int) - ((sumF szEndpoint aEnds : Nat) : Int)) (by omega) (by omega) l_aR) ?_
  by_cases g4 : (1048576 : Int) - ((sumF szEndpoint aEnds : Nat) : Int) < ((szRollout aR : Nat) : Int)
  · simp -implicitDefEqProofs [szl_lt g4]
  have p4 : ¬ (1048576 : Int) - ((sumF szEndpoint aEnds : Nat) : Int) - ((szRollout aR : Nat) : Int) < 0 := by omega
  simp -implicitDefEqProofs [g1, g2, szl_ge g3, p3, szl_ge g4, p4]
  have hs' := hs aServer aTags aEnds aR (by have := first_sz aServer aTags aEnds aR; omega)
  have hi' := hi aServer aTags aEnds aR (by have := first_sz aServer aTags aEnds aR; omega)
  obtain ⟨b0, c0⟩ : szWorld ((newWorld aServer aTags aEnds aR).1) ≤ 1099511627776 ∧ mcWorld ((newWorld aServer aTags aEnds aR).1) ≤ 1099511627776 := (by have a1 := new_sz aServer aTags aEnds aR; have a2 := mc_szWorld ((newWorld aServer aTags aEnds aR).1); omega)
  generalize (newWorld aServer aTags aEnds aR).1 = r0 at hs' hi' b0 c0
  refine callQ_of (htoIntS aServer (by omega)) ?_
  simp -implicitDefEqProofs [g1, g2, szl_ge g3, p3, szl_ge g4, p4]
  refine callQ_of (htoIntS aTags (by omega)) ?_
  simp -implicitDefEqProofs [g1, g2, szl_ge g3, p3, szl_ge g4, p4]
  refine callQ_of (htoEndpointS aEnds (by omega)) ?_
  simp -implicitDefEqProofs [g1, g2, szl_ge g3, p3, szl_ge g4, p4]
  refine callQ_of (htoRollout aR (by omega)) ?_
  simp -implicitDefEqProofs [g1, g2, szl_ge g3, p3, szl_ge g4, p4]
  refine callQ_of (hs') ?_
  simp -implicitDefEqProofs [g1, g2, szl_ge g3, p3, szl_ge g4, p4]
  refine callQ_of (htoIntS aServer (by omega)) ?_
  simp -implicitDefEqProofs [g1, g2, szl_ge g3, p3, szl_ge g4, p4]
  refine callQ_of (htoIntS aTags (by omega)) ?_
  simp -implicitDefEqProofs [g1, g2, szl_ge g3, p3, szl_ge g4, p4]
  refine callQ_of (htoEndpointS aEnds (by omega)) ?_
  simp -implicitDefEqProofs [g1, g2, szl_ge g3, p3, szl_ge g4, p4]
  refine callQ_of (htoRollout aR (by omega)) ?_
  simp -implicitDefEqProofs [g1, g2, szl_ge g3, p3, szl_ge g4, p4]
  refine callQ_of (hi') ?_
  simp -implicitDefEqProofs [g1, g2, szl_ge g3, p3, szl_ge g4, p4]
  refine callQ_of (heqWorld r0 r0 (by omega) (by omega)) ?_
  simp -implicitDefEqProofs [g1, g2, szl_ge g3, p3, szl_ge g4, p4]
  refine callQ_of (htoIntS aServer (by omega)) ?_
  simp -implicitDefEqProofs [g1, g2, szl_ge g3, p3, szl_ge g4, p4]
  refine callQ_of (heqIntS aServer aServer (by unfold maxLen; omega) (by unfold maxLen; omega)) ?_
  simp -implicitDefEqProofs [g1, g2, szl_ge g3, p3, szl_ge g4, p4]
  refine callQ_of (htoIntS aTags (by omega)) ?_
  simp -implicitDefEqProofs [g1, g2, szl_ge g3, p3, szl_ge g4, p4]
  refine callQ_of (heqIntS aTags aTags (by unfold maxLen; omega) (by unfold maxLen; omega)) ?_
  simp -implicitDefEqProofs [g1, g2, szl_ge g3, p3, szl_ge g4, p4]
  refine callQ_of (htoEndpointS aEnds (by omega)) ?_
  simp -implicitDefEqProofs [g1, g2, szl_ge g3, p3, szl_ge g4, p4]
  refine callQ_of (heqEndpointS aEnds aEnds (by omega) (by omega)) ?_
  simp -implicitDefEqProofs [g1, g2, szl_ge g3, p3, szl_ge g4, p4]
  refine callQ_of (htoRollout aR (by omega)) ?_
  simp -implicitDefEqProofs [g1, g2, szl_ge g3, p3, szl_ge g4, p4]
  refine callQ_of (heqRollout aR aR (by omega) (by omega)) ?_
  simp -implicitDefEqProofs [g1, g2, szl_ge g3, p3, szl_ge g4, p4]
  have pkaServer : ¬ 1 + ((aServer.length : Nat) : Int) < 0 := by omega
  refine callQ_of (hmarkIntS aServer (1) (by omega) (by omega)) ?_
  simp -implicitDefEqProofs [g1, g2, szl_ge g3, p3, szl_ge g4, p4, pkaServer]
  have pkaTags : ¬ 1 + ((aServer.length : Nat) : Int) + ((aTags.length : Nat) : Int) < 0 := by omega
  refine callQ_of (hmarkIntS aTags (1 + ((aServer.length : Nat) : Int)) (by omega) (by omega)) ?_
  simp -implicitDefEqProofs [g1, g2, szl_ge g3, p3, szl_ge g4, p4, pkaServer, pkaTags]
  have qaEnds := mc_szEndpointS aEnds
  have pkaEnds : ¬ 1 + ((aServer.length : Nat) : Int) + ((aTags.length : Nat) : Int) + ((mcL mcEndpoint aEnds : Nat) : Int) < 0 := by omega
  refine callQ_of (hmarkEndpointS aEnds (1 + ((aServer.length : Nat) : Int) + ((aTags.length : Nat) : Int)) (by omega) (by omega)) ?_
  simp -implicitDefEqProofs [g1, g2, szl_ge g3, p3, szl_ge g4, p4, pkaServer, pkaTags, pkaEnds]
  have qaR := mc_szRollout aR
  have pkaR : ¬ 1 + ((aServer.length : Nat) : Int) + ((aTags.length : Nat) : Int) + ((mcL mcEndpoint aEnds : Nat) : Int) + ((mcRollout aR : Nat) : Int) < 0 := by omega
  refine callQ_of (hmarkRollout aR (1 + ((aServer.length : Nat) : Int) + ((aTags.length : Nat) : Int) + ((mcL mcEndpoint aEnds : Nat) : Int)) (by omega) (by omega)) ?_
  simp -implicitDefEqProofs [g1, g2, szl_ge g3, p3, szl_ge g4, p4, pkaServer, pkaTags, pkaEnds, pkaR, mkRollout, mkRollout]
  refine callQ_of (heqWorld r0 r0 (by omega) (by omega)) ?_
  simp -implicitDefEqProofs [g1, g2, szl_ge g3, p3, szl_ge g4, p4, pkaServer, pkaTags, pkaEnds, pkaR, mkRollout, mkRollout]
  refine callQ_of (hmarkWorld r0 (1) (by omega) (by omega)) ?_
  simp -implicitDefEqProofs [g1, g2, szl_ge g3, p3, szl_ge g4, p4, pkaServer, pkaTags, pkaEnds, pkaR, mkRollout, mkRollout, mkWorld]
  have pq0 : ¬ 1 + ((mcWorld r0 : Nat) : Int) < 0 := by omega
  have hr := hheldWorld r0 (1) (by omega) (by omega)
  simp -implicitDefEqProofs [mkWorld, mkRollout] at hr
  refine callQ_of (hr) ?_
  simp -implicitDefEqProofs [g1, g2, szl_ge g3, p3, szl_ge g4, p4, pkaServer, pkaTags, pkaEnds, pkaR, mkRollout, mkRollout, mkWorld, pq0]
  refine callQ_of (htoIntS aServer (by omega)) ?_
  simp -implicitDefEqProofs [g1, g2, szl_ge g3, p3, szl_ge g4, p4, pkaServer, pkaTags, pkaEnds, pkaR, mkRollout, mkRollout, mkWorld, pq0]
  refine callQ_of (htoIntS aTags (by omega)) ?_
  simp -implicitDefEqProofs [g1, g2, szl_ge g3, p3, szl_ge g4, p4, pkaServer, pkaTags, pkaEnds, pkaR, mkRollout, mkRollout, mkWorld, pq0]
  refine callQ_of (htoEndpointS aEnds (by omega)) ?_
  simp -implicitDefEqProofs [g1, g2, szl_ge g3, p3, szl_ge g4, p4, pkaServer, pkaTags, pkaEnds, pkaR, mkRollout, mkRollout, mkWorld, pq0]
  refine callQ_of (htoRollout aR (by omega)) ?_
  simp -implicitDefEqProofs [g1, g2, szl_ge g3, p3, szl_ge g4, p4, pkaServer, pkaTags, pkaEnds, pkaR, mkRollout, mkRollout, mkWorld, pq0]
  refine callQ_of (hi') ?_
  simp -implicitDefEqProofs [g1, g2, szl_ge g3, p3, szl_ge g4, p4, pkaServer, pkaTags, pkaEnds, pkaR, mkRollout, mkRollout, mkWorld, pq0]
  refine callQ_of (heqWorld r0 r0 (by omega) (by omega)) ?_
  simp -implicitDefEqProofs [g1, g2, szl_ge g3, p3, szl_ge g4, p4, pkaServer, pkaTags, pkaEnds, pkaR, mkRollout, mkRollout, mkWorld, pq0]
  have hr := hheldWorld r0 (1) (by omega) (by omega)
  simp -implicitDefEqProofs [mkWorld, mkRollout] at hr
  refine callQ_of (hr) ?_
  simp -implicitDefEqProofs [g1, g2, szl_ge g3, p3, szl_ge g4, p4, pkaServer, pkaTags, pkaEnds, pkaR, mkRollout, mkRollout, mkWorld, pq0]
end Go.Eng.T

