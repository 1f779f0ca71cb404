/- Own work: part 45 of the proof of FnExactStepRetire. -/
import Derived.Test.YtcgnjpoingikcadP44
set_option linter.unusedSimpArgs false
set_option linter.unusedVariables false
namespace Go.Eng.T
set_option maxRecDepth 20000
set_option maxHeartbeats 1000000

def rowsV (xs : List (List Int)) : List V := xs.map fun l => .sl 0 1 l.length (ints l)
@[simp high] theorem rowsV_len (xs : List (List Int)) : (rowsV xs).length = xs.length := by simp [rowsV]
@[simp] theorem rowsV_nil : rowsV [] = [] := rfl
@[simp] theorem rowsV_ro (xs : List (List Int)) : (rowsV xs).map (roCell 0) = rowsV xs := by simp [rowsV, Function.comp_def, roCell]
@[simp high] theorem rowsV_at {xs : List (List Int)} {j : Nat} (h : j < xs.length) : (rowsV xs)[j]? = some (V.sl 0 1 xs[j].length (ints xs[j])) := by simp [rowsV, h]
theorem rowsV_push (xs : List (List Int)) (l : List Int) {n : Nat} (h : n = l.length) : rowsV xs ++ [.sl 0 1 n (ints l)] = rowsV (xs ++ [l]) := by subst h; simp [rowsV]
def szRows (xs : List (List Int)) : Nat := sumF List.length xs
theorem rows_at {xs : List (List Int)} {j : Nat} (h : j < xs.length) : xs[j].length ≤ szRows xs := size_at (f := List.length) h
theorem rows_len {xs : List (List Int)} : xs.length ≤ szRows xs := size_len

def listsOf (w : World) : List (List Int) := w.ends.map (·.versions)
abbrev ListsOfS (R : Rel) : Prop := ∀ w : World, szWorld w ≤ 1048576 → R [arg (eWorld w)] [] (.sl 0 1 (listsOf w).length (rowsV (listsOf w))) []
theorem lists_step {xs : List Endpoint} {j : Nat} (h : j < xs.length) : rowsV ((xs.map (·.versions)).take j) ++ [.sl 0 1 xs[j].versions.length (ints xs[j].versions)] = rowsV ((xs.map (·.versions)).take (j + 1)) := by
  have h' : j < (xs.map (·.versions)).length := by simpa using h
  have e : (xs.map (·.versions)).take (j + 1) = (xs.map (·.versions)).take j ++ [xs[j].versions] := by
    have := List.take_append_getElem h'
    rw [← this]; simp
  rw [e, rowsV_push _ _ rfl]
theorem sListsOf_b (D : Dn) : ListsOfS (Body D sspec_ListsOf) := by
  intro w h
  have hl := world_ends h
  have hres : listsOf w = w.ends.map (·.versions) := rfl
  rw [hres]
  simp -implicitDefEqProofs
  refine swp_loop (fun k s => ∃ j o2 o3 o4 o5, j + k = w.ends.length ∧ s = ⟨[.undef, .ptr 0 0, .undef, .arr 6, .sc (.int .i64 j), .undef], [.var ((eWorld w).map (roCell 1)), .free, o2, o3, o4, o5, .arr 1 0 j (rowsV ((w.ends.take j).map (·.versions)))]⟩) ?_ w.ends.length _ ⟨0, .free, .free, .free, .free, by simp, by simp⟩
  intro k s ⟨j, o2, o3, o4, o5, hj, hs⟩
  subst hs
  by_cases hjn : j < w.ends.length
  · have hw : IntKind.i64.wrap ((j : Int) + 1) = (j + 1 : Nat) := by rw [wrap_id (by omega) (by omega)]; simp
    have hst := lists_step hjn
    have hvl := world_vers h hjn
    unfold maxLen at hvl
    have h2 : w.ends[j].versions.length ≤ 1048576 := by
      have := size_at (f := szEndpoint) hjn
      have e : szEndpoint w.ends[j] = w.ends[j].versions.length + w.ends[j].tags.length + sumF szBox w.ends[j].path := rfl
      unfold szWorld at h
      omega
    have hb : w.ends[j].versions.length * 8 ≤ 1099511627776 := by omega
    have hb2 : (j + 1) * 24 ≤ 1099511627776 := by omega
    have hjl : min j w.ends.length = j := by omega
    simp -implicitDefEqProofs [hjn, hb, hb2, hjl]
    exact ⟨k - 1, by omega, j + 1, by omega, by simp [hw], rfl, hst⟩
  · obtain rfl : j = w.ends.length := by omega
    simp -implicitDefEqProofs
theorem iListsOf_b (D : Dn) : ListsOfS (Body D simpl_ListsOf) := by
  intro w h
  have hl := world_ends h
  have hres : listsOf w = w.ends.map (·.versions) := rfl
  rw [hres]
  simp -implicitDefEqProofs
  refine swp_loop (fun k s => ∃ j o2 o3 o4 o5 o6, j + k = w.ends.length ∧ s = ⟨[.undef, .undef, .undef, .arr 7, .undef, .sl 1 4 w.ends.length (w.ends.flatMap eEndpoint), .sc (.int .i64 w.ends.length), .sc (.int .i64 j), .undef], [.var ((eWorld w).map (roCell 1)), .free, o2, o3, o4, o5, o6, .arr 1 0 j (rowsV ((w.ends.take j).map (·.versions)))]⟩) ?_ w.ends.length _ ⟨0, .free, .free, .free, .free, .free, by simp, by simp⟩
  intro k s ⟨j, o2, o3, o4, o5, o6, hj, hs⟩
  subst hs
  by_cases hjn : j < w.ends.length
  · have hw : IntKind.i64.wrap ((j : Int) + 1) = (j + 1 : Nat) := by rw [wrap_id (by omega) (by omega)]; simp
    have hst := lists_step hjn
    have h2 : w.ends[j].versions.length ≤ 1048576 := by
      have := size_at (f := szEndpoint) hjn
      have e : szEndpoint w.ends[j] = w.ends[j].versions.length + w.ends[j].tags.length + sumF szBox w.ends[j].path := rfl
      unfold szWorld at h
      omega
    have hb : w.ends[j].versions.length * 8 ≤ 1099511627776 := by omega
    have hb2 : (j + 1) * 24 ≤ 1099511627776 := by omega
    have hjl : min j w.ends.length = j := by omega
    simp -implicitDefEqProofs [hjn, hb, hb2, hjl]
    exact ⟨k - 1, by omega, j + 1, by omega, by simp [hw], rfl, hst⟩
  · obtain rfl : j = w.ends.length := by omega
    simp -implicitDefEqProofs

abbrev rowsA (ls : List (List Int)) : V := .sl 1 1 ls.length (rowsV ls)
def useB (s : List Int) (v : Int) (l : List Int) : Bool := decide (bestCommon s l = v)
def useOf (s : List Int) (ls : List (List Int)) (v : Int) : Nat := if 1 ≤ v then cntF (useB s v) ls else 0
abbrev UseOfS (R : Rel) : Prop := ∀ (s : List Int) (ls : List (List Int)) (v : Int), s.length ≤ 1048576 → szRows ls ≤ 1048576 → R [.sl 1 1 s.length (ints s), rowsA ls, I v] [] (I (useOf s ls v)) []
theorem sUseOf_b (D : Dn) (hB : BestCommonS (D gspec_BestCommon)) : UseOfS (Body D sspec_UseOf) := by
  intro s ls v hs0 hl
  have hll := rows_len (xs := ls)
  by_cases hv : 1 ≤ v
  rotate_left
  · have e : useOf s ls v = 0 := by unfold useOf; rw [if_neg hv]
    simp -implicitDefEqProofs [e]
    refine swp_loop (fun k st => st = ⟨[.sl 1 1 s.length (ints s), rowsA ls, I v, .undef, .sc (.int .i64 0), .sc (.int .i64 0), .undef, .undef], []⟩) ?_ 0 _ (by simp)
    intro k st hs
    subst hs
    by_cases h0 : 0 < ls.length
    · have h0' : (0 : Int) < ls.length := by omega
      simp -implicitDefEqProofs [hv, h0, h0']
    · have h0' : ¬ (0 : Int) < ls.length := by omega
      simp -implicitDefEqProofs [hv, h0, h0']
  have e : useOf s ls v = cntF (useB s v) ls := by unfold useOf; rw [if_pos hv]
  rw [e]
  simp -implicitDefEqProofs
  refine swp_loop (fun k st => ∃ j, j + k = ls.length ∧ st = ⟨[.sl 1 1 s.length (ints s), rowsA ls, I v, .undef, .sc (.int .i64 (cntF (useB s v) (ls.take j))), .sc (.int .i64 j), .undef, .undef], []⟩) ?_ ls.length _ ⟨0, by simp, by simp [cntF]⟩
  intro k st ⟨j, hj, hs⟩
  subst hs
  by_cases hjn : j < ls.length
  · have hw : IntKind.i64.wrap ((j : Int) + 1) = (j + 1 : Nat) := by rw [wrap_id (by omega) (by omega)]; simp
    have hc := cnt_step (f := useB s v) hjn
    have hcl := cnt_le (f := useB s v) (xs := ls) (j := j) (by omega)
    have hw2 : IntKind.i64.wrap ((cntF (useB s v) (ls.take j) : Int) + 1) = (cntF (useB s v) (ls.take j) + 1 : Nat) := by rw [wrap_id (by omega) (by omega)]; simp
    have hra := rows_at hjn
    simp -implicitDefEqProofs [hjn, hv]
    refine callQ_of (hB s _ hs0 (by omega)) ?_
    by_cases he : bestCommon s ls[j] = v
    · simp -implicitDefEqProofs [he]
      exact ⟨k - 1, by omega, j + 1, by omega, by rw [hc, hw2]; simp [useB, he], by simp [hw]⟩
    · simp -implicitDefEqProofs [he]
      exact ⟨k - 1, by omega, j + 1, by omega, by rw [hc]; simp [useB, he], by simp [hw]⟩
  · have hx := cnt_all (f := useB s v) (xs := ls) (j := j) (by omega)
    simp -implicitDefEqProofs [hjn, hx]
theorem iUseOf_b (D : Dn) (hB : BestCommonS (D gimpl_BestCommon)) : UseOfS (Body D simpl_UseOf) := by
  intro s ls v hs0 hl
  have hll := rows_len (xs := ls)
  by_cases hv : 1 ≤ v
  rotate_left
  · have e : useOf s ls v = 0 := by unfold useOf; rw [if_neg hv]
    have hv' : v < 1 := by omega
    simp -implicitDefEqProofs [e, hv']
  have e : useOf s ls v = cntF (useB s v) ls := by unfold useOf; rw [if_pos hv]
  have hv' : ¬ v < 1 := by omega
  rw [e]
  simp -implicitDefEqProofs [hv']
  refine swp_loop (fun k st => ∃ j, j + k = ls.length ∧ st = ⟨[.sl 1 1 s.length (ints s), .undef, I v, .undef, .sc (.int .i64 (cntF (useB s v) (ls.take j))), .undef, .undef, rowsA ls, .sc (.int .i64 ls.length), .sc (.int .i64 j), .undef, .undef], []⟩) ?_ ls.length _ ⟨0, by simp, by simp [cntF]⟩
  intro k st ⟨j, hj, hs⟩
  subst hs
  by_cases hjn : j < ls.length
  · have hw : IntKind.i64.wrap ((j : Int) + 1) = (j + 1 : Nat) := by rw [wrap_id (by omega) (by omega)]; simp
    have hc := cnt_step (f := useB s v) hjn
    have hcl := cnt_le (f := useB s v) (xs := ls) (j := j) (by omega)
    have hw2 : IntKind.i64.wrap ((cntF (useB s v) (ls.take j) : Int) + 1) = (cntF (useB s v) (ls.take j) + 1 : Nat) := by rw [wrap_id (by omega) (by omega)]; simp
    have hra := rows_at hjn
    simp -implicitDefEqProofs [hjn, hv]
    refine callQ_of (hB s _ hs0 (by omega)) ?_
    by_cases he : bestCommon s ls[j] = v
    · simp -implicitDefEqProofs [he]
      exact ⟨k - 1, by omega, j + 1, by omega, by rw [hc, hw2]; simp [useB, he], by simp [hw]⟩
    · simp -implicitDefEqProofs [he]
      exact ⟨k - 1, by omega, j + 1, by omega, by rw [hc]; simp [useB, he], by simp [hw]⟩
  · have hx := cnt_all (f := useB s v) (xs := ls) (j := j) (by omega)
    simp -implicitDefEqProofs [hjn, hx]

def strB (s : List Int) (v : Int) (l : List Int) : Bool := decide (0 < bestCommon s l) && decide (bestCommon (withoutV s v) l = 0)
def stranded (s : List Int) (ls : List (List Int)) (v : Int) : List Int := idxL (strB s v) ls 0
abbrev StrandedS (R : Rel) : Prop := ∀ (s : List Int) (ls : List (List Int)) (v : Int), s.length ≤ 1048576 → szRows ls ≤ 1048576 → R [.sl 1 1 s.length (ints s), rowsA ls, I v] [] (.sl 0 1 (stranded s ls v).length (ints (stranded s ls v))) []
theorem sStranded_b (D : Dn) (hB : BestCommonS (D gspec_BestCommon)) (hW : l12WithoutS (D gspec_l12Without)) : StrandedS (Body D sspec_Stranded) := by
  intro s ls v hs0 hl
  have hll := rows_len (xs := ls)
  have hres : stranded s ls v = idxL (strB s v) ls 0 := rfl
  have hwl := List.length_filter_le (fun x => !decide (x = v)) s
  rw [hres]
  simp -implicitDefEqProofs
  refine callQ_of (hW s v hs0) ?_
  simp -implicitDefEqProofs
  refine swp_loop (fun k st => ∃ j o2 o3, j + k = ls.length ∧ st = ⟨[.sl 1 1 s.length (ints s), rowsA ls, .undef, .undef, .arr 4, .arr 1, .sc (.int .i64 j), .undef, .undef], [.free, .arr 1 0 (withoutV s v).length (ints (withoutV s v)), o2, o3, .arr 1 0 (idxL (strB s v) (ls.take j) 0).length (ints (idxL (strB s v) (ls.take j) 0))]⟩) ?_ ls.length _ ⟨0, .free, .free, by simp, by simp [idxL]⟩
  intro k st ⟨j, o2, o3, hj, hs⟩
  subst hs
  by_cases hjn : j < ls.length
  · have hw : IntKind.i64.wrap ((j : Int) + 1) = (j + 1 : Nat) := by rw [wrap_id (by omega) (by omega)]; simp
    have hst := idxL_step (p := strB s v) hjn
    have hln := idxL_len (p := strB s v) (ls.take j) 0
    have htl : (ls.take j).length ≤ j := by simp; omega
    have hb : ((idxL (strB s v) (ls.take j) 0).length + 1) * 8 ≤ 1099511627776 := by omega
    have hra := rows_at hjn
    simp -implicitDefEqProofs [hjn]
    refine callQ_of (hB s _ hs0 (by omega)) ?_
    by_cases h1 : 0 < bestCommon s ls[j]
    rotate_left
    · rw [if_neg (by simp [strB, h1]), List.append_nil] at hst
      simp -implicitDefEqProofs [h1]
      exact ⟨k - 1, by omega, j + 1, by omega, by simp [hw], by rw [hst], by rw [hst]⟩
    simp -implicitDefEqProofs [h1, hjn]
    refine callQ_of (hB (withoutV s v) ls[j] (by unfold withoutV; omega) (by omega)) ?_
    by_cases h2 : bestCommon (withoutV s v) ls[j] = 0
    · rw [if_pos (by simp [strB, h1, h2])] at hst
      simp -implicitDefEqProofs [h2, hb]
      exact ⟨k - 1, by omega, j + 1, by omega, by simp [hw], by rw [hst]; simp, by rw [hst]⟩
    · rw [if_neg (by simp [strB, h1, h2]), List.append_nil] at hst
      simp -implicitDefEqProofs [h2]
      exact ⟨k - 1, by omega, j + 1, by omega, by simp [hw], by rw [hst], by rw [hst]⟩
  · have hx := idxL_all (p := strB s v) (xs := ls) (j := j) (by omega)
    simp -implicitDefEqProofs [hjn, hx]
theorem iStranded_b (D : Dn) (hB : BestCommonS (D gimpl_BestCommon)) (hW : withoutS (D gimpl_without)) : StrandedS (Body D simpl_Stranded) := by
  intro s ls v hs0 hl
  have hll := rows_len (xs := ls)
  have hres : stranded s ls v = idxL (strB s v) ls 0 := rfl
  have hwl := List.length_filter_le (fun x => !decide (x = v)) s
  rw [hres]
  simp -implicitDefEqProofs
  refine callQ_of (hW s v hs0) ?_
  simp -implicitDefEqProofs
  refine swp_loop (fun k st => ∃ j v6 v7 o1 o3 o4, j + k = ls.length ∧ st = ⟨[.sl 1 1 s.length (ints s), .undef, .undef, .undef, .arr 5, .arr 2, v6, v7, rowsA ls, .sc (.int .i64 ls.length), .sc (.int .i64 j), .undef, .undef], [.free, o1, .arr 1 0 (withoutV s v).length (ints (withoutV s v)), o3, o4, .arr 1 0 (idxL (strB s v) (ls.take j) 0).length (ints (idxL (strB s v) (ls.take j) 0))]⟩) ?_ ls.length _ ⟨0, .undef, .undef, .arr 1 0 1 [.sc (.int .i64 v)], .free, .free, by simp, by simp [idxL]⟩
  intro k st ⟨j, v6, v7, o1, o3, o4, hj, hs⟩
  subst hs
  by_cases hjn : j < ls.length
  · have hw : IntKind.i64.wrap ((j : Int) + 1) = (j + 1 : Nat) := by rw [wrap_id (by omega) (by omega)]; simp
    have hst := idxL_step (p := strB s v) hjn
    have hln := idxL_len (p := strB s v) (ls.take j) 0
    have htl : (ls.take j).length ≤ j := by simp; omega
    have hb : ((idxL (strB s v) (ls.take j) 0).length + 1) * 8 ≤ 1099511627776 := by omega
    have hra := rows_at hjn
    simp -implicitDefEqProofs [hjn]
    refine callQ_of (hB s _ hs0 (by omega)) ?_
    by_cases h1 : 0 < bestCommon s ls[j]
    rotate_left
    · rw [if_neg (by simp [strB, h1]), List.append_nil] at hst
      simp -implicitDefEqProofs [h1]
      exact ⟨k - 1, by omega, j + 1, by omega, by simp [hw], by rw [hst], by rw [hst]⟩
    simp -implicitDefEqProofs [h1, hjn]
    refine callQ_of (hB (withoutV s v) ls[j] (by unfold withoutV; omega) (by omega)) ?_
    by_cases h2 : bestCommon (withoutV s v) ls[j] = 0
    · rw [if_pos (by simp [strB, h1, h2])] at hst
      simp -implicitDefEqProofs [h2, hb]
      exact ⟨k - 1, by omega, j + 1, by omega, by simp [hw], by rw [hst]; simp, by rw [hst]⟩
    · rw [if_neg (by simp [strB, h1, h2]), List.append_nil] at hst
      simp -implicitDefEqProofs [h2]
      exact ⟨k - 1, by omega, j + 1, by omega, by simp [hw], by rw [hst], by rw [hst]⟩
  · have hx := idxL_all (p := strB s v) (xs := ls) (j := j) (by omega)
    simp -implicitDefEqProofs [hjn, hx]

theorem useOf_le (s : List Int) (ls : List (List Int)) (v : Int) : useOf s ls v ≤ ls.length := by
  unfold useOf
  split
  · have := cnt_le (f := useB s v) (xs := ls) (j := ls.length) (by omega)
    rwa [List.take_length] at this
  · omega
def mayRetire (s : List Int) (ls : List (List Int)) (v pm : Int) : Bool := areVers s && (decide (v ∈ s) && (!decide (s.length = 1) && (decide (InV pm 0 1000) && (decide (stranded s ls v = []) && decide (1000 * (useOf s ls v : Int) ≤ pm * (ls.length : Int))))))
abbrev MayRetireS (R : Rel) : Prop := ∀ (s : List Int) (ls : List (List Int)) (v pm : Int), s.length ≤ 1048576 → szRows ls ≤ 1048576 → R [.sl 1 1 s.length (ints s), rowsA ls, I v, I pm] [] (B (mayRetire s ls v pm)) []
theorem sMayRetire_b (D : Dn) (hA : AreVersionsS (D gspec_AreVersions)) (hH : HasS (D gspec_l9Has)) (hI : InS (D gspec_l1In)) (hS : StrandedS (D gspec_Stranded)) (hU : UseOfS (D gspec_UseOf)) : MayRetireS (Body D sspec_MayRetire) := by
  intro s ls v pm hs0 hl
  have hll := rows_len (xs := ls)
  simp -implicitDefEqProofs
  refine callQ_of (hA s (by unfold maxLen; omega)) ?_
  by_cases h1 : areVers s = true
  rotate_left
  · simp -implicitDefEqProofs [h1, mayRetire]
  simp -implicitDefEqProofs [h1]
  refine callQ_of (hH s v (by unfold maxLen; omega)) ?_
  by_cases h2 : v ∈ s
  rotate_left
  · simp -implicitDefEqProofs [h1, h2, mayRetire]
  by_cases h3 : s.length = 1
  · have h3' : (s.length : Int) = 1 := by omega
    simp -implicitDefEqProofs [h1, h2, h3, h3', mayRetire]
  have h3' : ¬ (s.length : Int) = 1 := by omega
  simp -implicitDefEqProofs [h1, h2, h3, h3']
  refine callQ_of (hI _ _ _) ?_
  by_cases h4 : InV pm 0 1000
  rotate_left
  · simp -implicitDefEqProofs [h1, h2, h3, h3', h4, mayRetire]
  simp -implicitDefEqProofs [h3, h3', h4]
  refine callQ_of (hS s ls v hs0 hl) ?_
  by_cases h5 : (stranded s ls v).length = 0
  rotate_left
  · have h5' : ¬ ((stranded s ls v).length : Int) = 0 := by omega
    have h5'' : ¬ stranded s ls v = [] := by intro h; rw [h] at h5; simp at h5
    simp -implicitDefEqProofs [h5, h5', h5'', h1, h2, h3, h4, mayRetire]
  have h5'' : stranded s ls v = [] := List.eq_nil_of_length_eq_zero h5
  simp -implicitDefEqProofs [h5'']
  refine callQ_of (hU s ls v hs0 hl) ?_
  have hu := useOf_le s ls v
  have w1 : IntKind.i64.wrap (1000 * (useOf s ls v : Int)) = 1000 * (useOf s ls v : Int) := wrap_id (by omega) (by omega)
  have w2 : IntKind.i64.wrap (pm * (ls.length : Int)) = pm * (ls.length : Int) := by
    have a1 : 0 ≤ pm * (ls.length : Int) := Int.mul_nonneg h4.1 (by omega)
    have a2 : pm * (ls.length : Int) ≤ 1000 * 1048576 := Int.mul_le_mul h4.2 (by omega) (by omega) (by omega)
    exact wrap_id (by omega) (by omega)
  simp -implicitDefEqProofs [h1, h2, h3, h3', h4, h5'', w1, w2, mayRetire]
theorem iMayRetire_b (D : Dn) (hA : AreVersionsS (D gimpl_AreVersions)) (hH : HasS (D gslices_Contains___int_int_)) (hI : InS (D gimpl_InRange)) (hS : StrandedS (D gimpl_Stranded)) (hU : UseOfS (D gimpl_UseOf)) : MayRetireS (Body D simpl_MayRetire) := by
  intro s ls v pm hs0 hl
  have hll := rows_len (xs := ls)
  simp -implicitDefEqProofs
  refine callQ_of (hA s (by unfold maxLen; omega)) ?_
  by_cases h1 : areVers s = true
  rotate_left
  · simp -implicitDefEqProofs [h1, mayRetire]
  simp -implicitDefEqProofs [h1]
  refine callQ_of (hH s v (by unfold maxLen; omega)) ?_
  by_cases h2 : v ∈ s
  rotate_left
  · simp -implicitDefEqProofs [h1, h2, mayRetire]
  by_cases h3 : s.length = 1
  · have h3' : (s.length : Int) = 1 := by omega
    simp -implicitDefEqProofs [h1, h2, h3, h3', mayRetire]
  have h3' : ¬ (s.length : Int) = 1 := by omega
  simp -implicitDefEqProofs [h1, h2, h3, h3']
  refine callQ_of (hI _ _ _) ?_
  by_cases h4 : InV pm 0 1000
  rotate_left
  · simp -implicitDefEqProofs [h1, h2, h3, h3', h4, mayRetire]
  simp -implicitDefEqProofs [h3, h3', h4]
  refine callQ_of (hS s ls v hs0 hl) ?_
  by_cases h5 : (stranded s ls v).length = 0
  rotate_left
  · have h5' : ¬ ((stranded s ls v).length : Int) = 0 := by omega
    have h5'' : ¬ stranded s ls v = [] := by intro h; rw [h] at h5; simp at h5
    simp -implicitDefEqProofs [h5, h5', h5'', h1, h2, h3, h4, mayRetire]
  have h5'' : stranded s ls v = [] := List.eq_nil_of_length_eq_zero h5
  simp -implicitDefEqProofs [h5'']
  refine callQ_of (hU s ls v hs0 hl) ?_
  have hu := useOf_le s ls v
  have w1 : IntKind.i64.wrap (1000 * (useOf s ls v : Int)) = 1000 * (useOf s ls v : Int) := wrap_id (by omega) (by omega)
  have w2 : IntKind.i64.wrap (pm * (ls.length : Int)) = pm * (ls.length : Int) := by
    have a1 : 0 ≤ pm * (ls.length : Int) := Int.mul_nonneg h4.1 (by omega)
    have a2 : pm * (ls.length : Int) ≤ 1000 * 1048576 := Int.mul_le_mul h4.2 (by omega) (by omega) (by omega)
    exact wrap_id (by omega) (by omega)
  simp -implicitDefEqProofs [h1, h2, h3, h3', h4, h5'', w1, w2, mayRetire]

def retire (s : List Int) (ls : List (List Int)) (v pm : Int) : List Int × Bool := if mayRetire s ls v pm = true then (withoutV s v, true) else (s, false)
abbrev RetireVersionS (R : Rel) : Prop := ∀ (s : List Int) (ls : List (List Int)) (v pm : Int), s.length ≤ 1048576 → szRows ls ≤ 1048576 → R [.sl 1 1 s.length (ints s), rowsA ls, I v, I pm] [] (.tup [.sl 0 1 (retire s ls v pm).1.length (ints (retire s ls v pm).1), B (retire s ls v pm).2]) []
theorem sRetireVersion_b (D : Dn) (hM : MayRetireS (D gspec_MayRetire)) (hW : l12WithoutS (D gspec_l12Without)) : RetireVersionS (Body D sspec_RetireVersion) := by
  intro s ls v pm hs0 hl
  have hll := rows_len (xs := ls)
  have hb : s.length * 8 ≤ 1099511627776 := by omega
  simp -implicitDefEqProofs
  refine callQ_of (hM s ls v pm hs0 hl) ?_
  by_cases h1 : mayRetire s ls v pm = true
  rotate_left
  · have e : retire s ls v pm = (s, false) := by unfold retire; rw [if_neg h1]
    simp -implicitDefEqProofs [h1, e, hb]
  have e : retire s ls v pm = (withoutV s v, true) := by unfold retire; rw [if_pos h1]
  simp -implicitDefEqProofs [h1, e]
  refine callQ_of (hW s v hs0) ?_
  simp -implicitDefEqProofs [h1, e]
theorem iRetireVersion_b (D : Dn) (hM : MayRetireS (D gimpl_MayRetire)) (hW : withoutS (D gimpl_without)) : RetireVersionS (Body D simpl_RetireVersion) := by
  intro s ls v pm hs0 hl
  have hll := rows_len (xs := ls)
  have hb : s.length * 8 ≤ 1099511627776 := by omega
  simp -implicitDefEqProofs
  refine callQ_of (hM s ls v pm hs0 hl) ?_
  by_cases h1 : mayRetire s ls v pm = true
  rotate_left
  · have e : retire s ls v pm = (s, false) := by unfold retire; rw [if_neg h1]
    simp -implicitDefEqProofs [h1, e, hb]
  have e : retire s ls v pm = (withoutV s v, true) := by unfold retire; rw [if_pos h1]
  simp -implicitDefEqProofs [h1, e]
  refine callQ_of (hW s v hs0) ?_
  simp -implicitDefEqProofs [h1, e]

theorem world_serv' {w : World} (h : szWorld w ≤ 1048576) : w.server.length ≤ 1048576 := by unfold szWorld at h; omega
theorem listsF (xs : List Endpoint) : szRows (xs.map (·.versions)) ≤ sumF szEndpoint xs := by
  induction xs with
  | nil => simp [szRows, sumF]
  | cons x r ih =>
    simp only [szRows, sumF, List.map_cons, List.sum_cons, List.length_cons, szEndpoint, List.length_map] at *
    omega
theorem lists_sz {w : World} (h : szWorld w ≤ 1048576) : szRows (listsOf w) ≤ 1048576 := by
  have := listsF w.ends
  unfold szWorld at h
  unfold listsOf
  omega
def stepRetire (w : World) (v pm : Int) : World × Bool := if (retire w.server (listsOf w) v pm).2 = true ∧ ¬ v = w.rollout.version then ({ w with server := (retire w.server (listsOf w) v pm).1 }, true) else (w, false)
abbrev StepRetireS (R : Rel) : Prop := ∀ (w : World) (v pm : Int), szWorld w ≤ 1048576 → R [arg (eWorld w), I v, I pm] [] (.tup [.agg (eWorld (stepRetire w v pm).1), B (stepRetire w v pm).2]) []
theorem sStepRetire_b (D : Dn) (hC : cpWorldS (D gspec_l32Copy)) (hL : ListsOfS (D gspec_ListsOf)) (hR : RetireVersionS (D gspec_RetireVersion)) : StepRetireS (Body D sspec_StepRetire) := by
  intro w v pm h
  simp -implicitDefEqProofs
  refine callQ_of (hC w h) ?_
  simp -implicitDefEqProofs
  refine callQ_of (hL w h) ?_
  simp -implicitDefEqProofs
  refine callQ_of (hR w.server (listsOf w) v pm (world_serv' h) (lists_sz h)) ?_
  by_cases h1 : (retire w.server (listsOf w) v pm).2 = true
  rotate_left
  · have e : stepRetire w v pm = (w, false) := by unfold stepRetire; rw [if_neg (by simp [h1])]
    simp -implicitDefEqProofs [h1, e]
  by_cases h2 : v = w.rollout.version
  · subst h2
    have e : stepRetire w w.rollout.version pm = (w, false) := by unfold stepRetire; rw [if_neg (by simp)]
    simp -implicitDefEqProofs [h1, e]
  have e : stepRetire w v pm = ({ w with server := (retire w.server (listsOf w) v pm).1 }, true) := by unfold stepRetire; rw [if_pos ⟨h1, h2⟩]
  simp -implicitDefEqProofs [h1, h2, e]
theorem iStepRetire_b (D : Dn) (hC : cpWorldS (D gimpl_copyWorld)) (hL : ListsOfS (D gimpl_ListsOf)) (hR : RetireVersionS (D gimpl_RetireVersion)) : StepRetireS (Body D simpl_StepRetire) := by
  intro w v pm h
  simp -implicitDefEqProofs
  refine callQ_of (hC w h) ?_
  simp -implicitDefEqProofs
  refine callQ_of (hL w h) ?_
  simp -implicitDefEqProofs
  refine callQ_of (hR w.server (listsOf w) v pm (world_serv' h) (lists_sz h)) ?_
  by_cases h1 : (retire w.server (listsOf w) v pm).2 = true
  rotate_left
  · have e : stepRetire w v pm = (w, false) := by unfold stepRetire; rw [if_neg (by simp [h1])]
    simp -implicitDefEqProofs [h1, e]
  by_cases h2 : v = w.rollout.version
  · subst h2
    have e : stepRetire w w.rollout.version pm = (w, false) := by unfold stepRetire; rw [if_neg (by simp)]
    simp -implicitDefEqProofs [h1, e]
  have e : stepRetire w v pm = ({ w with server := (retire w.server (listsOf w) v pm).1 }, true) := by unfold stepRetire; rw [if_pos ⟨h1, h2⟩]
  simp -implicitDefEqProofs [h1, h2, e]
end Go.Eng.T

namespace Go.Eng.T
theorem retire_len (s : List Int) (ls : List (List Int)) (v pm : Int) : (retire s ls v pm).1.length ≤ s.length := by
  unfold retire
  split
  · exact List.length_filter_le _ _
  · exact Nat.le_refl _
theorem stepRetire_sz (w : World) (v pm : Int) : szWorld (stepRetire w v pm).1 ≤ szWorld w := by
  unfold stepRetire
  have := retire_len w.server (listsOf w) v pm
  split
  · simp only [szWorld]; omega
  · exact Nat.le_refl _
end Go.Eng.T

namespace Go.Eng.T
set_option maxRecDepth 20000
set_option maxHeartbeats 2000000
abbrev FnExactStepRetireS (R : Rel) : Prop := ∀ (aW : World) (aV : Int) (aPermille : Int), lnWorld aW → rgWorld aW → rgI aV → rgI aPermille → R [arg (eWorld aW), I aV, I aPermille] [] (B true) []
theorem FnExactStepRetire_b (D : Dn) (hs : StepRetireS (D gspec_StepRetire)) (hi : StepRetireS (D gimpl_StepRetire)) (hszWorld : szWorldS (D glaws_szWorld)) (htoWorld : toWorldS (D glaws_toWorld)) (heqWorld : eqWorldS (D glaws_eqWorld)) (hmarkWorld : markWorldS (D glaws_markWorld)) (hheldWorld : heldWorldS (D glaws_heldWorld)) : FnExactStepRetireS (Body D slaws_FnExactStepRetire) := by
  intro aW aV aPermille l_aW w_aW w_aV w_aPermille
  simp -implicitDefEqProofs []
  refine callQ_of (hszWorld aW ((1048576 : Int)) (by omega) (by omega) l_aW) ?_
  by_cases g1 : (1048576 : Int) < ((szWorld aW : Nat) : Int)
  · simp -implicitDefEqProofs [szl_lt g1]
  have p1 : ¬ (1048576 : Int) - ((szWorld aW : Nat) : Int) < 0 := by omega
  simp -implicitDefEqProofs [szl_ge g1, p1]
  have hs' := hs aW aV aPermille (by omega)
  have hi' := hi aW aV aPermille (by omega)
  obtain ⟨b0, c0⟩ : szWorld ((stepRetire aW aV aPermille).1) ≤ 1099511627776 ∧ mcWorld ((stepRetire aW aV aPermille).1) ≤ 1099511627776 := (by have a1 := stepRetire_sz aW aV aPermille; have a2 := mc_szWorld ((stepRetire aW aV aPermille).1); omega)
  generalize (stepRetire aW aV aPermille).1 = r0 at hs' hi' b0 c0
  refine callQ_of (htoWorld aW (by omega)) ?_
  simp -implicitDefEqProofs [szl_ge g1, p1]
  refine callQ_of (hs') ?_
  simp -implicitDefEqProofs [szl_ge g1, p1]
  refine callQ_of (htoWorld aW (by omega)) ?_
  simp -implicitDefEqProofs [szl_ge g1, p1]
  refine callQ_of (hi') ?_
  simp -implicitDefEqProofs [szl_ge g1, p1]
  refine callQ_of (heqWorld r0 r0 (by omega) (by omega)) ?_
  simp -implicitDefEqProofs [szl_ge g1, p1]
  refine callQ_of (htoWorld aW (by omega)) ?_
  simp -implicitDefEqProofs [szl_ge g1, p1]
  refine callQ_of (heqWorld aW aW (by omega) (by omega)) ?_
  simp -implicitDefEqProofs [szl_ge g1, p1]
  have qaW := mc_szWorld aW
  have pkaW : ¬ 1 + ((mcWorld aW : Nat) : Int) < 0 := by omega
  refine callQ_of (hmarkWorld aW (1) (by omega) (by omega)) ?_
  simp -implicitDefEqProofs [szl_ge g1, p1, pkaW, mkWorld, mkRollout]
  refine callQ_of (heqWorld r0 r0 (by omega) (by omega)) ?_
  simp -implicitDefEqProofs [szl_ge g1, p1, pkaW, mkWorld, mkRollout]
  refine callQ_of (hmarkWorld r0 (1) (by omega) (by omega)) ?_
  simp -implicitDefEqProofs [szl_ge g1, p1, pkaW, mkWorld, mkRollout]
  have pq0 : ¬ 1 + ((mcWorld r0 : Nat) : Int) < 0 := by omega
  have hr := hheldWorld r0 (1) (by omega) (by omega)
  simp -implicitDefEqProofs [mkWorld, mkRollout] at hr
  refine callQ_of (hr) ?_
  simp -implicitDefEqProofs [szl_ge g1, p1, pkaW, mkWorld, mkRollout, pq0]
  refine callQ_of (htoWorld aW (by omega)) ?_
  simp -implicitDefEqProofs [szl_ge g1, p1, pkaW, mkWorld, mkRollout, pq0]
  refine callQ_of (hi') ?_
  simp -implicitDefEqProofs [szl_ge g1, p1, pkaW, mkWorld, mkRollout, pq0]
  refine callQ_of (heqWorld r0 r0 (by omega) (by omega)) ?_
  simp -implicitDefEqProofs [szl_ge g1, p1, pkaW, mkWorld, mkRollout, pq0]
  have hr := hheldWorld r0 (1) (by omega) (by omega)
  simp -implicitDefEqProofs [mkWorld, mkRollout] at hr
  refine callQ_of (hr) ?_
  simp -implicitDefEqProofs [szl_ge g1, p1, pkaW, mkWorld, mkRollout, pq0]
end Go.Eng.T

