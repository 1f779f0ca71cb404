/- Own work: part 45 of the proof of FnExactReportNow. -/
import Derived.Test.YtncobgjmochecabGreatP44
import Derived.Below
import Derived.Sort.Grow
import Derived.Deep.Draws
import Derived.Lib.LaidTab
import Derived.Sort.Row
import Derived.Laws.IdiomCopy
import Derived.Lib.Slices
import Derived.Shelf.Slices.Turned
import Derived.Ground.Names2Prog
import Derived.Shelf.Slices.Clone
import Derived.Ground.SlgnProg
import Derived.Shelf.SlicesE.Clone
import Derived.Test.YtncobgjmochecabGreatProg
set_option linter.unusedSimpArgs false
set_option linter.unusedVariables false
namespace Go.Eng.T
set_option maxRecDepth 20000

def hasTag (t : Int) (x : Ext) : Bool := decide (x.tag = t)
def extOf (l : List Ext) (t : Int) : Int := idxP (hasTag t) l 0
abbrev ExtOfS (R : Rel) : Prop := ∀ (l : List Ext) (t : Int), l.length ≤ maxLen → R [.sl 1 2 l.length (l.flatMap eExt), I t] [] (I (extOf l t)) []
theorem sExtOf_b (D : Dn) : ExtOfS (Body D sspec_ExtOf) := by
  intro l t hl
  unfold maxLen at hl
  have hres : extOf l t = idxP (hasTag t) l 0 := rfl
  rw [hres]
  simp -implicitDefEqProofs
  refine swp_loop (fun k s => ∃ j, j + k = l.length ∧ idxP (hasTag t) l 0 = idxP (hasTag t) (l.drop j) j ∧ s = ⟨[.sl 1 2 l.length (l.flatMap eExt), I t, .undef, I j, .undef, .undef], []⟩) ?_ (l.length) _ ⟨0, by simp, by simp, by simp⟩
  intro k s ⟨j, hj, hi, hs⟩
  subst hs
  by_cases hjn : j < l.length
  · have hw : IntKind.i64.wrap ((j : Int) + 1) = (j + 1 : Nat) := by rw [wrap_id (by omega) (by omega)]; simp
    rw [idxP_drop hjn] at hi
    by_cases he : l[j].tag = t
    · rw [if_pos (by simp [hasTag, he])] at hi
      simp -implicitDefEqProofs [hjn, he, hi]
    · rw [if_neg (by simp [hasTag, he])] at hi
      simp -implicitDefEqProofs [hjn, he]
      exact ⟨k - 1, by omega, j + 1, by omega, by simpa using hi, by simp [hw]⟩
  · rw [idxP_end (by omega)] at hi
    simp -implicitDefEqProofs [hjn, hi]
abbrev ExtOf1S (R : Rel) : Prop := ∀ (x : Ext) (t : Int), R [arg (eExt x), .rptr 1 [I t] 0] [] (B (hasTag t x)) []
theorem ExtOf1_b (D : Dn) : ExtOf1S (Body D simpl_ExtOf_1) := by
  intro x t
  simp -implicitDefEqProofs [hasTag, beqI]
theorem iExtOf_b (D : Dn) (h1 : ExtOf1S (D gimpl_ExtOf_1)) (hX : IndexFuncExtS D (D gslices_IndexFunc___impl_Ext_impl_Ext_)) : ExtOfS (Body D simpl_ExtOf) := by
  intro l t hl
  have hres : extOf l t = idxP (hasTag t) l 0 := rfl
  rw [hres]
  simp -implicitDefEqProofs
  refine callQ_of (hX l 351 _ (hasTag t) hl (capOk_int capOk_nil) (fun j h => h1 l[j] t)) ?_
  simp -implicitDefEqProofs

def okExt (x : Ext) : Bool := decide (InR x.tag 0 255) && (decide (x.body.length ≤ 4) && allIn x.body 0 255)
def newTag (l : List Ext) (i : Nat) : Bool := match l[i]? with
  | some x => okExt x && !(l.take i).any (hasTag x.tag)
  | none => true
theorem newTag_at {l : List Ext} {i : Nat} (h : i < l.length) : newTag l i = (okExt l[i] && !(l.take i).any (hasTag l[i].tag)) := by
  unfold newTag
  rw [List.getElem?_eq_getElem h]
def areExts (l : List Ext) : Bool := allTo (newTag l) l.length && decide (l.length ≤ 6)
theorem idxP_range {α : Type} {p : α → Bool} : ∀ {xs : List α} {i : Int}, idxP p xs i = -1 ∨ (i ≤ idxP p xs i ∧ idxP p xs i < i + xs.length)
  | [], i => .inl rfl
  | x :: r, i => by
    by_cases hp : p x = true
    · right; simp [idxP, hp]; omega
    · rcases idxP_range (p := p) (xs := r) (i := i + 1) with h | h
      · left; simp [idxP, hp, h]
      · right; simp [idxP, hp] at *; omega
/-- the first place lies before j -/
theorem idxP_lt {α : Type} {p : α → Bool} : ∀ {xs : List α} {i : Int} {j : Nat}, 0 ≤ i → (h : j < xs.length) → p xs[j] = true → (idxP p xs i < i + j ↔ (xs.take j).any p = true)
  | x :: r, i, 0, hi, h, hp => by
    have : p x = true := hp
    simp [idxP, this]
  | x :: r, i, j + 1, hi, h, hp => by
    by_cases hx : p x = true
    · simp [idxP, hx]; omega
    · have := idxP_lt (p := p) (xs := r) (i := i + 1) (j := j) (by omega) (by simpa using h) (by simpa using hp)
      simp only [idxP, hx, List.take_succ_cons, List.any_cons, Bool.false_or]
      rw [← this]
      simp
      omega
theorem extOf_lt {l : List Ext} {j : Nat} (h : j < l.length) : (extOf l l[j].tag < (j : Int)) = ((l.take j).any (hasTag l[j].tag) = true) := by
  have := idxP_lt (p := hasTag l[j].tag) (i := 0) (by omega) h (by simp [hasTag])
  rw [Int.zero_add] at this
  exact propext this
theorem extOf_take {l : List Ext} {j : Nat} {t : Int} : (0 ≤ extOf (l.take j) t) = ((l.take j).any (hasTag t) = true) := idxP_ge (by omega)
theorem areExts_no {l : List Ext} {j : Nat} (h : j < l.length) (hn : newTag l j = false) : areExts l = false := by
  unfold areExts
  rw [allTo_no h hn]; rfl
abbrev AreExtsS (R : Rel) : Prop := ∀ l : List Ext, exB l → R [.sl 1 2 l.length (l.flatMap eExt)] [] (B (areExts l)) []
theorem sAreExts_b (D : Dn) (hI : InS (D gspec_l1In)) (hB : l9ByteS (D gspec_l9Byte)) (hX : ExtOfS (D gspec_ExtOf)) : AreExtsS (Body D sspec_AreExts) := by
  intro l hl
  have hll := hl.1
  simp -implicitDefEqProofs
  refine swp_loop (fun k s => ∃ j, j + k = l.length ∧ allTo (newTag l) j = true ∧ s = ⟨[.sl 1 2 l.length (l.flatMap eExt), .undef, I j, .undef, .undef], []⟩) ?_ (l.length) _ ⟨0, by simp, by simp, by simp⟩
  intro k s ⟨j, hj, hr, hs⟩
  subst hs
  by_cases hjn : j < l.length
  · have hw : IntKind.i64.wrap ((j : Int) + 1) = (j + 1 : Nat) := by rw [wrap_id (by omega) (by omega)]; simp
    have hst := allTo_step (newTag l) j
    have hq := newTag_at hjn
    have hb := exB_at hl hjn
    rw [hr, Bool.true_and] at hst
    simp -implicitDefEqProofs [hjn]
    refine callQ_of (hI _ _ _) ?_
    by_cases h1 : InR l[j].tag 0 255
    rotate_left
    · have e := areExts_no hjn (by rw [hq]; simp [okExt, h1])
      simp -implicitDefEqProofs [h1, e]
    by_cases h2 : l[j].body.length ≤ 4
    rotate_left
    · have e := areExts_no hjn (by rw [hq]; simp [okExt, h2])
      have h2' : (4 : Int) < l[j].body.length := by omega
      simp -implicitDefEqProofs [hjn, h1, h2', e]
    have h2' : ¬ (4 : Int) < l[j].body.length := by omega
    simp -implicitDefEqProofs [hjn, h1, h2']
    refine callQ_of (hB _ (by unfold maxLen; omega)) ?_
    by_cases h3 : allIn l[j].body 0 255 = true
    rotate_left
    · have e := areExts_no hjn (by rw [hq]; simp [okExt, h3])
      simp -implicitDefEqProofs [hjn, h3, e]
    simp -implicitDefEqProofs [hjn, h3]
    refine callQ_of (hX l _ (by unfold maxLen; omega)) ?_
    by_cases h4 : (l.take j).any (hasTag l[j].tag) = true
    · have e := areExts_no hjn (by rw [hq]; simp only [h4]; simp)
      have h4' : extOf l l[j].tag < (j : Int) := by rw [extOf_lt hjn]; exact h4
      simp -implicitDefEqProofs [hjn, h4', e]
    · have h4' : ¬ extOf l l[j].tag < (j : Int) := by rw [extOf_lt hjn]; exact h4
      have h4f : (l.take j).any (hasTag l[j].tag) = false := by simpa using h4
      simp -implicitDefEqProofs [hjn, h4']
      exact ⟨k - 1, by omega, j + 1, by omega, by rw [hst, hq, h4f]; simp [okExt, h1, h2, h3], by simp [hw]⟩
  · obtain rfl : j = l.length := by omega
    have e : areExts l = decide (l.length ≤ 6) := by unfold areExts; rw [hr]; rfl
    by_cases h5 : l.length ≤ 6
    · have h5' : (l.length : Int) ≤ 6 := by omega
      simp -implicitDefEqProofs [e, h5, h5']
    · have h5' : ¬ (l.length : Int) ≤ 6 := by omega
      simp -implicitDefEqProofs [e, h5, h5']
theorem iAreExts_b (D : Dn) (hI : InS (D gimpl_InRange)) (hX : ExtOfS (D gimpl_ExtOf)) (hN : areNumbersS (D gimpl_areNumbers)) : AreExtsS (Body D simpl_AreExts) := by
  intro l hl
  have hll := hl.1
  simp -implicitDefEqProofs
  refine swp_loop (fun k s => ∃ j o0, j + k = l.length ∧ allTo (newTag l) j = true ∧ s = ⟨[.sl 1 2 l.length (l.flatMap eExt), .undef, .undef, .undef, .sl 1 2 l.length (l.flatMap eExt), I l.length, I j, .undef, .undef], [o0]⟩) ?_ (l.length) _ ⟨0, .free, by simp, by simp, by simp⟩
  intro k s ⟨j, o0, hj, hr, hs⟩
  subst hs
  by_cases hjn : j < l.length
  · have hw : IntKind.i64.wrap ((j : Int) + 1) = (j + 1 : Nat) := by rw [wrap_id (by omega) (by omega)]; simp
    have hst := allTo_step (newTag l) j
    have hq := newTag_at hjn
    have hb := exB_at hl hjn
    rw [hr, Bool.true_and] at hst
    simp -implicitDefEqProofs [hjn]
    refine callQ_of (hI _ _ _) ?_
    by_cases h1 : InR l[j].tag 0 255
    rotate_left
    · have e := areExts_no hjn (by rw [hq]; simp [okExt, h1])
      simp -implicitDefEqProofs [h1, e]
    have hjl : j ≤ l.length := by omega
    have hmin : min j l.length = j := by omega
    simp -implicitDefEqProofs [hjn, hjl, hmin, h1]
    have hxx := hX (l.take j) l[j].tag (by simp; unfold maxLen; omega)
    rw [List.length_take, hmin] at hxx
    refine callQ_of (hxx) ?_
    by_cases h4 : (l.take j).any (hasTag l[j].tag) = true
    · have e := areExts_no hjn (by rw [hq]; simp only [h4]; simp)
      have h4' : 0 ≤ extOf (l.take j) l[j].tag := by rw [extOf_take]; exact h4
      simp -implicitDefEqProofs [hjn, h4', e]
    have h4' : ¬ 0 ≤ extOf (l.take j) l[j].tag := by rw [extOf_take]; exact h4
    have h4f : (l.take j).any (hasTag l[j].tag) = false := by simpa using h4
    by_cases h2 : l[j].body.length ≤ 4
    rotate_left
    · have e := areExts_no hjn (by rw [hq]; simp [okExt, h2])
      have h2' : (4 : Int) < l[j].body.length := by omega
      simp -implicitDefEqProofs [hjn, h4', h2', e]
    have h2' : ¬ (4 : Int) < l[j].body.length := by omega
    simp -implicitDefEqProofs [hjn, h4', h2']
    refine callQ_of (hN _ _ _ (by unfold maxLen; omega)) ?_
    by_cases h3 : allIn l[j].body 0 255 = true
    rotate_left
    · have e := areExts_no hjn (by rw [hq]; simp [okExt, h3])
      simp -implicitDefEqProofs [hjn, h3, e]
    simp -implicitDefEqProofs [hjn, h3]
    exact ⟨k - 1, by omega, j + 1, by omega, by rw [hst, hq, h4f]; simp [okExt, h1, h2, h3], by simp [hw]⟩
  · obtain rfl : j = l.length := by omega
    have e : areExts l = decide (l.length ≤ 6) := by unfold areExts; rw [hr]; rfl
    by_cases h5 : l.length ≤ 6
    · have h5' : (l.length : Int) ≤ 6 := by omega
      simp -implicitDefEqProofs [e, h5, h5']
    · have h5' : ¬ (l.length : Int) ≤ 6 := by omega
      simp -implicitDefEqProofs [e, h5, h5']

def tagsOf (l : List Ext) : List Int := l.map (·.tag)
theorem tags_step {l : List Ext} {j : Nat} (h : j < l.length) : tagsOf (l.take (j + 1)) = tagsOf (l.take j) ++ [l[j].tag] := by
  have e : l.take (j + 1) = l.take j ++ [l[j]] := by simp
  unfold tagsOf
  rw [e, List.map_append]; rfl
abbrev TagsOfS (R : Rel) : Prop := ∀ l : List Ext, l.length ≤ 4194304 → R [.sl 1 2 l.length (l.flatMap eExt)] [] (.sl 0 1 (tagsOf l).length (ints (tagsOf l))) []
theorem sTagsOf_b (D : Dn) : TagsOfS (Body D sspec_TagsOf) := by
  intro l hl
  simp -implicitDefEqProofs
  refine swp_loop (fun k s => ∃ j o1 o2, j + k = l.length ∧ s = ⟨[.sl 1 2 l.length (l.flatMap eExt), .undef, .arr 3, I j, .undef], [.free, o1, o2, .arr 1 0 (tagsOf (l.take j)).length (ints (tagsOf (l.take j)))]⟩) ?_ (l.length) _ ⟨0, .free, .free, by simp, by simp [tagsOf]⟩
  intro k s ⟨j, o1, o2, hj, hs⟩
  subst hs
  by_cases hjn : j < l.length
  · have hw : IntKind.i64.wrap ((j : Int) + 1) = (j + 1 : Nat) := by rw [wrap_id (by omega) (by omega)]; simp
    have hst := tags_step hjn
    have hlen : (tagsOf (l.take j)).length = j := by simp [tagsOf]; omega
    have hb : (j + 1) * 8 ≤ 1099511627776 := by omega
    simp -implicitDefEqProofs [hjn, hlen, hb]
    exact ⟨k - 1, by omega, j + 1, by omega, by simp [hw], by rw [hst]; simp [hlen], by rw [hst]⟩
  · have e : l.take j = l := List.take_of_length_le (by omega)
    simp -implicitDefEqProofs [hjn, e]
end Go.Eng.T

namespace Go.Eng.T
set_option maxRecDepth 20000
def kept (p : Int → Bool) (l : List Ext) : List Ext := l.filter fun x => p x.tag
theorem kept_step {p : Int → Bool} {l : List Ext} {j : Nat} (h : j < l.length) : kept p (l.take (j + 1)) = kept p (l.take j) ++ (if p l[j].tag then [l[j]] else []) := filtE_step (p := fun x : Ext => p x.tag) h
theorem kept_all {p : Int → Bool} {l : List Ext} {j : Nat} (h : l.length ≤ j) : kept p (l.take j) = kept p l := filtE_all h
theorem kept_len {p : Int → Bool} {l : List Ext} {j : Nat} : (kept p (l.take j)).length ≤ j := filtE_len
theorem exB_kept {l : List Ext} (h : exB l) (p : Int → Bool) : exB (kept p l) := exB_filter h _
theorem kept_push {p : Int → Bool} {l : List Ext} {j : Nat} (h : j < l.length) (hp : p l[j].tag = true) :
    (kept p (l.take j)).flatMap eExt ++ [.sc (.int .i64 l[j].tag), .sl 0 1 l[j].body.length (ints l[j].body)] = (kept p (l.take (j + 1))).flatMap eExt := by
  rw [kept_step h, if_pos hp, List.flatMap_append]; simp
theorem kept_push_len {p : Int → Bool} {l : List Ext} {j : Nat} (h : j < l.length) (hp : p l[j].tag = true) : (kept p (l.take (j + 1))).length = (kept p (l.take j)).length + 1 := by
  rw [kept_step h, if_pos hp]; simp
theorem kept_skip {p : Int → Bool} {l : List Ext} {j : Nat} (h : j < l.length) (hp : ¬ p l[j].tag = true) : kept p (l.take (j + 1)) = kept p (l.take j) := by
  rw [kept_step h, if_neg hp, List.append_nil]
/-- what is captured holds nothing of the frame -/
def NoObj (caps : List V) : Prop := ∀ k, caps.any (m1 k) = false
theorem noObj_nil : NoObj [] := fun _ => rfl
theorem noObj_rptr {fl : Nat} {cs : List V} {o : Nat} {r : List V} (h : NoObj r) : NoObj (.rptr fl cs o :: r) := fun k => by
  have := h k
  simp only [List.any_cons, this, m1, Bool.or_self]
theorem killV_cap {k g : Nat} {caps : List V} (h : NoObj caps) : killV k (.fn g caps) = .fn g caps := by
  have := h k
  simp only [killV, m3, m2, this]
  rfl
theorem renV_cap {a b g : Nat} {caps : List V} (h : NoObj caps) : renV a b (.fn g caps) = .fn g caps := by
  have := h a
  simp only [renV, m3, m2, this]
  rfl
abbrev keptExtsS (D : Dn) (R : Rel) : Prop := ∀ (l : List Ext) (g : Nat) (caps : List V) (p : Int → Bool), exB l → CapOk caps → NoObj caps → (∀ t : Int, D g (I t :: caps) [] (B (p t)) []) →
  R [.sl 1 2 l.length (l.flatMap eExt), .fn g caps] [] (.sl 0 2 (kept p l).length ((kept p l).flatMap eExt)) []
theorem keptExts_b (D : Dn) : keptExtsS D (Body D simpl_keptExts) := by
  intro l g caps p hl hc hno hp
  have hll := hl.1
  simp -implicitDefEqProofs [↓killV_cap hno, ↓renV_cap hno]
  refine swp_loop (fun k s => ∃ j v4 o1 o2 o3 o4 o5, j + k = l.length ∧ s = ⟨[.undef, .fn g caps, .undef, .arr 6, v4, .sl 1 2 l.length (l.flatMap eExt), I l.length, I j, .undef, .undef], [.free, o1, o2, o3, o4, o5, .arr 2 0 (kept p (l.take j)).length ((kept p (l.take j)).flatMap eExt)]⟩) ?_ (l.length) _ ⟨0, .undef, .free, .free, .free, .free, .free, by simp, by simp [kept, ↓killV_cap hno, ↓renV_cap hno]⟩
  intro k s ⟨j, v4, o1, o2, o3, o4, o5, hj, hs⟩
  subst hs
  by_cases hjn : j < l.length
  · have hw : IntKind.i64.wrap ((j : Int) + 1) = (j + 1 : Nat) := by rw [wrap_id (by omega) (by omega)]; simp
    have hb := exB_at hl hjn
    have h1 : l[j].body.length * 8 ≤ 1099511627776 := by omega
    have hkl := kept_len (p := p) (l := l) (j := j)
    have h2 : ((kept p (l.take j)).length + 1) * 32 ≤ 1099511627776 := by omega
    simp -implicitDefEqProofs [hjn, ↓killV_cap hno, ↓renV_cap hno, hc.1, hc.2.1]
    refine callQ_of (hp l[j].tag) ?_
    by_cases he : p l[j].tag = true
    · have hst := kept_push hjn he
      have hsl := kept_push_len hjn he
      simp -implicitDefEqProofs [he, hjn, ↓killV_cap hno, ↓renV_cap hno, h1, h2]
      exact ⟨k - 1, by omega, j + 1, by omega, by simp [hw], by rw [hsl], by rw [← hst]⟩
    · have hst := kept_skip hjn he
      simp -implicitDefEqProofs [he, ↓killV_cap hno, ↓renV_cap hno]
      exact ⟨k - 1, by omega, j + 1, by omega, by simp [hw], by rw [hst], by rw [hst]⟩
  · have e := kept_all (p := p) (l := l) (j := j) (by omega)
    simp -implicitDefEqProofs [hjn, e]
abbrev KeepAllS (R : Rel) : Prop := ∀ t : Int, R [I t] [] (B true) []
abbrev KeepUnresS (R : Rel) : Prop := ∀ t : Int, R [I t] [] (B (!isReserved t)) []
theorem copyExts1_b (D : Dn) : KeepAllS (Body D simpl_copyExts_1) := by
  intro t
  simp -implicitDefEqProofs
theorem kept_true (l : List Ext) : kept (fun _ => true) l = l := by simp [kept]
abbrev cpExtsS (R : Rel) : Prop := ∀ l : List Ext, exB l → R [.sl 1 2 l.length (l.flatMap eExt)] [] (.sl 0 2 l.length (l.flatMap eExt)) []
theorem copyExts_b (D : Dn) (h1 : KeepAllS (D gimpl_copyExts_1)) (hK : keptExtsS D (D gimpl_keptExts)) : cpExtsS (Body D simpl_copyExts) := by
  intro l hl
  simp -implicitDefEqProofs
  refine callQ_of (hK l gimpl_copyExts_1 [] (fun _ => true) hl capOk_nil noObj_nil (fun t => h1 t)) ?_
  simp -implicitDefEqProofs [kept_true]
def stripG (l : List Ext) : List Ext := kept (fun t => !isReserved t) l
def knownOf (l : List Ext) (tags : List Int) : List Ext := kept (fun t => decide (t ∈ tags)) l
abbrev StripGreaseS (R : Rel) : Prop := ∀ l : List Ext, exB l → R [.sl 1 2 l.length (l.flatMap eExt)] [] (.sl 0 2 (stripG l).length ((stripG l).flatMap eExt)) []
abbrev KnownOfS (R : Rel) : Prop := ∀ (l : List Ext) (tags : List Int), exB l → tags.length ≤ maxLen → R [.sl 1 2 l.length (l.flatMap eExt), .sl 1 1 tags.length (ints tags)] [] (.sl 0 2 (knownOf l tags).length ((knownOf l tags).flatMap eExt)) []
abbrev KnownOf1S (R : Rel) : Prop := ∀ (t : Int) (tags : List Int), tags.length ≤ maxLen → R [I t, .rptr 1 [.sl 0 1 tags.length (ints tags)] 0] [] (B (decide (t ∈ tags))) []
theorem capOk_ints {a : List Int} {r : List V} (h : CapOk r) : CapOk (.rptr 1 [.sl 0 1 a.length (ints a)] 0 :: r) := capOk_cons (fun H => by simp) (fun H => by simp) h
theorem sKnownOf_b (D : Dn) (hH : HasS (D gspec_l9Has)) : KnownOfS (Body D sspec_KnownOf) := by
  intro l tags hl ht
  have hll := hl.1
  have hres : knownOf l tags = kept (fun t => decide (t ∈ tags)) l := rfl
  rw [hres]
  generalize hp : (fun t => decide (t ∈ tags)) = p
  simp -implicitDefEqProofs
  refine swp_loop (fun k s => ∃ j o1 o2 o3 o4, j + k = l.length ∧ s = ⟨[.sl 1 2 l.length (l.flatMap eExt), .sl 1 1 tags.length (ints tags), .undef, .arr 5, I j, .undef, .undef], [.free, o1, o2, o3, o4, .arr 2 0 (kept p (l.take j)).length ((kept p (l.take j)).flatMap eExt)]⟩) ?_ (l.length) _ ⟨0, .free, .free, .free, .free, by simp, by simp [kept]⟩
  intro k s ⟨j, o1, o2, o3, o4, hj, hs⟩
  subst hs
  by_cases hjn : j < l.length
  · have hw : IntKind.i64.wrap ((j : Int) + 1) = (j + 1 : Nat) := by rw [wrap_id (by omega) (by omega)]; simp
    have hb := exB_at hl hjn
    have h1 : l[j].body.length * 8 ≤ 1099511627776 := by omega
    have hkl := kept_len (p := p) (l := l) (j := j)
    have h2 : ((kept p (l.take j)).length + 1) * 32 ≤ 1099511627776 := by omega
    simp -implicitDefEqProofs [hjn]
    refine callQ_of (hH tags l[j].tag ht) ?_
    have hpe : decide (l[j].tag ∈ tags) = p l[j].tag := by rw [← hp]
    rw [hpe]
    by_cases he : p l[j].tag = true
    · have hst := kept_push hjn he
      have hsl := kept_push_len hjn he
      simp -implicitDefEqProofs [he, hjn, h1, h2]
      exact ⟨k - 1, by omega, j + 1, by omega, by simp [hw], by rw [hsl], by rw [← hst]⟩
    · have hst := kept_skip hjn he
      simp -implicitDefEqProofs [he]
      exact ⟨k - 1, by omega, j + 1, by omega, by simp [hw], by rw [hst], by rw [hst]⟩
  · have e := kept_all (p := p) (l := l) (j := j) (by omega)
    simp -implicitDefEqProofs [hjn, e]
theorem known_self (l : List Ext) : knownOf l (tagsOf l) = l := by
  unfold knownOf kept
  rw [List.filter_eq_self]
  intro x hx
  simp only [decide_eq_true_eq]
  exact List.mem_map.2 ⟨x, hx, rfl⟩
theorem tags_len (l : List Ext) : (tagsOf l).length = l.length := by simp [tagsOf]
theorem l11Copy_b (D : Dn) (hT : TagsOfS (D gspec_TagsOf)) (hK : KnownOfS (D gspec_KnownOf)) : cpExtsS (Body D sspec_l11Copy) := by
  intro l hl
  have hll := hl.1
  simp -implicitDefEqProofs
  refine callQ_of (hT l hll) ?_
  simp -implicitDefEqProofs
  refine callQ_of (hK l (tagsOf l) hl (by rw [tags_len]; unfold maxLen; omega)) ?_
  simp -implicitDefEqProofs [known_self]
end Go.Eng.T

namespace Go.Eng.T
set_option maxRecDepth 20000
def hB (h : Hello) : Prop := h.versions.length ≤ 4194304 ∧ exB h.exts
def isHello (h : Hello) : Bool := areVers h.versions && areExts h.exts
abbrev IsHelloS (R : Rel) : Prop := ∀ h : Hello, hB h → R [arg (eHello h)] [] (B (isHello h)) []
theorem sIsHello_b (D : Dn) (hA : AreVersionsS (D gspec_AreVersions)) (hE : AreExtsS (D gspec_AreExts)) : IsHelloS (Body D sspec_IsHello) := by
  intro h hh
  simp -implicitDefEqProofs
  refine callQ_of (hA _ (by have := hh.1; unfold maxLen; omega)) ?_
  by_cases h1 : areVers h.versions = true
  rotate_left
  · simp -implicitDefEqProofs [h1, isHello]
  simp -implicitDefEqProofs [h1]
  refine callQ_of (hE _ hh.2) ?_
  simp -implicitDefEqProofs [h1, isHello]
theorem iIsHello_b (D : Dn) (hA : AreVersionsS (D gimpl_AreVersions)) (hE : AreExtsS (D gimpl_AreExts)) : IsHelloS (Body D simpl_IsHello) := by
  intro h hh
  simp -implicitDefEqProofs
  refine callQ_of (hA _ (by have := hh.1; unfold maxLen; omega)) ?_
  by_cases h1 : areVers h.versions = true
  rotate_left
  · simp -implicitDefEqProofs [h1, isHello]
  simp -implicitDefEqProofs [h1]
  refine callQ_of (hE _ hh.2) ?_
  simp -implicitDefEqProofs [h1, isHello]
abbrev cpHelloS (R : Rel) : Prop := ∀ h : Hello, hB h → R [arg (eHello h)] [] (.agg (eHello h)) []
theorem copyHello_b (D : Dn) (hE : cpExtsS (D gimpl_copyExts)) : cpHelloS (Body D simpl_copyHello) := by
  intro h hh
  have h1 : h.versions.length * 8 ≤ 1099511627776 := by have := hh.1; omega
  simp -implicitDefEqProofs [h1]
  refine callQ_of (hE _ hh.2) ?_
  simp -implicitDefEqProofs
theorem l18Hello_b (D : Dn) (hE : cpExtsS (D gspec_l11Copy)) : cpHelloS (Body D sspec_l18Hello) := by
  intro h hh
  have h1 : h.versions.length * 8 ≤ 1099511627776 := by have := hh.1; omega
  simp -implicitDefEqProofs [h1]
  refine callQ_of (hE _ hh.2) ?_
  simp -implicitDefEqProofs

def lossy (b : Box) (x : Ext) : Bool := decide (x.tag ∈ b.drops) || (b.lists && (!decide (x.tag ∈ b.strips) && !decide (InR x.tag 1 3)))
def topV (vs : List Int) : Int := vs.getLastD 0
def losesB (b : Box) (h : Hello) : Bool := (decide (0 < b.limit) && decide (b.limit < topV h.versions)) || h.exts.any (lossy b)
def stays (b : Box) (t : Int) : Bool := !decide (t ∈ b.strips)
def noHello : Hello := ⟨[], []⟩
def passBox (b : Box) (h : Hello) : Hello × Bool := if isBox b && (isHello h && !losesB b h) then (⟨h.versions, kept (stays b) h.exts⟩, true) else (noHello, false)
abbrev PassBoxS (R : Rel) : Prop := ∀ (b : Box) (h : Hello), lnBox b → hB h → R [arg (eBox b), arg (eHello h)] [] (.tup [.agg (eHello (passBox b h).1), B (passBox b h).2]) []
theorem vers_pos {xs : List Int} (h : areVers xs = true) : 0 < xs.length := by
  unfold areVers at h
  simp only [Bool.and_eq_true, decide_eq_true_eq] at h
  exact h.2
theorem topV_at {xs : List Int} (h : xs.length - 1 < xs.length) : topV xs = xs[xs.length - 1] := by
  unfold topV
  rw [List.getLastD_eq_getLast?, List.getLast?_eq_getElem?, List.getElem?_eq_getElem h]; rfl
theorem sPassBox_b (D : Dn) (hX : IsBoxS (D gspec_IsBox)) (hE : IsHelloS (D gspec_IsHello)) (hH : HasS (D gspec_l9Has)) (hI : InS (D gspec_l1In)) : PassBoxS (Body D sspec_PassBox) := by
  intro b h hb hh
  obtain ⟨hv, hx⟩ := hh
  have hll := hx.1
  simp -implicitDefEqProofs
  refine callQ_of (hX b hb) ?_
  by_cases h1 : isBox b = true
  rotate_left
  · simp -implicitDefEqProofs [h1, passBox, noHello]
  simp -implicitDefEqProofs [h1]
  refine callQ_of (hE h ⟨hv, hx⟩) ?_
  by_cases h2 : isHello h = true
  rotate_left
  · simp -implicitDefEqProofs [h2, passBox, noHello]
  have hpos : 0 < h.versions.length := vers_pos (by unfold isHello at h2; simp only [Bool.and_eq_true] at h2; exact h2.1)
  have hn1 : h.versions.length - 1 < h.versions.length := by omega
  have hw1 : IntKind.i64.wrap ((h.versions.length : Int) - 1) = ((h.versions.length - 1 : Nat) : Int) := by rw [wrap_id (by omega) (by omega)]; omega
  have htop := topV_at hn1
  by_cases h3 : 0 < b.limit
  · by_cases h4 : b.limit < h.versions[h.versions.length - 1]
    · have e : passBox b h = (noHello, false) := by simp [passBox, losesB, htop, h3, h4]
      simp -implicitDefEqProofs [h2, h3, hw1, hn1, hpos, h4, e, noHello]
    · have h3' : b.limit < topV h.versions ↔ False := by rw [htop]; simpa using h4
      have b0 : h.versions.length * 8 ≤ 1099511627776 := by omega
      simp -implicitDefEqProofs [h2, h3, hw1, hn1, hpos, h4, b0]
      refine swp_loop (fun k s => ∃ j v8 o6 o7 o8 o9, j + k = h.exts.length ∧ (h.exts.take j).any (lossy b) = false ∧ s = ⟨[.undef, .undef, .ptr 0 0, .ptr 1 0, .ptr 2 0, .undef, .ptr 5 0, I j, v8, .undef, .undef, .undef, .undef, .undef], [.var ((eBox b).map (roCell 1)), .var ((eHello h).map (roCell 1)), .var [.nil 1, .nil 2], .dead, .arr 1 0 h.versions.length (ints h.versions), .var [.arr 4, .arr 10], o6, o7, o8, o9, .arr 2 0 (kept (stays b) (h.exts.take j)).length ((kept (stays b) (h.exts.take j)).flatMap eExt)]⟩) ?_ (h.exts.length) _ ⟨0, .undef, .free, .free, .free, .free, by simp, by simp, by simp [kept]⟩
      intro k s ⟨j, v8, o6, o7, o8, o9, hj, hp, hs⟩
      subst hs
      by_cases hjn : j < h.exts.length
      · have hw : IntKind.i64.wrap ((j : Int) + 1) = (j + 1 : Nat) := by rw [wrap_id (by omega) (by omega)]; simp
        have hbd := exB_at hx hjn
        have b1 : h.exts[j].body.length * 8 ≤ 1099511627776 := by omega
        have hkl := kept_len (p := stays b) (l := h.exts) (j := j)
        have b2 : ((kept (stays b) (h.exts.take j)).length + 1) * 32 ≤ 1099511627776 := by omega
        have hst := any_step (p := lossy b) hjn
        rw [hp, Bool.false_or] at hst
        simp -implicitDefEqProofs [hjn]
        refine callQ_of (hH _ _ hb.2) ?_
        simp -implicitDefEqProofs
        refine callQ_of (hH _ _ hb.1) ?_
        by_cases g1 : h.exts[j].tag ∈ b.drops
        · have e : passBox b h = (noHello, false) := by
            have := any_here (p := lossy b) hjn (by simp [lossy, g1])
            simp [passBox, losesB, this]
          simp -implicitDefEqProofs [g1, e, noHello]
        by_cases g2 : h.exts[j].tag ∈ b.strips
        · have hl : lossy b h.exts[j] = false := by simp [lossy, g1, g2]
          have hk := kept_skip (p := stays b) hjn (by simp [stays, g2])
          by_cases g3 : b.lists = true
          · simp -implicitDefEqProofs [g1, g2, g3]
            exact ⟨k - 1, by omega, j + 1, by omega, by simpa using hst.trans hl, by simp [hw], by rw [hk], by rw [hk]⟩
          · simp -implicitDefEqProofs [g1, g2, g3]
            exact ⟨k - 1, by omega, j + 1, by omega, by simpa using hst.trans hl, by simp [hw], by rw [hk], by rw [hk]⟩
        have hk := kept_push (p := stays b) hjn (by simp [stays, g2])
        have hkl := kept_push_len (p := stays b) hjn (by simp [stays, g2])
        by_cases g3 : b.lists = true
        rotate_left
        · have hl : lossy b h.exts[j] = false := by simp [lossy, g1, g2, g3]
          simp -implicitDefEqProofs [g1, g2, g3, hjn, b1, b2]
          exact ⟨k - 1, by omega, j + 1, by omega, by simpa using hst.trans hl, by simp [hw], by rw [hkl], by rw [← hk]⟩
        simp -implicitDefEqProofs [g1, g2, g3]
        refine callQ_of (hI _ _ _) ?_
        by_cases g4 : InR h.exts[j].tag 1 3
        · have hl : lossy b h.exts[j] = false := by simp [lossy, g1, g2, g3, g4]
          simp -implicitDefEqProofs [g4, hjn, b1, b2]
          exact ⟨k - 1, by omega, j + 1, by omega, by simpa using hst.trans hl, by simp [hw], by rw [hkl], by rw [← hk]⟩
        · have e : passBox b h = (noHello, false) := by
            have := any_here (p := lossy b) hjn (by simp [lossy, g1, g2, g3, g4])
            simp [passBox, losesB, this]
          simp -implicitDefEqProofs [g4, e, noHello]
      · have hje : j = h.exts.length := by omega
        have ea : h.exts.any (lossy b) = false := any_none (by omega) hp
        have ek := kept_all (p := stays b) (l := h.exts) (j := j) (by omega)
        have e : passBox b h = (⟨h.versions, kept (stays b) h.exts⟩, true) := by simp only [passBox, h1, h2, losesB, ea, h3']; simp
        simp -implicitDefEqProofs [hjn, e, ek]
  · have b0 : h.versions.length * 8 ≤ 1099511627776 := by omega
    simp -implicitDefEqProofs [h2, h3, b0]
    refine swp_loop (fun k s => ∃ j v8 o6 o7 o8 o9, j + k = h.exts.length ∧ (h.exts.take j).any (lossy b) = false ∧ s = ⟨[.undef, .undef, .ptr 0 0, .ptr 1 0, .ptr 2 0, .undef, .ptr 5 0, I j, v8, .undef, .undef, .undef, .undef, .undef], [.var ((eBox b).map (roCell 1)), .var ((eHello h).map (roCell 1)), .var [.nil 1, .nil 2], .dead, .arr 1 0 h.versions.length (ints h.versions), .var [.arr 4, .arr 10], o6, o7, o8, o9, .arr 2 0 (kept (stays b) (h.exts.take j)).length ((kept (stays b) (h.exts.take j)).flatMap eExt)]⟩) ?_ (h.exts.length) _ ⟨0, .undef, .free, .free, .free, .free, by simp, by simp, by simp [kept]⟩
    intro k s ⟨j, v8, o6, o7, o8, o9, hj, hp, hs⟩
    subst hs
    by_cases hjn : j < h.exts.length
    · have hw : IntKind.i64.wrap ((j : Int) + 1) = (j + 1 : Nat) := by rw [wrap_id (by omega) (by omega)]; simp
      have hbd := exB_at hx hjn
      have b1 : h.exts[j].body.length * 8 ≤ 1099511627776 := by omega
      have hkl := kept_len (p := stays b) (l := h.exts) (j := j)
      have b2 : ((kept (stays b) (h.exts.take j)).length + 1) * 32 ≤ 1099511627776 := by omega
      have hst := any_step (p := lossy b) hjn
      rw [hp, Bool.false_or] at hst
      simp -implicitDefEqProofs [hjn]
      refine callQ_of (hH _ _ hb.2) ?_
      simp -implicitDefEqProofs
      refine callQ_of (hH _ _ hb.1) ?_
      by_cases g1 : h.exts[j].tag ∈ b.drops
      · have e : passBox b h = (noHello, false) := by
          have := any_here (p := lossy b) hjn (by simp [lossy, g1])
          simp [passBox, losesB, this]
        simp -implicitDefEqProofs [g1, e, noHello]
      by_cases g2 : h.exts[j].tag ∈ b.strips
      · have hl : lossy b h.exts[j] = false := by simp [lossy, g1, g2]
        have hk := kept_skip (p := stays b) hjn (by simp [stays, g2])
        by_cases g3 : b.lists = true
        · simp -implicitDefEqProofs [g1, g2, g3]
          exact ⟨k - 1, by omega, j + 1, by omega, by simpa using hst.trans hl, by simp [hw], by rw [hk], by rw [hk]⟩
        · simp -implicitDefEqProofs [g1, g2, g3]
          exact ⟨k - 1, by omega, j + 1, by omega, by simpa using hst.trans hl, by simp [hw], by rw [hk], by rw [hk]⟩
      have hk := kept_push (p := stays b) hjn (by simp [stays, g2])
      have hkl := kept_push_len (p := stays b) hjn (by simp [stays, g2])
      by_cases g3 : b.lists = true
      rotate_left
      · have hl : lossy b h.exts[j] = false := by simp [lossy, g1, g2, g3]
        simp -implicitDefEqProofs [g1, g2, g3, hjn, b1, b2]
        exact ⟨k - 1, by omega, j + 1, by omega, by simpa using hst.trans hl, by simp [hw], by rw [hkl], by rw [← hk]⟩
      simp -implicitDefEqProofs [g1, g2, g3]
      refine callQ_of (hI _ _ _) ?_
      by_cases g4 : InR h.exts[j].tag 1 3
      · have hl : lossy b h.exts[j] = false := by simp [lossy, g1, g2, g3, g4]
        simp -implicitDefEqProofs [g4, hjn, b1, b2]
        exact ⟨k - 1, by omega, j + 1, by omega, by simpa using hst.trans hl, by simp [hw], by rw [hkl], by rw [← hk]⟩
      · have e : passBox b h = (noHello, false) := by
          have := any_here (p := lossy b) hjn (by simp [lossy, g1, g2, g3, g4])
          simp [passBox, losesB, this]
        simp -implicitDefEqProofs [g4, e, noHello]
    · have hje : j = h.exts.length := by omega
      have ea : h.exts.any (lossy b) = false := any_none (by omega) hp
      have ek := kept_all (p := stays b) (l := h.exts) (j := j) (by omega)
      have e : passBox b h = (⟨h.versions, kept (stays b) h.exts⟩, true) := by simp only [passBox, h1, h2, losesB, ea, h3]; simp
      simp -implicitDefEqProofs [hjn, e, ek]
abbrev PassBox1S (R : Rel) : Prop := ∀ (t : Int) (b : Box), lnBox b → R [I t, .rptr 1 (eBox b) 0] [] (B (stays b t)) []
theorem PassBox1_b (D : Dn) (hH : HasS (D gslices_Contains___int_int_)) : PassBox1S (Body D simpl_PassBox_1) := by
  intro t b hb
  simp -implicitDefEqProofs
  refine callQ_of (hH b.strips t hb.2) ?_
  simp -implicitDefEqProofs [stays]
abbrev loses1S (R : Rel) : Prop := ∀ (x : Ext) (b : Box), lnBox b → R [arg (eExt x), .rptr 1 (eBox b) 0] [] (B (lossy b x)) []
theorem loses1_b (D : Dn) (hH : HasS (D gslices_Contains___int_int_)) (hI : InS (D gimpl_InRange)) : loses1S (Body D simpl_loses_1) := by
  intro x b hb
  simp -implicitDefEqProofs
  refine callQ_of (hH b.drops x.tag hb.1) ?_
  by_cases g1 : x.tag ∈ b.drops
  · simp -implicitDefEqProofs [g1, lossy]
  by_cases g3 : b.lists = true
  rotate_left
  · simp -implicitDefEqProofs [g1, g3, lossy]
  simp -implicitDefEqProofs [g1, g3]
  refine callQ_of (hH b.strips x.tag hb.2) ?_
  by_cases g2 : x.tag ∈ b.strips
  · simp -implicitDefEqProofs [g1, g2, g3, lossy]
  simp -implicitDefEqProofs [g2]
  refine callQ_of (hI _ _ _) ?_
  simp -implicitDefEqProofs [g1, g2, g3, lossy]
def maxL (xs : List Int) : Int := xs.foldl max (xs.headD 0)
abbrev MaxS (R : Rel) : Prop := ∀ xs : List Int, 0 < xs.length → xs.length ≤ 4194304 → R [.sl 1 1 xs.length (ints xs)] [] (I (maxL xs)) []
abbrev CloneS (R : Rel) : Prop := ∀ xs : List Int, xs.length ≤ 4194304 → R [.sl 1 1 xs.length (ints xs)] [] (.sl 0 1 xs.length (ints xs)) []
abbrev losesS (R : Rel) : Prop := ∀ (b : Box) (h : Hello), lnBox b → hB h → isBox b = true → areVers h.versions = true → R [arg (eBox b), arg (eHello h)] [] (B (losesB b h)) []
theorem foldmax_last : ∀ (xs : List Int) (a : Int), (∀ x, x ∈ xs → a ≤ x) → (∀ i, (h : i + 1 < xs.length) → xs[i] ≤ xs[i + 1]) → xs.foldl max a = (xs.getLast?.getD a)
  | [], a, _, _ => rfl
  | x :: r, a, h1, h2 => by
    have hx := h1 x (by simp)
    have hr : ∀ y, y ∈ r → x ≤ y := by
      intro y hy
      obtain ⟨n, hn, rfl⟩ := List.getElem_of_mem hy
      have key : ∀ m, (hm : m < r.length) → x ≤ r[m] := by
        intro m
        induction m with
        | zero => intro hm; have := h2 0 (by simp; omega); simpa using this
        | succ m ih =>
          intro hm
          have h3 := ih (by omega)
          have := h2 (m + 1) (by simp; omega)
          simp only [List.getElem_cons_succ] at this
          omega
      exact key n hn
    have ih := foldmax_last r x hr (fun i h => by have := h2 (i + 1) (by simp; omega); simpa using this)
    simp only [List.foldl_cons]
    rw [show max a x = x by omega, ih]
    cases r with
    | nil => rfl
    | cons y s => simp [List.getLast?_cons_cons, List.getLast?_cons]
theorem vers_up {xs : List Int} (h : areVers xs = true) {i : Nat} (hi : i + 1 < xs.length) : xs[i] < xs[i + 1] := by
  unfold areVers risesV at h
  simp only [Bool.and_eq_true, List.all_eq_true, List.mem_range] at h
  have := (h.1 (i + 1) hi).2
  rw [getDV hi, show i + 1 - 1 = i by omega, getDV (by omega)] at this
  simpa using this
theorem vers_at {xs : List Int} (h : areVers xs = true) {i : Nat} (hi : i < xs.length) : InV xs[i] 1 9 := by
  unfold areVers risesV at h
  simp only [Bool.and_eq_true, List.all_eq_true, List.mem_range] at h
  have := (h.1 i hi).1
  rw [getDV hi] at this
  simpa using this
theorem maxL_vers {xs : List Int} (h : areVers xs = true) : maxL xs = topV xs := by
  cases xs with
  | nil => rfl
  | cons x r =>
    unfold maxL topV
    simp only [List.headD_cons, List.foldl_cons]
    rw [show max x x = x by omega, foldmax_last r x ?_ ?_]
    · cases r with
      | nil => rfl
      | cons y s => simp [List.getLastD_eq_getLast?, List.getLast?_cons_cons, List.getLast?_cons]
    · intro y hy
      obtain ⟨n, hn, rfl⟩ := List.getElem_of_mem hy
      induction n with
      | zero => have := vers_up h (i := 0) (by simp; omega); simp at this; omega
      | succ m ih =>
        have h3 := ih (by omega) (List.getElem_mem _)
        have := vers_up h (i := m + 1) (by simp; omega)
        simp only [List.getElem_cons_succ] at this
        omega
    · intro i hi
      have := vers_up h (i := i + 1) (by simp; omega)
      simp only [List.getElem_cons_succ] at this
      omega
theorem capOk_box {b : Box} {r : List V} (h : CapOk r) : CapOk (.rptr 1 (eBox b) 0 :: r) := capOk_cons (fun H => by simp) (fun H => by simp) h
theorem loses_b (D : Dn) (hM : MaxS (D gslices_Max___int_int_)) (h1 : loses1S (D gimpl_loses_1)) (hC : ContainsFuncExtS D (D gslices_ContainsFunc___impl_Ext_impl_Ext_)) : losesS (Body D simpl_loses) := by
  intro b h hb hh hbox hver
  obtain ⟨hv, hx⟩ := hh
  have hll := hx.1
  have hpos := vers_pos hver
  have hlim : 0 ≤ b.limit := by unfold isBox at hbox; simp only [Bool.and_eq_true, decide_eq_true_eq] at hbox; exact hbox.1.1.1.1.1
  by_cases h0 : b.limit = 0
  · obtain ⟨lim, dr, st, li⟩ := b
    dsimp only at h0
    subst h0
    simp -implicitDefEqProofs
    refine callQ_of (hC h.exts gimpl_loses_1 _ (lossy ⟨0, dr, st, li⟩) (by unfold maxLen; omega) (capOk_box (b := ⟨0, dr, st, li⟩) capOk_nil) (fun j hj => h1 h.exts[j] ⟨0, dr, st, li⟩ hb)) ?_
    simp -implicitDefEqProofs [losesB]
  · have hn : 0 < b.limit := by omega
    simp -implicitDefEqProofs [h0]
    refine callQ_of (hM h.versions hpos hv) ?_
    rw [maxL_vers hver]
    by_cases h4 : b.limit < topV h.versions
    · simp -implicitDefEqProofs [h0, h4, losesB, hn]
    · simp -implicitDefEqProofs [h0, h4]
      refine callQ_of (hC h.exts gimpl_loses_1 _ (lossy b) (by unfold maxLen; omega) (capOk_box capOk_nil) (fun j hj => h1 h.exts[j] b hb)) ?_
      simp -implicitDefEqProofs [losesB, hn, h4]
theorem iPassBox_b (D : Dn) (hX : IsBoxS (D gimpl_IsBox)) (hE : IsHelloS (D gimpl_IsHello)) (hL : losesS (D gimpl_loses)) (hC : CloneS (D gslices_Clone___int_int_)) (h1' : PassBox1S (D gimpl_PassBox_1)) (hK : keptExtsS D (D gimpl_keptExts)) : PassBoxS (Body D simpl_PassBox) := by
  intro b h hb hh
  simp -implicitDefEqProofs
  refine callQ_of (hX b hb) ?_
  by_cases h1 : isBox b = true
  rotate_left
  · simp -implicitDefEqProofs [h1, passBox, noHello]
  simp -implicitDefEqProofs [h1]
  refine callQ_of (hE h hh) ?_
  by_cases h2 : isHello h = true
  rotate_left
  · simp -implicitDefEqProofs [h2, passBox, noHello]
  have hver : areVers h.versions = true := by unfold isHello at h2; simp only [Bool.and_eq_true] at h2; exact h2.1
  simp -implicitDefEqProofs [h2]
  refine callQ_of (hL b h hb hh h1 hver) ?_
  by_cases h3 : losesB b h = true
  · simp -implicitDefEqProofs [h3, passBox, noHello]
  have e : passBox b h = (⟨h.versions, kept (stays b) h.exts⟩, true) := by simp [passBox, h1, h2, h3]
  simp -implicitDefEqProofs [h3]
  refine callQ_of (hC h.versions hh.1) ?_
  simp -implicitDefEqProofs
  refine callQ_of (hK h.exts gimpl_PassBox_1 _ (stays b) hh.2 (capOk_box capOk_nil) (noObj_rptr noObj_nil) (fun t => h1' t b hb)) ?_
  simp -implicitDefEqProofs [e]
end Go.Eng.T

namespace Go.Eng.T
set_option maxRecDepth 20000
def passGo : List Box → Hello → Hello × Bool
  | [], h => (h, true)
  | b :: r, h => if (passBox b h).2 = true then passGo r (passBox b h).1 else (noHello, false)
theorem passGo_drop {path : List Box} {j : Nat} {x : Hello} (h : j < path.length) : passGo (path.drop j) x = if (passBox path[j] x).2 = true then passGo (path.drop (j + 1)) (passBox path[j] x).1 else (noHello, false) := by
  rw [List.drop_eq_getElem_cons h]; rfl
theorem passGo_end {path : List Box} {j : Nat} {x : Hello} (h : path.length ≤ j) : passGo (path.drop j) x = (x, true) := by rw [List.drop_eq_nil_of_le h]; rfl
def passPath (path : List Box) (h : Hello) : Hello × Bool := if decide (path.length ≤ 4) && isHello h then passGo path h else (noHello, false)
theorem hB_no : hB noHello := ⟨by simp [noHello], exB_nil⟩
theorem hB_pass {b : Box} {h : Hello} (hh : hB h) : hB (passBox b h).1 := by
  unfold passBox
  split
  · exact ⟨hh.1, exB_kept hh.2 _⟩
  · exact hB_no
theorem passBox_no {b : Box} {h : Hello} (hk : (passBox b h).2 = false) : (passBox b h).1 = noHello := by
  unfold passBox at *
  split at hk
  · cases hk
  · rename_i hc; rw [if_neg hc]
abbrev PassPathS (R : Rel) : Prop := ∀ (path : List Box) (h : Hello), lnS lnBox path → hB h → R [.sl 1 4 path.length (path.flatMap eBox), arg (eHello h)] [] (.tup [.agg (eHello (passPath path h).1), B (passPath path h).2]) []
theorem sPassPath_b (D : Dn) (hE : IsHelloS (D gspec_IsHello)) (hC : cpHelloS (D gspec_l18Hello)) (hP : PassBoxS (D gspec_PassBox)) : PassPathS (Body D sspec_PassPath) := by
  intro path h hb hh
  have hl := hb.1
  unfold maxLen at hl
  by_cases h1 : path.length ≤ 4
  rotate_left
  · have h1' : (4 : Int) < path.length := by omega
    simp -implicitDefEqProofs [h1', h1, passPath, noHello]
  have h1' : ¬ (4 : Int) < path.length := by omega
  simp -implicitDefEqProofs [h1']
  refine callQ_of (hE h hh) ?_
  by_cases h2 : isHello h = true
  rotate_left
  · simp -implicitDefEqProofs [h2, h1, passPath, noHello]
  have e : passPath path h = passGo path h := by simp [passPath, h1, h2]
  rw [e]
  simp -implicitDefEqProofs [h2]
  refine callQ_of (hC h hh) ?_
  simp -implicitDefEqProofs
  refine swp_loop (fun k s => ∃ j x o5 o6 o7, j + k = path.length ∧ hB x ∧ passGo path h = passGo (path.drop j) x ∧ s = ⟨[.sl 1 4 path.length (path.flatMap eBox), .undef, .undef, .ptr 1 0, .undef, .ptr 4 0, I j, .undef, .undef, .undef, .undef, .undef], [.var ((eHello h).map (roCell 1)), .var [.nil 1, .nil 2], .free, .free, .var [.arr 8, .arr 9], o5, o6, o7, .arr 1 0 x.versions.length (ints x.versions), .arr 2 0 x.exts.length (x.exts.flatMap eExt)]⟩) ?_ (path.length) _ ⟨0, h, .free, .free, .free, by simp, hh, by simp, by simp⟩
  intro k s ⟨j, x, o5, o6, o7, hj, hx, hg, hs⟩
  subst hs
  by_cases hjn : j < path.length
  · have hw : IntKind.i64.wrap ((j : Int) + 1) = (j + 1 : Nat) := by rw [wrap_id (by omega) (by omega)]; simp
    rw [passGo_drop hjn] at hg
    simp -implicitDefEqProofs [hjn]
    refine callQ_of (hP path[j] x (hb.2 j hjn) hx) ?_
    have hx' := hB_pass (b := path[j]) hx
    generalize passBox path[j] x = r at hg hx'
    by_cases hk : r.2 = true
    · rw [if_pos hk] at hg
      simp -implicitDefEqProofs [hk]
      refine ⟨k - 1, by omega, j + 1, by omega, r.1, hx', ?_⟩
      simp [hw, hg]
    · rw [if_neg hk] at hg
      simp -implicitDefEqProofs [hk, hg, noHello]
  · rw [passGo_end (by omega)] at hg
    simp -implicitDefEqProofs [hjn, hg]
theorem iPassPath_b (D : Dn) (hE : IsHelloS (D gimpl_IsHello)) (hC : cpHelloS (D gimpl_copyHello)) (hP : PassBoxS (D gimpl_PassBox)) : PassPathS (Body D simpl_PassPath) := by
  intro path h hb hh
  have hl := hb.1
  unfold maxLen at hl
  simp -implicitDefEqProofs
  refine callQ_of (hE h hh) ?_
  by_cases h2 : isHello h = true
  rotate_left
  · simp -implicitDefEqProofs [h2, passPath, noHello]
  by_cases h1 : path.length ≤ 4
  rotate_left
  · have h1' : (4 : Int) < path.length := by omega
    simp -implicitDefEqProofs [h2, h1', h1, passPath, noHello]
  have h1' : ¬ (4 : Int) < path.length := by omega
  have e : passPath path h = passGo path h := by simp [passPath, h1, h2]
  rw [e]
  simp -implicitDefEqProofs [h2, h1']
  refine callQ_of (hC h hh) ?_
  simp -implicitDefEqProofs
  refine swp_loop (fun k s => ∃ j x ok o5 o6, j + k = path.length ∧ hB x ∧ passGo path h = (if ok = true then passGo (path.drop j) x else (noHello, false)) ∧ (ok = false → x = noHello) ∧ s = ⟨[.sl 1 4 path.length (path.flatMap eBox), .undef, .undef, .ptr 1 0, .undef, .ptr 4 0, B ok, I j, .undef, .undef], [.var ((eHello h).map (roCell 1)), .var [.nil 1, .nil 2], .free, .free, .var [.arr 7, .arr 8], o5, o6, .arr 1 0 x.versions.length (ints x.versions), .arr 2 0 x.exts.length (x.exts.flatMap eExt)]⟩) ?_ (path.length) _ ⟨0, h, true, .free, .free, by simp, hh, by simp, by simp, by simp⟩
  intro k s ⟨j, x, ok, o5, o6, hj, hx, hg, hno, hs⟩
  subst hs
  by_cases hok : ok = true
  rotate_left
  · rw [if_neg hok] at hg
    have hok' : ok = false := by simpa using hok
    have hno' := hno hok'
    subst hok'
    subst hno'
    by_cases hjn : j < path.length
    · simp -implicitDefEqProofs [hjn, hg, noHello]
    · simp -implicitDefEqProofs [hjn, hg, noHello]
  rw [if_pos hok] at hg
  subst hok
  by_cases hjn : j < path.length
  · have hw : IntKind.i64.wrap ((j : Int) + 1) = (j + 1 : Nat) := by rw [wrap_id (by omega) (by omega)]; simp
    rw [passGo_drop hjn] at hg
    simp -implicitDefEqProofs [hjn]
    refine callQ_of (hP path[j] x (hb.2 j hjn) hx) ?_
    have hx' := hB_pass (b := path[j]) hx
    have hno' := passBox_no (b := path[j]) (h := x)
    generalize passBox path[j] x = r at hg hx' hno'
    simp -implicitDefEqProofs
    refine ⟨k - 1, by omega, j + 1, by omega, r.1, hx', ?_⟩
    simp [hw, hg, hno']
    by_cases hr : r.2 = true
    · right; exact ⟨fun h => by simp [hr] at h, hr⟩
    · left; exact ⟨fun h => absurd h hr, hno' (by simpa using hr), by simpa using hr⟩
  · rw [passGo_end (by omega)] at hg
    simp -implicitDefEqProofs [hjn, hg]

def isClear (b : Box) : Bool := decide (b.limit = 0) && (decide (b.drops.length = 0) && (decide (b.strips.length = 0) && !b.lists))
abbrev IsClearS (R : Rel) : Prop := ∀ b : Box, lnBox b → R [arg (eBox b)] [] (B (isClear b)) []
theorem clear_box {b : Box} (h : isClear b = true) : isBox b = true := by
  unfold isClear at h
  simp only [Bool.and_eq_true, decide_eq_true_eq] at h
  obtain ⟨h1, h2, h3, _⟩ := h
  have h2' := List.eq_nil_of_length_eq_zero h2
  have h3' := List.eq_nil_of_length_eq_zero h3
  simp [isBox, h1, h2', h3', allIn]
def isClearPath (path : List Box) : Bool := decide (path.length ≤ 4) && path.all isClear
abbrev IsClearPathS (R : Rel) : Prop := ∀ path : List Box, lnS lnBox path → R [.sl 1 4 path.length (path.flatMap eBox)] [] (B (isClearPath path)) []
theorem all_here {α : Type} {p : α → Bool} {xs : List α} {j : Nat} (h : j < xs.length) (hp : p xs[j] = false) : xs.all p = false := List.all_eq_false.2 ⟨_, List.getElem_mem h, by simp [hp]⟩
theorem all_step {α : Type} {p : α → Bool} {xs : List α} {j : Nat} (h : j < xs.length) : (xs.take (j + 1)).all p = ((xs.take j).all p && p xs[j]) := by
  have e : xs.take (j + 1) = xs.take j ++ [xs[j]] := by simp
  rw [e, List.all_append]; simp
theorem all_all {α : Type} {p : α → Bool} {xs : List α} {j : Nat} (h : xs.length ≤ j) : (xs.take j).all p = xs.all p := by rw [List.take_of_length_le h]
abbrev IsClearPath1S (R : Rel) : Prop := ∀ b : Box, lnBox b → R [arg (eBox b)] [] (B (!isClear b)) []
abbrev PlainHelloS (R : Rel) : Prop := ∀ xs : List Int, xs.length ≤ 4194304 → R [.sl 1 1 xs.length (ints xs)] [] (.agg (eHello ⟨xs, []⟩)) []
theorem sPlainHello_b (D : Dn) : PlainHelloS (Body D sspec_PlainHello) := by
  intro xs h
  have h1 : xs.length * 8 ≤ 1099511627776 := by omega
  simp -implicitDefEqProofs [h1]
theorem iPlainHello_b (D : Dn) : PlainHelloS (Body D simpl_PlainHello) := by
  intro xs h
  have h1 : xs.length * 8 ≤ 1099511627776 := by omega
  simp -implicitDefEqProofs [h1]
def isOpen (path : List Box) (vs : List Int) : Bool := areVers vs && (passPath path ⟨vs.take 1, []⟩).2
abbrev IsOpenPathS (R : Rel) : Prop := ∀ (path : List Box) (vs : List Int), lnS lnBox path → vs.length ≤ 4194304 → R [.sl 1 4 path.length (path.flatMap eBox), .sl 1 1 vs.length (ints vs)] [] (B (isOpen path vs)) []
theorem sIsOpenPath_b (D : Dn) (hA : AreVersionsS (D gspec_AreVersions)) (hH : PlainHelloS (D gspec_PlainHello)) (hP : PassPathS (D gspec_PassPath)) : IsOpenPathS (Body D sspec_IsOpenPath) := by
  intro path vs hb hv
  simp -implicitDefEqProofs
  refine callQ_of (hA vs (by unfold maxLen; omega)) ?_
  by_cases h1 : areVers vs = true
  rotate_left
  · simp -implicitDefEqProofs [h1, isOpen]
  have hpos := vers_pos h1
  have h1l : (1 : Int) ≤ vs.length := by omega
  have h1n : 1 ≤ vs.length := by omega
  have hlen : (vs.take 1).length = 1 := by simp; omega
  have hmin : min 1 vs.length = 1 := by omega
  simp -implicitDefEqProofs [h1, h1l, h1n]
  have hh := hH (vs.take 1) (by omega)
  rw [hlen] at hh
  refine callQ_of (hh) ?_
  simp -implicitDefEqProofs [hmin]
  have hp := hP path ⟨vs.take 1, []⟩ hb ⟨by simp; omega, exB_nil⟩
  simp -implicitDefEqProofs [hmin] at hp
  refine callQ_of (hp) ?_
  simp -implicitDefEqProofs [isOpen, h1]
def lostV (path : List Box) (v : Int) : Bool := !(passPath path ⟨[v], []⟩).2
def lostVersions (path : List Box) (vs : List Int) : List Int := if areVers vs = true then vs.filter (lostV path) else []
abbrev LostVersionsS (R : Rel) : Prop := ∀ (path : List Box) (vs : List Int), lnS lnBox path → vs.length ≤ 4194304 → R [.sl 1 4 path.length (path.flatMap eBox), .sl 1 1 vs.length (ints vs)] [] (.sl 0 1 (lostVersions path vs).length (ints (lostVersions path vs))) []
theorem isOpen_one (path : List Box) (v : Int) : isOpen path [v] = !lostV path v := by
  unfold isOpen lostV
  by_cases h : areVers [v] = true
  · simp [h]
  · have : passPath path ⟨[v], []⟩ = (noHello, false) := by
      unfold passPath isHello
      have h' : areVers [v] = false := by simpa using h
      simp [h']
    simp [h, this]
theorem sLostVersions_b (D : Dn) (hA : AreVersionsS (D gspec_AreVersions)) (hO : IsOpenPathS (D gspec_IsOpenPath)) : LostVersionsS (Body D sspec_LostVersions) := by
  intro path vs hb hv
  by_cases h1 : areVers vs = true
  rotate_left
  · have e : lostVersions path vs = [] := by unfold lostVersions; rw [if_neg h1]
    rw [e]
    simp -implicitDefEqProofs
    refine swp_loop (fun k s => s = ⟨[.sl 1 4 path.length (path.flatMap eBox), .sl 1 1 vs.length (ints vs), .undef, .arr 3, I 0, .undef, .undef], [.free, .free, .free, .arr 1 0 0 (ints [])]⟩) ?_ 0 _ (by simp)
    intro k s hs
    subst hs
    by_cases h0 : 0 < vs.length
    · simp -implicitDefEqProofs [h0]
      refine callQ_of (hA vs (by unfold maxLen; omega)) ?_
      simp -implicitDefEqProofs [h1]
    · simp -implicitDefEqProofs [h0]
  have e : lostVersions path vs = vs.filter (lostV path) := by unfold lostVersions; rw [if_pos h1]
  rw [e]
  simp -implicitDefEqProofs
  refine swp_loop (fun k s => ∃ j o1 o2, j + k = vs.length ∧ s = ⟨[.sl 1 4 path.length (path.flatMap eBox), .sl 1 1 vs.length (ints vs), .undef, .arr 3, I j, .undef, .undef], [.free, o1, o2, .arr 1 0 ((vs.take j).filter (lostV path)).length (ints ((vs.take j).filter (lostV path)))]⟩) ?_ (vs.length) _ ⟨0, .free, .free, by simp, by simp⟩
  intro k s ⟨j, o1, o2, hj, hs⟩
  subst hs
  by_cases hjn : j < vs.length
  · have hw : IntKind.i64.wrap ((j : Int) + 1) = (j + 1 : Nat) := by rw [wrap_id (by omega) (by omega)]; simp
    have hst := filt_step (p := lostV path) hjn
    have hfl := filt_len (p := lostV path) (xs := vs) (j := j)
    have hb1 : (((vs.take j).filter (lostV path)).length + 1) * 8 ≤ 1099511627776 := by omega
    have hw1 : IntKind.i64.wrap ((j : Int) + 1) = (j : Int) + 1 := wrap_id (by omega) (by omega)
    have hj1 : j + 1 ≤ vs.length := by omega
    have hj2 : (j : Int) + 1 ≤ vs.length := by omega
    have hdt : (vs.drop j).take 1 = [vs[j]] := by rw [List.drop_eq_getElem_cons hjn]; rfl
    simp -implicitDefEqProofs [hjn]
    refine callQ_of (hA vs (by unfold maxLen; omega)) ?_
    have hjj : (j : Int) ≤ (j : Int) + 1 := by omega
    have h11 : j + 1 - j = 1 := by omega
    simp -implicitDefEqProofs [h1, hw1, hj1, hj2, hdt, hjn, hjj, h11]
    refine callQ_of (hO path [vs[j]] hb (by simp)) ?_
    rw [isOpen_one]
    by_cases h2 : lostV path vs[j] = true
    · rw [if_pos h2] at hst
      simp -implicitDefEqProofs [h2, hjn, hb1]
      exact ⟨k - 1, by omega, j + 1, by omega, by simp [hw], by rw [hst]; simp, by rw [hst]⟩
    · rw [if_neg h2, List.append_nil] at hst
      simp -implicitDefEqProofs [h2]
      exact ⟨k - 1, by omega, j + 1, by omega, by simp [hw], by rw [hst], by rw [hst]⟩
  · have e2 := filt_all (p := lostV path) (xs := vs) (j := j) (by omega)
    simp -implicitDefEqProofs [hjn, e2]
theorem iLostVersions_b (D : Dn) (hA : AreVersionsS (D gimpl_AreVersions)) (hH : PlainHelloS (D gimpl_PlainHello)) (hP : PassPathS (D gimpl_PassPath)) : LostVersionsS (Body D simpl_LostVersions) := by
  intro path vs hb hv
  simp -implicitDefEqProofs
  refine callQ_of (hA vs (by unfold maxLen; omega)) ?_
  by_cases h1 : areVers vs = true
  rotate_left
  · have e : lostVersions path vs = [] := by unfold lostVersions; rw [if_neg h1]
    rw [e]
    simp -implicitDefEqProofs [h1]
  have e : lostVersions path vs = vs.filter (lostV path) := by unfold lostVersions; rw [if_pos h1]
  rw [e]
  simp -implicitDefEqProofs [h1]
  refine swp_loop (fun k s => ∃ j v4 o1 o2 o3 o4 o5 o6 o7 o8, j + k = vs.length ∧ s = ⟨[.sl 1 4 path.length (path.flatMap eBox), .undef, .undef, .arr 9, v4, .undef, .undef, .sl 1 1 vs.length (ints vs), I vs.length, I j, .undef, .undef], [.free, o1, o2, o3, o4, o5, o6, o7, o8, .arr 1 0 ((vs.take j).filter (lostV path)).length (ints ((vs.take j).filter (lostV path)))]⟩) ?_ (vs.length) _ ⟨0, .undef, .free, .free, .free, .free, .free, .free, .free, .free, by simp, by simp⟩
  intro k s ⟨j, v4, o1, o2, o3, o4, o5, o6, o7, o8, hj, hs⟩
  subst hs
  by_cases hjn : j < vs.length
  · have hw : IntKind.i64.wrap ((j : Int) + 1) = (j + 1 : Nat) := by rw [wrap_id (by omega) (by omega)]; simp
    have hst := filt_step (p := lostV path) hjn
    have hfl := filt_len (p := lostV path) (xs := vs) (j := j)
    have hb1 : (((vs.take j).filter (lostV path)).length + 1) * 8 ≤ 1099511627776 := by omega
    simp -implicitDefEqProofs [hjn]
    refine callQ_of (hH [vs[j]] (by simp)) ?_
    simp -implicitDefEqProofs
    refine callQ_of (hP path ⟨[vs[j]], []⟩ hb ⟨by simp, exB_nil⟩) ?_
    have hq : lostV path vs[j] = !(passPath path ⟨[vs[j]], []⟩).2 := rfl
    generalize passPath path ⟨[vs[j]], []⟩ = r at hq
    by_cases h2 : r.2 = true
    · have h3 : ¬ lostV path vs[j] = true := by rw [hq, h2]; simp
      rw [if_neg h3, List.append_nil] at hst
      simp -implicitDefEqProofs [h2]
      exact ⟨k - 1, by omega, j + 1, by omega, by simp [hw], by rw [hst], by rw [hst]⟩
    · have h3 : lostV path vs[j] = true := by rw [hq]; simpa using h2
      rw [if_pos h3] at hst
      simp -implicitDefEqProofs [h2, hb1]
      exact ⟨k - 1, by omega, j + 1, by omega, by simp [hw], by rw [hst]; simp, by rw [hst]⟩
  · have e2 := filt_all (p := lostV path) (xs := vs) (j := j) (by omega)
    simp -implicitDefEqProofs [hjn, e2]
end Go.Eng.T

namespace Go.Eng.T
set_option maxRecDepth 20000

/-- the places, from i on, at which p holds -/
def idxL {α : Type} (p : α → Bool) : List α → Nat → List Int
  | [], _ => []
  | x :: r, i => if p x then (i : Int) :: idxL p r (i + 1) else idxL p r (i + 1)
theorem idxL_append {α : Type} {p : α → Bool} (b : List α) : ∀ (a : List α) (i : Nat), idxL p (a ++ b) i = idxL p a i ++ idxL p b (i + a.length)
  | [], i => by simp [idxL]
  | x :: r, i => by
    have := idxL_append (p := p) b r (i + 1)
    simp only [List.cons_append, idxL, this, List.length_cons]
    rw [show i + 1 + r.length = i + (r.length + 1) by omega]
    by_cases h : p x = true <;> simp [h]
theorem idxL_step {α : Type} {p : α → Bool} {xs : List α} {j : Nat} (h : j < xs.length) : idxL p (xs.take (j + 1)) 0 = idxL p (xs.take j) 0 ++ (if p xs[j] then [(j : Int)] else []) := by
  have e : xs.take (j + 1) = xs.take j ++ [xs[j]] := by simp
  rw [e, idxL_append]
  have hl : (xs.take j).length = j := by simp; omega
  by_cases hp : p xs[j] = true <;> simp [idxL, hp, hl]
theorem idxL_all {α : Type} {p : α → Bool} {xs : List α} {j : Nat} (h : xs.length ≤ j) : idxL p (xs.take j) 0 = idxL p xs 0 := by rw [List.take_of_length_le h]
theorem idxL_len {α : Type} {p : α → Bool} : ∀ (xs : List α) (i : Nat), (idxL p xs i).length ≤ xs.length
  | [], _ => by simp [idxL]
  | x :: r, i => by
    have := idxL_len (p := p) r (i + 1)
    by_cases h : p x = true
    · simp [idxL, h]; omega
    · simp [idxL, h]; omega

def hasE (v : Int) (e : Endpoint) : Bool := decide (v ∈ e.versions)
theorem world_vers {w : World} (h : szWorld w ≤ 4194304) {j : Nat} (hj : j < w.ends.length) : w.ends[j].versions.length ≤ maxLen := by
  have := size_at (f := szEndpoint) hj
  have e : szEndpoint w.ends[j] = w.ends[j].versions.length + w.ends[j].tags.length + sumF szBox w.ends[j].path := rfl
  unfold szWorld at h
  unfold maxLen; omega
abbrev HasVersionS (R : Rel) : Prop := ∀ (w : World) (v : Int), szWorld w ≤ 4194304 → R [arg (eWorld w), I v] [] (.sl 0 1 (idxL (hasE v) w.ends 0).length (ints (idxL (hasE v) w.ends 0))) []
end Go.Eng.T

namespace Go.Eng.T
set_option maxRecDepth 20000
set_option maxHeartbeats 1000000

def rowsV (xs : List (List Int)) : List V := xs.map fun l => .sl 0 1 l.length (ints l)
@[simp high] theorem rowsV_len (xs : List (List Int)) : (rowsV xs).length = xs.length := by simp [rowsV]
@[simp] theorem rowsV_nil : rowsV [] = [] := rfl
@[simp] theorem rowsV_ro (xs : List (List Int)) : (rowsV xs).map (roCell 0) = rowsV xs := by simp [rowsV, Function.comp_def, roCell]
@[simp high] theorem rowsV_at {xs : List (List Int)} {j : Nat} (h : j < xs.length) : (rowsV xs)[j]? = some (V.sl 0 1 xs[j].length (ints xs[j])) := by simp [rowsV, h]
theorem rowsV_push (xs : List (List Int)) (l : List Int) {n : Nat} (h : n = l.length) : rowsV xs ++ [.sl 0 1 n (ints l)] = rowsV (xs ++ [l]) := by subst h; simp [rowsV]
def szRows (xs : List (List Int)) : Nat := sumF List.length xs
theorem rows_at {xs : List (List Int)} {j : Nat} (h : j < xs.length) : xs[j].length ≤ szRows xs := size_at (f := List.length) h
theorem rows_len {xs : List (List Int)} : xs.length ≤ szRows xs := size_len

def listsOf (w : World) : List (List Int) := w.ends.map (·.versions)
abbrev ListsOfS (R : Rel) : Prop := ∀ w : World, szWorld w ≤ 4194304 → R [arg (eWorld w)] [] (.sl 0 1 (listsOf w).length (rowsV (listsOf w))) []
theorem lists_step {xs : List Endpoint} {j : Nat} (h : j < xs.length) : rowsV ((xs.map (·.versions)).take j) ++ [.sl 0 1 xs[j].versions.length (ints xs[j].versions)] = rowsV ((xs.map (·.versions)).take (j + 1)) := by
  have h' : j < (xs.map (·.versions)).length := by simpa using h
  have e : (xs.map (·.versions)).take (j + 1) = (xs.map (·.versions)).take j ++ [xs[j].versions] := by
    have := List.take_append_getElem h'
    rw [← this]; simp
  rw [e, rowsV_push _ _ rfl]
abbrev rowsA (ls : List (List Int)) : V := .sl 1 1 ls.length (rowsV ls)
def useB (s : List Int) (v : Int) (l : List Int) : Bool := decide (bestCommon s l = v)
def useOf (s : List Int) (ls : List (List Int)) (v : Int) : Nat := if 1 ≤ v then cntF (useB s v) ls else 0
abbrev UseOfS (R : Rel) : Prop := ∀ (s : List Int) (ls : List (List Int)) (v : Int), s.length ≤ 4194304 → szRows ls ≤ 4194304 → R [.sl 1 1 s.length (ints s), rowsA ls, I v] [] (I (useOf s ls v)) []
def strB (s : List Int) (v : Int) (l : List Int) : Bool := decide (0 < bestCommon s l) && decide (bestCommon (withoutV s v) l = 0)
def stranded (s : List Int) (ls : List (List Int)) (v : Int) : List Int := idxL (strB s v) ls 0
abbrev StrandedS (R : Rel) : Prop := ∀ (s : List Int) (ls : List (List Int)) (v : Int), s.length ≤ 4194304 → szRows ls ≤ 4194304 → R [.sl 1 1 s.length (ints s), rowsA ls, I v] [] (.sl 0 1 (stranded s ls v).length (ints (stranded s ls v))) []
theorem useOf_le (s : List Int) (ls : List (List Int)) (v : Int) : useOf s ls v ≤ ls.length := by
  unfold useOf
  split
  · have := cnt_le (f := useB s v) (xs := ls) (j := ls.length) (by omega)
    rwa [List.take_length] at this
  · omega
def mayRetire (s : List Int) (ls : List (List Int)) (v pm : Int) : Bool := areVers s && (decide (v ∈ s) && (!decide (s.length = 1) && (decide (InV pm 0 1000) && (decide (stranded s ls v = []) && decide (1000 * (useOf s ls v : Int) ≤ pm * (ls.length : Int))))))
abbrev MayRetireS (R : Rel) : Prop := ∀ (s : List Int) (ls : List (List Int)) (v pm : Int), s.length ≤ 4194304 → szRows ls ≤ 4194304 → R [.sl 1 1 s.length (ints s), rowsA ls, I v, I pm] [] (B (mayRetire s ls v pm)) []
def retire (s : List Int) (ls : List (List Int)) (v pm : Int) : List Int × Bool := if mayRetire s ls v pm = true then (withoutV s v, true) else (s, false)
abbrev RetireVersionS (R : Rel) : Prop := ∀ (s : List Int) (ls : List (List Int)) (v pm : Int), s.length ≤ 4194304 → szRows ls ≤ 4194304 → R [.sl 1 1 s.length (ints s), rowsA ls, I v, I pm] [] (.tup [.sl 0 1 (retire s ls v pm).1.length (ints (retire s ls v pm).1), B (retire s ls v pm).2]) []
theorem world_serv' {w : World} (h : szWorld w ≤ 4194304) : w.server.length ≤ 4194304 := by unfold szWorld at h; omega
theorem listsF (xs : List Endpoint) : szRows (xs.map (·.versions)) ≤ sumF szEndpoint xs := by
  induction xs with
  | nil => simp [szRows, sumF]
  | cons x r ih =>
    simp only [szRows, sumF, List.map_cons, List.sum_cons, List.length_cons, szEndpoint, List.length_map] at *
    omega
theorem lists_sz {w : World} (h : szWorld w ≤ 4194304) : szRows (listsOf w) ≤ 4194304 := by
  have := listsF w.ends
  unfold szWorld at h
  unfold listsOf
  omega
def stepRetire (w : World) (v pm : Int) : World × Bool := if (retire w.server (listsOf w) v pm).2 = true ∧ ¬ v = w.rollout.version then ({ w with server := (retire w.server (listsOf w) v pm).1 }, true) else (w, false)
abbrev StepRetireS (R : Rel) : Prop := ∀ (w : World) (v pm : Int), szWorld w ≤ 4194304 → R [arg (eWorld w), I v, I pm] [] (.tup [.agg (eWorld (stepRetire w v pm).1), B (stepRetire w v pm).2]) []
end Go.Eng.T

namespace Go.Eng.T
set_option maxRecDepth 20000
set_option maxHeartbeats 1000000
def leftOf (a b : List Int) : List Int := a.filter fun v => !decide (v ∈ b)
abbrev LeftS (R : Rel) : Prop := ∀ a b : List Int, a.length ≤ 4194304 → b.length ≤ 4194304 → R [.sl 1 1 a.length (ints a), .sl 1 1 b.length (ints b)] [] (.sl 0 1 (leftOf a b).length (ints (leftOf a b))) []
theorem l21Left_b (D : Dn) (hH : HasS (D gspec_l9Has)) : LeftS (Body D sspec_l21Left) := by
  intro a b ha hb
  have hres : leftOf a b = a.filter (fun v => !decide (v ∈ b)) := rfl
  rw [hres]
  simp -implicitDefEqProofs
  refine swp_loop (fun k s => ∃ j o1 o2, j + k = a.length ∧ s = ⟨[.sl 1 1 a.length (ints a), .sl 1 1 b.length (ints b), .undef, .arr 3, I j, .undef, .undef], [.free, o1, o2, .arr 1 0 ((a.take j).filter (fun v => !decide (v ∈ b))).length (ints ((a.take j).filter (fun v => !decide (v ∈ b))))]⟩) ?_ (a.length) _ ⟨0, .free, .free, by simp, by simp⟩
  intro k s ⟨j, o1, o2, hj, hs⟩
  subst hs
  by_cases hjn : j < a.length
  · have hw : IntKind.i64.wrap ((j : Int) + 1) = (j + 1 : Nat) := by rw [wrap_id (by omega) (by omega)]; simp
    have hst := filt_step (p := fun v => !decide (v ∈ b)) hjn
    have hln := filt_len (p := fun v => !decide (v ∈ b)) (xs := a) (j := j)
    have hbd : (((a.take j).filter (fun v => !decide (v ∈ b))).length + 1) * 8 ≤ 1099511627776 := by omega
    simp -implicitDefEqProofs [hjn]
    refine callQ_of (hH b _ (by unfold maxLen; omega)) ?_
    by_cases h1 : a[j] ∈ b
    · rw [if_neg (by simp [h1]), List.append_nil] at hst
      simp -implicitDefEqProofs [h1, hjn, hbd]
      exact ⟨k - 1, by omega, j + 1, by omega, by simp [hw], by rw [hst], by rw [hst]⟩
    · rw [if_pos (by simp [h1])] at hst
      simp -implicitDefEqProofs [h1, hjn, hbd]
      exact ⟨k - 1, by omega, j + 1, by omega, by simp [hw], by rw [hst]; simp, by rw [hst]⟩
  · have hx := filt_all (p := fun v => !decide (v ∈ b)) (xs := a) (j := j) (by omega)
    simp -implicitDefEqProofs [hjn, hx]
theorem withoutG_b (D : Dn) (hH : HasS (D gslices_Contains___int_int_)) : LeftS (Body D simpl_without) := by
  intro a b ha hb
  have hres : leftOf a b = a.filter (fun v => !decide (v ∈ b)) := rfl
  rw [hres]
  simp -implicitDefEqProofs
  refine swp_loop (fun k s => ∃ j v4 o1 o2, j + k = a.length ∧ s = ⟨[.undef, .sl 1 1 b.length (ints b), .undef, .arr 3, v4, .sl 1 1 a.length (ints a), I a.length, I j, .undef, .undef], [.free, o1, o2, .arr 1 0 ((a.take j).filter (fun v => !decide (v ∈ b))).length (ints ((a.take j).filter (fun v => !decide (v ∈ b))))]⟩) ?_ (a.length) _ ⟨0, .undef, .free, .free, by simp, by simp⟩
  intro k s ⟨j, v4, o1, o2, hj, hs⟩
  subst hs
  by_cases hjn : j < a.length
  · have hw : IntKind.i64.wrap ((j : Int) + 1) = (j + 1 : Nat) := by rw [wrap_id (by omega) (by omega)]; simp
    have hst := filt_step (p := fun v => !decide (v ∈ b)) hjn
    have hln := filt_len (p := fun v => !decide (v ∈ b)) (xs := a) (j := j)
    have hbd : (((a.take j).filter (fun v => !decide (v ∈ b))).length + 1) * 8 ≤ 1099511627776 := by omega
    simp -implicitDefEqProofs [hjn]
    refine callQ_of (hH b _ (by unfold maxLen; omega)) ?_
    by_cases h1 : a[j] ∈ b
    · rw [if_neg (by simp [h1]), List.append_nil] at hst
      simp -implicitDefEqProofs [h1, hjn, hbd]
      exact ⟨k - 1, by omega, j + 1, by omega, by simp [hw], by rw [hst], by rw [hst]⟩
    · rw [if_pos (by simp [h1])] at hst
      simp -implicitDefEqProofs [h1, hjn, hbd]
      exact ⟨k - 1, by omega, j + 1, by omega, by simp [hw], by rw [hst]; simp, by rw [hst]⟩
  · have hx := filt_all (p := fun v => !decide (v ∈ b)) (xs := a) (j := j) (by omega)
    simp -implicitDefEqProofs [hjn, hx]

/-- numbers that rise -/
def upTo (xs : List Int) (i : Nat) : Bool := decide (i = 0) || decide (xs.getD (i - 1) 0 < xs.getD i 0)
def areTags (xs : List Int) : Bool := allTo (upTo xs) xs.length && allIn xs 0 255
abbrev AreTagsS (R : Rel) : Prop := ∀ xs : List Int, xs.length ≤ maxLen → R [.sl 1 1 xs.length (ints xs)] [] (B (areTags xs)) []
theorem areTags_no1 {xs : List Int} {j : Nat} (h : j < xs.length) (hn : ¬ InR xs[j] 0 255) : areTags xs = false := by unfold areTags; rw [allIn_no h hn]; simp
theorem areTags_no2 {xs : List Int} {j : Nat} (h : j < xs.length) (hn : upTo xs j = false) : areTags xs = false := by unfold areTags; rw [allTo_no h hn]; simp
theorem upTo_zero (xs : List Int) : upTo xs 0 = true := by simp [upTo]
theorem upTo_at {xs : List Int} {j : Nat} (h0 : ¬ j = 0) (h : j < xs.length) (h' : j - 1 < xs.length) : upTo xs j = decide (xs[j - 1] < xs[j]) := by
  unfold upTo
  rw [getDV h, getDV h']
  simp [h0]
theorem iareTags_b (D : Dn) (hN : areNumbersS (D gimpl_areNumbers)) : AreTagsS (Body D simpl_areTags) := by
  intro xs hl
  have hl0 := hl
  unfold maxLen at hl
  simp -implicitDefEqProofs
  refine swp_loop (fun k s => ∃ j, j + k = xs.length ∧ allTo (upTo xs) j = true ∧ s = ⟨[.sl 1 1 xs.length (ints xs), .undef, .undef, .undef, .sl 1 1 xs.length (ints xs), I xs.length, I j, .undef, .undef], []⟩) ?_ (xs.length) _ ⟨0, by simp, by simp, by simp⟩
  intro k s ⟨j, hj, hr, hs⟩
  subst hs
  by_cases hjn : j < xs.length
  · have hw : IntKind.i64.wrap ((j : Int) + 1) = (j + 1 : Nat) := by rw [wrap_id (by omega) (by omega)]; simp
    have hst := allTo_step (upTo xs) j
    rw [hr, Bool.true_and] at hst
    by_cases h0 : j = 0
    · subst h0
      simp -implicitDefEqProofs [hjn]
      exact ⟨k - 1, by omega, 1, by omega, by rw [hst, upTo_zero], by simpa using hw⟩
    · have hw2 : IntKind.i64.wrap ((j : Int) - 1) = ((j - 1 : Nat) : Int) := by rw [wrap_id (by omega) (by omega)]; omega
      have h2 : (0 : Int) < j := by omega
      have h2' : 0 < j := by omega
      have h3 : j - 1 < xs.length := by omega
      rw [upTo_at h0 hjn h3] at hst
      by_cases h4 : xs[j - 1] < xs[j]
      · have h4' : ¬ xs[j] ≤ xs[j - 1] := by omega
        simp -implicitDefEqProofs [h2, h2', hw2, h3, hjn, h4']
        exact ⟨k - 1, by omega, j + 1, by omega, by rw [hst]; simp [h4], by simp [hw]⟩
      · have e := areTags_no2 hjn (by rw [upTo_at h0 hjn h3]; simp [h4])
        have h4' : xs[j] ≤ xs[j - 1] := by omega
        simp -implicitDefEqProofs [h2, h2', hw2, h3, hjn, h4', e]
  · obtain rfl : j = xs.length := by omega
    have e : areTags xs = allIn xs 0 255 := by unfold areTags; rw [hr]; rfl
    simp -implicitDefEqProofs
    refine callQ_of (hN xs _ _ hl0) ?_
    simp -implicitDefEqProofs [e]

def isEndpoint (e : Endpoint) : Bool := areVers e.versions && (decide (e.tags.length ≤ 5) && (areTags e.tags && (!e.tags.any isReserved && (decide (e.path.length ≤ 4) && (e.path.all isBox && decide (InR e.cls 0 5))))))
abbrev IsEndpointS (R : Rel) : Prop := ∀ e : Endpoint, lnEndpoint e → R [arg (eEndpoint e)] [] (B (isEndpoint e)) []
theorem sIsEndpoint_b (D : Dn) (hI : InS (D gspec_l1In)) (hR : IsReservedS (D gspec_IsReserved)) (hX : IsBoxS (D gspec_IsBox)) (hA : AreVersionsS (D gspec_AreVersions)) : IsEndpointS (Body D sspec_IsEndpoint) := by
  intro e hl
  obtain ⟨hl1, hl2, hl3⟩ := hl
  have hl4 := hl3.1
  have hl2' := hl2
  unfold lnInts at hl2
  unfold maxLen at hl2 hl4
  simp -implicitDefEqProofs
  refine swp_loop (fun k s => ∃ j, j + k = e.tags.length ∧ allIn (e.tags.take j) 0 255 = true ∧ allTo (upTo e.tags) j = true ∧ (e.tags.take j).any isReserved = false ∧ s = ⟨[.undef, .ptr 0 0, .undef, I j, .undef, .undef, .undef, .undef, .undef], [.var ((eEndpoint e).map (roCell 1))]⟩) ?_ (e.tags.length) _ ⟨0, by simp, by simp [allIn], by simp, by simp, by simp⟩
  intro k s ⟨j, hj, hp, hr, hq, hs⟩
  subst hs
  by_cases hjn : j < e.tags.length
  · have hw : IntKind.i64.wrap ((j : Int) + 1) = (j + 1 : Nat) := by rw [wrap_id (by omega) (by omega)]; simp
    have hst := allTo_step (upTo e.tags) j
    rw [hr, Bool.true_and] at hst
    have hsq := any_step (p := isReserved) hjn
    rw [hq, Bool.false_or] at hsq
    simp -implicitDefEqProofs [hjn]
    refine callQ_of (hI _ _ _) ?_
    by_cases h1 : InR e.tags[j] 0 255
    rotate_left
    · have e0 : isEndpoint e = false := by unfold isEndpoint; rw [areTags_no1 hjn h1]; simp
      simp -implicitDefEqProofs [h1, e0]
    simp -implicitDefEqProofs [h1, hjn]
    refine callQ_of (hR _) ?_
    by_cases h5 : isReserved e.tags[j] = true
    · have e0 : isEndpoint e = false := by unfold isEndpoint; rw [any_here hjn h5]; simp
      simp -implicitDefEqProofs [h5, e0]
    have h5' : isReserved e.tags[j] = false := by simpa using h5
    by_cases h0 : j = 0
    · subst h0
      simp -implicitDefEqProofs [h1, h5']
      exact ⟨k - 1, by omega, 1, by omega, by rw [allIn_step hjn, hp]; simp [h1], by rw [hst, upTo_zero], by simpa using hsq.trans h5', by simpa using hw⟩
    · have hw2 : IntKind.i64.wrap ((j : Int) - 1) = ((j - 1 : Nat) : Int) := by rw [wrap_id (by omega) (by omega)]; omega
      have h2 : (0 : Int) < j := by omega
      have h2' : 0 < j := by omega
      have h3 : j - 1 < e.tags.length := by omega
      rw [upTo_at h0 hjn h3] at hst
      by_cases h4 : e.tags[j - 1] < e.tags[j]
      · have h4' : ¬ e.tags[j] ≤ e.tags[j - 1] := by omega
        simp -implicitDefEqProofs [h1, h5', h2, h2', hw2, h3, hjn, h4']
        exact ⟨k - 1, by omega, j + 1, by omega, by rw [allIn_step hjn, hp]; simp [h1], by rw [hst]; simp [h4], by simpa using hsq.trans h5', by simp [hw]⟩
      · have e0 : isEndpoint e = false := by unfold isEndpoint; rw [areTags_no2 hjn (by rw [upTo_at h0 hjn h3]; simp [h4])]; simp
        have h4' : e.tags[j] ≤ e.tags[j - 1] := by omega
        simp -implicitDefEqProofs [h1, h5', h2, h2', hw2, h3, hjn, h4', e0]
  obtain rfl : j = e.tags.length := by omega
  have et : areTags e.tags = true := by unfold areTags; rw [hr, allIn_all (by omega) hp]; rfl
  have er : e.tags.any isReserved = false := any_none (by omega) hq
  simp -implicitDefEqProofs
  refine swp_loop (fun k s => ∃ j, j + k = e.path.length ∧ (e.path.take j).all isBox = true ∧ s = ⟨[.undef, .ptr 0 0, .undef, .undef, I j, .undef, .undef, .undef, .undef], [.var ((eEndpoint e).map (roCell 1))]⟩) ?_ (e.path.length) _ ⟨0, by simp, by simp, by simp⟩
  intro k s ⟨j, hj, hb, hs⟩
  subst hs
  by_cases hjn : j < e.path.length
  · have hw : IntKind.i64.wrap ((j : Int) + 1) = (j + 1 : Nat) := by rw [wrap_id (by omega) (by omega)]; simp
    have hst := all_step (p := isBox) hjn
    rw [hb, Bool.true_and] at hst
    simp -implicitDefEqProofs [hjn]
    refine callQ_of (hX _ (hl3.2 j hjn)) ?_
    by_cases h1 : isBox e.path[j] = true
    · simp -implicitDefEqProofs [h1]
      exact ⟨k - 1, by omega, j + 1, by omega, by simpa using hst.trans h1, by simp [hw]⟩
    · have e0 : isEndpoint e = false := by unfold isEndpoint; rw [all_here hjn (by simpa using h1)]; simp
      simp -implicitDefEqProofs [h1, e0]
  have eb : e.path.all isBox = true := by rw [← all_all (j := j) (by omega), hb]
  simp -implicitDefEqProofs [hjn]
  refine callQ_of (hA _ hl1) ?_
  by_cases g1 : areVers e.versions = true
  rotate_left
  · simp -implicitDefEqProofs [g1, isEndpoint]
  by_cases g2 : e.tags.length ≤ 5
  rotate_left
  · have g2' : ¬ (e.tags.length : Int) ≤ 5 := by omega
    simp -implicitDefEqProofs [g1, g2, g2', isEndpoint]
  have g2' : (e.tags.length : Int) ≤ 5 := by omega
  by_cases g3 : e.path.length ≤ 4
  rotate_left
  · have g3' : ¬ (e.path.length : Int) ≤ 4 := by omega
    simp -implicitDefEqProofs [g1, g2, g2', g3, g3', isEndpoint]
  have g3' : (e.path.length : Int) ≤ 4 := by omega
  simp -implicitDefEqProofs [g1, g2', g3']
  refine callQ_of (hI _ _ _) ?_
  have ee : isEndpoint e = decide (InR e.cls 0 5) := by unfold isEndpoint; rw [et, er, eb]; simp [g1, g2, g3]
  simp -implicitDefEqProofs [ee]
abbrev IsEndpoint1S (R : Rel) : Prop := ∀ b : Box, lnBox b → R [arg (eBox b)] [] (B (!isBox b)) []
theorem IsEndpoint1_b (D : Dn) (hX : IsBoxS (D gimpl_IsBox)) : IsEndpoint1S (Body D simpl_IsEndpoint_1) := by
  intro b hb
  simp -implicitDefEqProofs
  refine callQ_of (hX b hb) ?_
  simp -implicitDefEqProofs
theorem any_not {α : Type} (p : α → Bool) (xs : List α) : (xs.any fun x => !p x) = !xs.all p := by rw [List.all_eq_not_any_not]; simp
theorem iIsEndpoint_b (D : Dn) (hA : AreVersionsS (D gimpl_AreVersions)) (hT : AreTagsS (D gimpl_areTags)) (hH : IsHardenedS (D gimpl_IsHardened)) (h1 : IsEndpoint1S (D gimpl_IsEndpoint_1)) (hC : ContainsFuncBoxS D (D gslices_ContainsFunc___impl_Box_impl_Box_)) (hI : InS (D gimpl_InRange)) : IsEndpointS (Body D simpl_IsEndpoint) := by
  intro e hl
  obtain ⟨hl1, hl2, hl3⟩ := hl
  simp -implicitDefEqProofs
  refine callQ_of (hA _ hl1) ?_
  by_cases g1 : areVers e.versions = true
  rotate_left
  · simp -implicitDefEqProofs [g1, isEndpoint]
  by_cases g2 : e.tags.length ≤ 5
  rotate_left
  · have g2' : ¬ (e.tags.length : Int) ≤ 5 := by omega
    simp -implicitDefEqProofs [g1, g2, g2', isEndpoint]
  have g2' : (e.tags.length : Int) ≤ 5 := by omega
  simp -implicitDefEqProofs [g1, g2']
  refine callQ_of (hT _ hl2) ?_
  by_cases g4 : areTags e.tags = true
  rotate_left
  · simp -implicitDefEqProofs [g4, isEndpoint]
  simp -implicitDefEqProofs [g4]
  refine callQ_of (hH _ hl2) ?_
  by_cases g5 : e.tags.any isReserved = true
  · have e0 : isEndpoint e = false := by unfold isEndpoint; rw [g5]; simp
    generalize e.tags.any isReserved = q at g5
    subst g5
    simp -implicitDefEqProofs [e0]
  have g5' : e.tags.any isReserved = false := by simpa using g5
  have ee : isEndpoint e = (decide (e.path.length ≤ 4) && (e.path.all isBox && decide (InR e.cls 0 5))) := by unfold isEndpoint; rw [g5', g1, g4]; simp [g2]
  rw [ee]
  generalize e.tags.any isReserved = q at g5'
  subst g5'
  by_cases g3 : e.path.length ≤ 4
  rotate_left
  · have g3' : ¬ (e.path.length : Int) ≤ 4 := by omega
    simp -implicitDefEqProofs [g3, g3']
  have g3' : (e.path.length : Int) ≤ 4 := by omega
  simp -implicitDefEqProofs [g3, g3']
  refine callQ_of (hC e.path gimpl_IsEndpoint_1 [] (fun b => !isBox b) hl3.1 capOk_nil (fun j hj => h1 e.path[j] (hl3.2 j hj))) ?_
  rw [any_not]
  generalize e.path.all isBox = q
  by_cases g6 : q = true
  rotate_left
  · simp -implicitDefEqProofs [g6]
  simp -implicitDefEqProofs [g6]
  refine callQ_of (hI _ _ _) ?_
  simp -implicitDefEqProofs

theorem ln_box {b : Box} (h : szBox b ≤ 4194304) : lnBox b := by
  unfold szBox at h
  exact ⟨by unfold lnInts maxLen; omega, by unfold lnInts maxLen; omega⟩
theorem ln_path {p : List Box} (h : sumF szBox p ≤ 4194304) : lnS lnBox p :=
  ⟨by have := size_len (f := szBox) (xs := p); unfold maxLen; omega, fun j hj => ln_box (by have := size_at (f := szBox) hj; omega)⟩
theorem ln_end {e : Endpoint} (h : szEndpoint e ≤ 4194304) : lnEndpoint e := by
  unfold szEndpoint at h
  exact ⟨by unfold lnInts maxLen; omega, by unfold lnInts maxLen; omega, ln_path (by omega)⟩
theorem world_end {w : World} (h : szWorld w ≤ 4194304) {n : Nat} (hn : n < w.ends.length) : szEndpoint w.ends[n] ≤ 4194304 := by
  have := size_at (f := szEndpoint) hn
  have := (world_szs h).2.2.1
  omega
theorem endp_vers {e : Endpoint} (h : szEndpoint e ≤ 4194304) : e.versions.length ≤ 4194304 := by unfold szEndpoint at h; omega
def bestFor (e : Endpoint) (s : List Int) : Int := if isEndpoint e = true then bestCommon s (leftOf e.versions (lostVersions e.path e.versions)) else 0
abbrev BestForS (R : Rel) : Prop := ∀ (e : Endpoint) (s : List Int), szEndpoint e ≤ 4194304 → s.length ≤ 4194304 → R [arg (eEndpoint e), .sl 1 1 s.length (ints s)] [] (I (bestFor e s)) []
theorem lost_len (path : List Box) (vs : List Int) : (lostVersions path vs).length ≤ vs.length := by
  unfold lostVersions
  split
  · exact List.length_filter_le _ _
  · simp
theorem left_len (a b : List Int) : (leftOf a b).length ≤ a.length := List.length_filter_le _ _
theorem sBestFor_b (D : Dn) (hE : IsEndpointS (D gspec_IsEndpoint)) (hV : LostVersionsS (D gspec_LostVersions)) (hL : LeftS (D gspec_l21Left)) (hB : BestCommonS (D gspec_BestCommon)) : BestForS (Body D sspec_BestFor) := by
  intro e s hsz hs
  have hl := ln_end hsz
  have hv := endp_vers hsz
  obtain ⟨hl1, hl2, hl3⟩ := hl
  simp -implicitDefEqProofs
  refine callQ_of (hE e (ln_end hsz)) ?_
  by_cases h1 : isEndpoint e = true
  rotate_left
  · simp -implicitDefEqProofs [h1, bestFor]
  have hll := lost_len e.path e.versions
  have hll2 := left_len e.versions (lostVersions e.path e.versions)
  simp -implicitDefEqProofs [h1]
  refine callQ_of (hV e.path e.versions hl3 hv) ?_
  simp -implicitDefEqProofs
  refine callQ_of (hL e.versions (lostVersions e.path e.versions) hv (by omega)) ?_
  simp -implicitDefEqProofs
  refine callQ_of (hB s (leftOf e.versions (lostVersions e.path e.versions)) hs (by omega)) ?_
  simp -implicitDefEqProofs [bestFor, h1]
theorem iBestFor_b (D : Dn) (hE : IsEndpointS (D gimpl_IsEndpoint)) (hV : LostVersionsS (D gimpl_LostVersions)) (hL : LeftS (D gimpl_without)) (hB : BestCommonS (D gimpl_BestCommon)) : BestForS (Body D simpl_BestFor) := by
  intro e s hsz hs
  have hl := ln_end hsz
  have hv := endp_vers hsz
  obtain ⟨hl1, hl2, hl3⟩ := hl
  simp -implicitDefEqProofs
  refine callQ_of (hE e (ln_end hsz)) ?_
  by_cases h1 : isEndpoint e = true
  rotate_left
  · simp -implicitDefEqProofs [h1, bestFor]
  have hll := lost_len e.path e.versions
  have hll2 := left_len e.versions (lostVersions e.path e.versions)
  simp -implicitDefEqProofs [h1]
  refine callQ_of (hV e.path e.versions hl3 hv) ?_
  simp -implicitDefEqProofs
  refine callQ_of (hL e.versions (lostVersions e.path e.versions) hv (by omega)) ?_
  simp -implicitDefEqProofs
  refine callQ_of (hB s (leftOf e.versions (lostVersions e.path e.versions)) hs (by omega)) ?_
  simp -implicitDefEqProofs [bestFor, h1]
def bestNow (w : World) (i : Int) : Int := if InQ i 0 ((w.ends.length : Int) - 1) then (match w.ends[i.toNat]? with | some e => bestFor e w.server | none => 0) else 0
abbrev BestNowS (R : Rel) : Prop := ∀ (w : World) (i : Int), szWorld w ≤ 4194304 → R [arg (eWorld w), I i] [] (I (bestNow w i)) []
theorem sBestNow_b (D : Dn) (hI : InS (D gspec_l1In)) (hB : BestForS (D gspec_BestFor)) : BestNowS (Body D sspec_BestNow) := by
  intro w i hsz
  have he := world_ends hsz
  have hw : IntKind.i64.wrap ((w.ends.length : Int) - 1) = (w.ends.length : Int) - 1 := wrap_id (by omega) (by omega)
  simp -implicitDefEqProofs [hw]
  refine callQ_of (hI _ _ _) ?_
  by_cases h1 : InQ i 0 ((w.ends.length : Int) - 1)
  rotate_left
  · simp -implicitDefEqProofs [h1, bestNow]
  obtain ⟨n, rfl⟩ : ∃ n : Nat, i = n := ⟨i.toNat, by have := h1.1; omega⟩
  have hn : n < w.ends.length := by have := h1.2; omega
  have hb := world_szs hsz
  have hes := world_end hsz hn
  have e : bestNow w n = bestFor w.ends[n] w.server := by unfold bestNow; rw [if_pos h1]; simp [hn]
  rw [e]
  simp -implicitDefEqProofs [h1, hn]
  refine callQ_of (hB w.ends[n] w.server hes hb.1) ?_
  simp -implicitDefEqProofs
theorem iBestNow_b (D : Dn) (hI : hasEndS (D gimpl_hasEnd)) (hB : BestForS (D gimpl_BestFor)) : BestNowS (Body D simpl_BestNow) := by
  intro w i hsz
  have he := world_ends hsz
  simp -implicitDefEqProofs
  refine callQ_of (hI w i he) ?_
  by_cases h1 : InQ i 0 ((w.ends.length : Int) - 1)
  rotate_left
  · simp -implicitDefEqProofs [h1, bestNow]
  obtain ⟨n, rfl⟩ : ∃ n : Nat, i = n := ⟨i.toNat, by have := h1.1; omega⟩
  have hn : n < w.ends.length := by have := h1.2; omega
  have hb := world_szs hsz
  have hes := world_end hsz hn
  have e : bestNow w n = bestFor w.ends[n] w.server := by unfold bestNow; rw [if_pos h1]; simp [hn]
  rw [e]
  simp -implicitDefEqProofs [h1, hn]
  refine callQ_of (hB w.ends[n] w.server hes hb.1) ?_
  simp -implicitDefEqProofs
end Go.Eng.T

namespace Go.Eng.T
set_option maxRecDepth 20000

def cntR (p : Nat → Bool) : Nat → Nat
  | 0 => 0
  | n + 1 => cntR p n + (if p n then 1 else 0)
theorem cntR_le (p : Nat → Bool) : ∀ n, cntR p n ≤ n
  | 0 => Nat.le_refl 0
  | n + 1 => by have := cntR_le p n; simp only [cntR]; split <;> omega
def onNew (w : World) (i : Nat) : Bool := isOnNew w (i : Int)
abbrev OnNewCountS (R : Rel) : Prop := ∀ w : World, szWorld w ≤ 4194304 → R [arg (eWorld w)] [] (I (cntR (onNew w) w.ends.length)) []
end Go.Eng.T

namespace Go.Eng.T
set_option maxRecDepth 20000
set_option maxHeartbeats 1000000
def areCounts (l : List Int) : Bool := decide (l.length ≤ 10) && allIn l 0 10000
abbrev AreCountsS (R : Rel) : Prop := ∀ l : List Int, l.length ≤ maxLen → R [.sl 1 1 l.length (ints l)] [] (B (areCounts l)) []
theorem sAreCounts_b (D : Dn) (hI : InS (D gspec_l1In)) : AreCountsS (Body D sspec_AreCounts) := by
  intro l hl
  unfold maxLen at hl
  simp -implicitDefEqProofs
  refine swp_loop (fun k s => ∃ j, j + k = l.length ∧ allIn (l.take j) 0 10000 = true ∧ s = ⟨[.sl 1 1 l.length (ints l), .undef, I j, .undef, .undef], []⟩) ?_ (l.length) _ ⟨0, by simp, by simp [allIn], by simp⟩
  intro k s ⟨j, hj, hp, hs⟩
  subst hs
  by_cases hjn : j < l.length
  · have hw : IntKind.i64.wrap ((j : Int) + 1) = (j + 1 : Nat) := by rw [wrap_id (by omega) (by omega)]; simp
    simp -implicitDefEqProofs [hjn]
    refine callQ_of (hI _ _ _) ?_
    by_cases h1 : InR l[j] 0 10000
    · simp -implicitDefEqProofs [h1]
      exact ⟨k - 1, by omega, j + 1, by omega, by rw [allIn_step hjn, hp]; simp [h1], by simp [hw]⟩
    · have e : areCounts l = false := by unfold areCounts; rw [allIn_no hjn h1]; simp
      simp -implicitDefEqProofs [h1, e]
  · have e : areCounts l = decide (l.length ≤ 10) := by unfold areCounts; rw [allIn_all (by omega) hp]; simp
    by_cases h5 : l.length ≤ 10
    · have h5' : (l.length : Int) ≤ 10 := by omega
      simp -implicitDefEqProofs [hjn, e, h5, h5']
    · have h5' : ¬ (l.length : Int) ≤ 10 := by omega
      simp -implicitDefEqProofs [hjn, e, h5, h5']
theorem iAreCounts_b (D : Dn) (hN : areNumbersS (D gimpl_areNumbers)) : AreCountsS (Body D simpl_AreCounts) := by
  intro l hl
  by_cases h5 : l.length ≤ 10
  · have h5' : (l.length : Int) ≤ 10 := by omega
    simp -implicitDefEqProofs [h5']
    refine callQ_of (hN _ _ _ hl) ?_
    simp -implicitDefEqProofs [areCounts, h5]
  · have h5' : ¬ (l.length : Int) ≤ 10 := by omega
    simp -implicitDefEqProofs [h5', areCounts, h5]
def canHide (l : List Int) (n : Int) : Bool := areCounts l && decide (InR n 0 10000)
abbrev canHideS (R : Rel) : Prop := ∀ (l : List Int) (n : Int), l.length ≤ maxLen → R [.sl 1 1 l.length (ints l), I n] [] (B (canHide l n)) []
theorem canHide_b (D : Dn) (hA : AreCountsS (D gimpl_AreCounts)) (hI : InS (D gimpl_InRange)) : canHideS (Body D simpl_canHide) := by
  intro l n hl
  simp -implicitDefEqProofs
  refine callQ_of (hA l hl) ?_
  by_cases h1 : areCounts l = true
  rotate_left
  · simp -implicitDefEqProofs [h1, canHide]
  simp -implicitDefEqProofs [h1]
  refine callQ_of (hI _ _ _) ?_
  simp -implicitDefEqProofs [h1, canHide]
def hideN (n x : Int) : Int := if x < n then 0 else x
def hideSmall (l : List Int) (n : Int) : List Int := if canHide l n = true then l.map (hideN n) else []
abbrev HideSmallS (R : Rel) : Prop := ∀ (l : List Int) (n : Int), l.length ≤ 4194304 → R [.sl 1 1 l.length (ints l), I n] [] (.sl 0 1 (hideSmall l n).length (ints (hideSmall l n))) []
theorem hide_step {l : List Int} {n : Int} {j : Nat} (h : j < l.length) : (l.take (j + 1)).map (hideN n) = (l.take j).map (hideN n) ++ [hideN n l[j]] := by
  have e : l.take (j + 1) = l.take j ++ [l[j]] := by simp
  rw [e, List.map_append]; rfl
theorem sHideSmall_b (D : Dn) (hA : AreCountsS (D gspec_AreCounts)) (hI : InS (D gspec_l1In)) : HideSmallS (Body D sspec_HideSmall) := by
  intro l n hl
  have hl' : l.length ≤ maxLen := by unfold maxLen; omega
  by_cases hc : canHide l n = true
  rotate_left
  · have e : hideSmall l n = [] := by unfold hideSmall; rw [if_neg hc]
    rw [e]
    simp -implicitDefEqProofs
    refine swp_loop (fun k s => s = ⟨[.sl 1 1 l.length (ints l), I n, .undef, .arr 3, I 0, .undef, .undef, .undef], [.free, .free, .free, .arr 1 0 0 (ints [])]⟩) ?_ 0 _ (by simp)
    intro k s hs
    subst hs
    by_cases h0 : 0 < l.length
    rotate_left
    · simp -implicitDefEqProofs [h0]
    simp -implicitDefEqProofs [h0]
    refine callQ_of (hA l hl') ?_
    by_cases h1 : areCounts l = true
    rotate_left
    · simp -implicitDefEqProofs [h1]
    have h2 : ¬ InR n 0 10000 := by intro h2; exact hc (by unfold canHide; simp [h1, h2])
    simp -implicitDefEqProofs [h1]
    refine callQ_of (hI _ _ _) ?_
    simp -implicitDefEqProofs [h2]
  have e : hideSmall l n = l.map (hideN n) := by unfold hideSmall; rw [if_pos hc]
  rw [e]
  unfold canHide at hc
  simp only [Bool.and_eq_true, decide_eq_true_eq] at hc
  obtain ⟨h1, h2⟩ := hc
  simp -implicitDefEqProofs
  refine swp_loop (fun k s => ∃ j o1 o2, j + k = l.length ∧ s = ⟨[.sl 1 1 l.length (ints l), I n, .undef, .arr 3, I j, .undef, .undef, .undef], [.free, o1, o2, .arr 1 0 j (ints ((l.take j).map (hideN n)))]⟩) ?_ (l.length) _ ⟨0, .free, .free, by simp, by simp⟩
  intro k s ⟨j, o1, o2, hj, hs⟩
  subst hs
  by_cases hjn : j < l.length
  · have hw : IntKind.i64.wrap ((j : Int) + 1) = (j + 1 : Nat) := by rw [wrap_id (by omega) (by omega)]; simp
    simp -implicitDefEqProofs [hjn]
    refine callQ_of (hA l hl') ?_
    simp -implicitDefEqProofs [h1]
    refine callQ_of (hI _ _ _) ?_
    have hst := hide_step (n := n) hjn
    rw [List.map_take, List.map_take] at hst
    have hbd : (j + 1) * 8 ≤ 1099511627776 := by omega
    by_cases h3 : l[j] < n
    · have e3 : hideN n l[j] = 0 := by unfold hideN; rw [if_pos h3]
      simp -implicitDefEqProofs [hjn, h2, h3, hbd]
      exact ⟨k - 1, by omega, j + 1, by omega, by simp [hw], rfl, by rw [hst, e3]⟩
    · have e3 : hideN n l[j] = l[j] := by unfold hideN; rw [if_neg h3]
      simp -implicitDefEqProofs [hjn, h2, h3, hbd]
      exact ⟨k - 1, by omega, j + 1, by omega, by simp [hw], rfl, by rw [hst, e3]⟩
  · obtain rfl : j = l.length := by omega
    simp -implicitDefEqProofs
theorem iHideSmall_b (D : Dn) (hC : canHideS (D gimpl_canHide)) : HideSmallS (Body D simpl_HideSmall) := by
  intro l n hl
  have hl' : l.length ≤ maxLen := by unfold maxLen; omega
  simp -implicitDefEqProofs
  refine callQ_of (hC l n hl') ?_
  by_cases hc : canHide l n = true
  rotate_left
  · have e : hideSmall l n = [] := by unfold hideSmall; rw [if_neg hc]
    rw [e]
    simp -implicitDefEqProofs [hc]
  have e : hideSmall l n = l.map (hideN n) := by unfold hideSmall; rw [if_pos hc]
  rw [e]
  simp -implicitDefEqProofs [hc]
  refine swp_loop (fun k s => ∃ j o1 o2, j + k = l.length ∧ s = ⟨[.undef, I n, .undef, .arr 3, .undef, .undef, .sl 1 1 l.length (ints l), I l.length, I j, .undef, .undef], [.free, o1, o2, .arr 1 0 j (ints ((l.take j).map (hideN n)))]⟩) ?_ (l.length) _ ⟨0, .free, .free, by simp, by simp⟩
  intro k s ⟨j, o1, o2, hj, hs⟩
  subst hs
  by_cases hjn : j < l.length
  · have hw : IntKind.i64.wrap ((j : Int) + 1) = (j + 1 : Nat) := by rw [wrap_id (by omega) (by omega)]; simp
    have hst := hide_step (n := n) hjn
    rw [List.map_take, List.map_take] at hst
    have hbd : (j + 1) * 8 ≤ 1099511627776 := by omega
    by_cases h3 : l[j] < n
    · have e3 : hideN n l[j] = 0 := by unfold hideN; rw [if_pos h3]
      simp -implicitDefEqProofs [hjn, h3, hbd]
      exact ⟨k - 1, by omega, j + 1, by omega, by simp [hw], rfl, by rw [hst, e3]⟩
    · have e3 : hideN n l[j] = l[j] := by unfold hideN; rw [if_neg h3]
      simp -implicitDefEqProofs [hjn, h3, hbd]
      exact ⟨k - 1, by omega, j + 1, by omega, by simp [hw], rfl, by rw [hst, e3]⟩
  · obtain rfl : j = l.length := by omega
    simp -implicitDefEqProofs

/-- how often each is the best -/
def bestIs (w : World) (v : Nat) (i : Nat) : Bool := decide (bestNow w i = (v : Int))
def cntV (w : World) (v j : Nat) : Int := (cntR (bestIs w v) j : Nat)
def cntL (w : World) (j : Nat) : List Int := (List.range 10).map fun v => cntV w v j
def verCounts (w : World) : List Int := cntL w w.ends.length
theorem cntL_len (w : World) (j : Nat) : (cntL w j).length = 10 := by simp [cntL]
theorem cntL_get {w : World} {j b : Nat} (h : b < (cntL w j).length) : (cntL w j)[b] = cntV w b j := by simp [cntL]
abbrev VersionCountsS (R : Rel) : Prop := ∀ w : World, szWorld w ≤ 4194304 → R [arg (eWorld w)] [] (.sl 0 1 (verCounts w).length (ints (verCounts w))) []
theorem cntV_step (w : World) (v j : Nat) : cntV w v (j + 1) = cntV w v j + (if bestNow w j = (v : Int) then 1 else 0) := by
  unfold cntV
  simp only [cntR, bestIs]
  by_cases h : bestNow w j = (v : Int) <;> simp [h]
theorem cntV_le (w : World) (v j : Nat) : 0 ≤ cntV w v j ∧ cntV w v j ≤ j := by
  have := cntR_le (bestIs w v) j
  unfold cntV; omega
theorem map_step {α : Type} (f : Nat → α) (v : Nat) : (List.range (v + 1)).map f = (List.range v).map f ++ [f v] := by rw [List.range_succ, List.map_append]; rfl
theorem sVersionCounts_b (D : Dn) (hB : BestNowS (D gspec_BestNow)) : VersionCountsS (Body D sspec_VersionCounts) := by
  intro w hsz
  have hl := world_ends hsz
  have hres : verCounts w = (List.range 10).map fun v => cntV w v w.ends.length := rfl
  have hlen : (verCounts w).length = 10 := cntL_len w _
  rw [hlen, hres]
  simp -implicitDefEqProofs
  refine swp_loop (fun k s => ∃ j o2 o3, j + k = 10 ∧ s = ⟨[.undef, .ptr 0 0, .undef, .arr 4, I j, .undef, .undef, .undef, .undef, .undef], [.var ((eWorld w).map (roCell 1)), .free, o2, o3, .arr 1 0 j (ints ((List.range j).map fun v => cntV w v w.ends.length))]⟩) ?_ (10) _ ⟨0, .free, .free, by simp, by simp⟩
  intro k s ⟨j, o2, o3, hj, hs⟩
  subst hs
  by_cases hjn : j < 10
  rotate_left
  · obtain rfl : j = 10 := by omega
    simp -implicitDefEqProofs
  have hw : IntKind.i64.wrap ((j : Int) + 1) = (j + 1 : Nat) := by rw [wrap_id (by omega) (by omega)]; simp
  have h9 : (j : Int) ≤ 9 := by omega
  have hst := map_step (fun v => cntV w v w.ends.length) j
  have hbd : (j + 1) * 8 ≤ 1099511627776 := by omega
  simp -implicitDefEqProofs [h9]
  refine swp_loop (fun q s => ∃ i, i + q = w.ends.length ∧ s = ⟨[.undef, .ptr 0 0, .undef, .arr 4, I j, I (cntV w j i), I i, .undef, .undef, .undef], [.var ((eWorld w).map (roCell 1)), .free, o2, o3, .arr 1 0 j (ints ((List.range j).map fun v => cntV w v w.ends.length))]⟩) ?_ w.ends.length _ ⟨0, by simp, by simp [cntV, cntR]⟩
  intro q s ⟨i, hi, hs⟩
  subst hs
  by_cases hin : i < w.ends.length
  · have hwi : IntKind.i64.wrap ((i : Int) + 1) = (i + 1 : Nat) := by rw [wrap_id (by omega) (by omega)]; simp
    have hc := cntV_le w j i
    have hwc : IntKind.i64.wrap (cntV w j i + 1) = cntV w j i + 1 := wrap_id (by omega) (by omega)
    have hs2 := cntV_step w j i
    simp -implicitDefEqProofs [hin]
    refine callQ_of (hB w i hsz) ?_
    by_cases hb : bestNow w i = (j : Int)
    · rw [if_pos hb] at hs2
      simp -implicitDefEqProofs [hb]
      exact ⟨q - 1, by omega, i + 1, by omega, by rw [hwc, hs2], by simp [hwi]⟩
    · rw [if_neg hb] at hs2
      simp -implicitDefEqProofs [hb]
      exact ⟨q - 1, by omega, i + 1, by omega, by rw [hs2]; simp, by simp [hwi]⟩
  · obtain rfl : i = w.ends.length := by omega
    simp -implicitDefEqProofs [hbd]
    exact ⟨k - 1, by omega, j + 1, by omega, by simp [hw], rfl, by rw [hst]⟩
theorem best_range (a b : List Int) : 0 ≤ bestCommon a b ∧ bestCommon a b ≤ 9 := by
  unfold bestCommon
  split
  · rename_i h
    by_cases h3 : common a b = []
    · rw [h3]; simp [maxF]
    · have h4 : 0 < (common a b).length := List.length_pos_iff.2 h3
      have h5 := maxF_last (l := common a b) ((vers_pair h.1).filter _) (fun x hx => by have := vers_in h.1 x (List.mem_filter.1 hx).1; omega) h4
      rw [h5]
      have := vers_in h.1 _ (List.mem_filter.1 (List.getElem_mem (l := common a b) (n := (common a b).length - 1) (by omega))).1
      omega
  · simp
theorem bestNow_range (w : World) (i : Int) : 0 ≤ bestNow w i ∧ bestNow w i ≤ 9 := by
  unfold bestNow
  split
  · split
    · unfold bestFor
      split
      · exact best_range _ _
      · simp
    · simp
  · simp
theorem counts_set (w : World) (j b : Nat) (h : bestNow w j = (b : Int)) : (cntL w j).set b (cntV w b j + 1) = cntL w (j + 1) := by
  unfold cntL
  apply List.ext_getElem
  · simp
  · intro n h1 h2
    simp only [List.length_map, List.length_range] at h2
    rw [List.getElem_set]
    simp only [List.getElem_map, List.getElem_range, cntV_step, h]
    by_cases hn : b = n
    · subst hn; simp
    · rw [if_neg hn, if_neg (by omega)]; simp
theorem iVersionCounts_b (D : Dn) (hB : BestNowS (D gimpl_BestNow)) : VersionCountsS (Body D simpl_VersionCounts) := by
  intro w hsz
  have hl := world_ends hsz
  have hres : verCounts w = cntL w w.ends.length := rfl
  rw [hres, cntL_len]
  simp -implicitDefEqProofs
  refine swp_loop (fun k s => ∃ j, j + k = w.ends.length ∧ s = ⟨[.undef, .ptr 0 0, .undef, .arr 1, .undef, I w.ends.length, I j, .undef], [.var ((eWorld w).map (roCell 1)), .arr 1 0 10 (ints (cntL w j))]⟩) ?_ (w.ends.length) _ ⟨0, by simp, by simp [cntL, cntV, cntR, List.range, List.range.loop, ints]⟩
  intro k s ⟨j, hj, hs⟩
  subst hs
  by_cases hjn : j < w.ends.length
  · have hw : IntKind.i64.wrap ((j : Int) + 1) = (j + 1 : Nat) := by rw [wrap_id (by omega) (by omega)]; simp
    simp -implicitDefEqProofs [hjn]
    refine callQ_of (hB w j hsz) ?_
    have hr := bestNow_range w j
    obtain ⟨b, hb⟩ : ∃ b : Nat, bestNow w j = (b : Int) := ⟨(bestNow w j).toNat, by omega⟩
    have hb9 : b < 10 := by omega
    have hb9i : (b : Int) < 10 := by omega
    have hb9' : b < (cntL w j).length := by rw [cntL_len]; exact hb9
    have hset := counts_set w j b hb
    have hc := cntV_le w b j
    have hwc : IntKind.i64.wrap (cntV w b j + 1) = cntV w b j + 1 := wrap_id (by omega) (by omega)
    rw [hb]
    simp -implicitDefEqProofs [cntL_len, hb9, hb9i, hb9', cntL_get hb9', hwc]
    exact ⟨k - 1, by omega, j + 1, by omega, by simp [hw], by rw [hset]⟩
  · obtain rfl : j = w.ends.length := by omega
    simp -implicitDefEqProofs
def reportNow (w : World) (n : Int) : List Int := hideSmall (verCounts w) n
abbrev ReportNowS (R : Rel) : Prop := ∀ (w : World) (n : Int), szWorld w ≤ 4194304 → R [arg (eWorld w), I n] [] (.sl 0 1 (reportNow w n).length (ints (reportNow w n))) []
theorem sReportNow_b (D : Dn) (hV : VersionCountsS (D gspec_VersionCounts)) (hH : HideSmallS (D gspec_HideSmall)) : ReportNowS (Body D sspec_ReportNow) := by
  intro w n hsz
  simp -implicitDefEqProofs
  refine callQ_of (hV w hsz) ?_
  simp -implicitDefEqProofs
  refine callQ_of (hH (verCounts w) n (by rw [verCounts, cntL_len]; omega)) ?_
  simp -implicitDefEqProofs [reportNow]
theorem iReportNow_b (D : Dn) (hV : VersionCountsS (D gimpl_VersionCounts)) (hH : HideSmallS (D gimpl_HideSmall)) : ReportNowS (Body D simpl_ReportNow) := by
  intro w n hsz
  simp -implicitDefEqProofs
  refine callQ_of (hV w hsz) ?_
  simp -implicitDefEqProofs
  refine callQ_of (hH (verCounts w) n (by rw [verCounts, cntL_len]; omega)) ?_
  simp -implicitDefEqProofs [reportNow]
theorem report_len (w : World) (n : Int) : (reportNow w n).length ≤ 10 := by
  unfold reportNow hideSmall
  split
  · rw [List.length_map, verCounts, cntL_len]; omega
  · simp
end Go.Eng.T

namespace Go.Eng.T
set_option maxRecDepth 20000
set_option maxHeartbeats 2000000
abbrev FnExactBestNowS (R : Rel) : Prop := ∀ (aW : World) (aI : Int), lnWorld aW → rgWorld aW → rgI aI → R [arg (eWorld aW), I aI] [] (B true) []
abbrev FnExactVersionCountsS (R : Rel) : Prop := ∀ (aW : World), lnWorld aW → rgWorld aW → R [arg (eWorld aW)] [] (B true) []
abbrev FnExactReportNowS (R : Rel) : Prop := ∀ (aW : World) (aLeast : Int), lnWorld aW → rgWorld aW → rgI aLeast → R [arg (eWorld aW), I aLeast] [] (B true) []
theorem FnExactReportNow_b (D : Dn) (hs : ReportNowS (D gspec_ReportNow)) (hi : ReportNowS (D gimpl_ReportNow)) (hszWorld : szWorldS (D glaws_szWorld)) (htoWorld : toWorldS (D glaws_toWorld)) (heqIntS : eqIntSS (D glaws_eqIntS)) (heqWorld : eqWorldS (D glaws_eqWorld)) (hmarkWorld : markWorldS (D glaws_markWorld)) (hmarkIntS : markIntSS (D glaws_markIntS)) (hheldIntS : heldIntSS (D glaws_heldIntS)) : FnExactReportNowS (Body D slaws_FnExactReportNow) := by
  intro aW aLeast l_aW w_aW w_aLeast
  simp -implicitDefEqProofs []
  refine callQ_of (hszWorld aW ((1048576 : Int)) (by omega) (by omega) l_aW) ?_
  by_cases g1 : (1048576 : Int) < ((szWorld aW : Nat) : Int)
  · simp -implicitDefEqProofs [szl_lt g1]
  have p1 : ¬ (1048576 : Int) - ((szWorld aW : Nat) : Int) < 0 := by omega
  simp -implicitDefEqProofs [szl_ge g1, p1]
  have hs' := hs aW aLeast (by omega)
  have hi' := hi aW aLeast (by omega)
  obtain ⟨b0, c0⟩ : (reportNow aW aLeast).length ≤ 1099511627776 ∧ (reportNow aW aLeast).length ≤ 1099511627776 := ⟨by have := report_len aW aLeast; omega, by have := report_len aW aLeast; omega⟩
  generalize reportNow aW aLeast = r0 at hs' hi' b0 c0
  refine callQ_of (htoWorld aW (by omega)) ?_
  simp -implicitDefEqProofs [szl_ge g1, p1]
  refine callQ_of (hs') ?_
  simp -implicitDefEqProofs [szl_ge g1, p1]
  refine callQ_of (htoWorld aW (by omega)) ?_
  simp -implicitDefEqProofs [szl_ge g1, p1]
  refine callQ_of (hi') ?_
  simp -implicitDefEqProofs [szl_ge g1, p1]
  refine callQ_of (heqIntS r0 r0 (by unfold maxLen; omega) (by unfold maxLen; omega)) ?_
  simp -implicitDefEqProofs [szl_ge g1, p1]
  refine callQ_of (htoWorld aW (by omega)) ?_
  simp -implicitDefEqProofs [szl_ge g1, p1]
  refine callQ_of (heqWorld aW aW (by omega) (by omega)) ?_
  simp -implicitDefEqProofs [szl_ge g1, p1]
  have qaW := mc_szWorld aW
  have pkaW : ¬ 1 + ((mcWorld aW : Nat) : Int) < 0 := by omega
  refine callQ_of (hmarkWorld aW (1) (by omega) (by omega)) ?_
  simp -implicitDefEqProofs [szl_ge g1, p1, pkaW, mkWorld, mkRollout]
  refine callQ_of (heqIntS r0 r0 (by unfold maxLen; omega) (by unfold maxLen; omega)) ?_
  simp -implicitDefEqProofs [szl_ge g1, p1, pkaW, mkWorld, mkRollout]
  refine callQ_of (hmarkIntS r0 (1) (by omega) (by omega)) ?_
  simp -implicitDefEqProofs [szl_ge g1, p1, pkaW, mkWorld, mkRollout]
  have pq0 : ¬ 1 + ((r0.length : Nat) : Int) < 0 := by omega
  refine callQ_of (hheldIntS r0.length (1) (by omega) (by omega)) ?_
  simp -implicitDefEqProofs [szl_ge g1, p1, pkaW, mkWorld, mkRollout, pq0]
  refine callQ_of (htoWorld aW (by omega)) ?_
  simp -implicitDefEqProofs [szl_ge g1, p1, pkaW, mkWorld, mkRollout, pq0]
  refine callQ_of (hi') ?_
  simp -implicitDefEqProofs [szl_ge g1, p1, pkaW, mkWorld, mkRollout, pq0]
  refine callQ_of (heqIntS r0 r0 (by unfold maxLen; omega) (by unfold maxLen; omega)) ?_
  simp -implicitDefEqProofs [szl_ge g1, p1, pkaW, mkWorld, mkRollout, pq0]
  refine callQ_of (hheldIntS r0.length (1) (by omega) (by omega)) ?_
  simp -implicitDefEqProofs [szl_ge g1, p1, pkaW, mkWorld, mkRollout, pq0]
end Go.Eng.T

namespace Go.Eng
open Go.Lib Go.RowKit

/-- what is read only -/
inductive RdArgs (fid : Nat → Option FuncId) (w : World) : List V → List Value → Prop where
  | nil : RdArgs fid w [] []
  | sc {v : Value} {azs : List V} {xs : List Value} (h : RdArgs fid w azs xs) : RdArgs fid w (.sc v :: azs) (v :: xs)
  | sl {e len : Nat} {cells : List V} {x : Value} {azs : List V} {xs : List Value} (h1 : Rd fid w (· < w.heap.size) (.sl 1 e len cells) x) (h : RdArgs fid w azs xs) : RdArgs fid w (.sl 1 e len cells :: azs) (x :: xs)

def plainA : V → Prop
  | .sc _ => True
  | .sl 1 _ _ _ => True
  | _ => False

theorem rdArgs_of {F : Fr} {w : World} {β : Nat → Base} {own : Nat → Option (Nat × List Nat)} {H : Hp} (hw : w = F.w0) : ∀ {azs : List V} {xs : List Value}, (∀ a, a ∈ azs → plainA a) → Pw (VR F β own H w) azs xs → RdArgs F.fid w azs xs
  | [], xs, _, h => by rw [h.unnil]; exact .nil
  | a :: azs, xs, hp, h => by
    obtain ⟨x, r, rfl, h1, h2⟩ := h.uncons
    have ih := rdArgs_of hw (fun a ha => hp a (List.mem_cons_of_mem _ ha)) h2
    have ha := hp a (by simp)
    cases h1 with
    | sc h => exact .sc ih
    | @rd fl e len cells _ h3 h =>
      match fl, ha, h with
      | 1, _, h => exact .sl (Rd.move h (fun b hb => by rw [hw]; exact hb.1) (fun _ _ => rfl)) ih
    | _ => exact absurd ha (by simp [plainA])

theorem den_read {P : Program} {fid : Nat → Option FuncId} {G : Gl} {g : Nat} {args : List V} {v : Value} (hv : v.oneCell' = true) (hp' : ∀ a, a ∈ args → plainA a)
    (h : ∀ id, fid g = some id → ∀ w : World, (∀ b, G b → b < w.heap.size ∧ w.heap[b]? = G.is b) → ∀ xs, RdArgs fid w args xs → Calls P id xs.toArray w fun e w' => e = .returned v ∧ Below w.heap.size w w') : Den P fid G g args [] (.sc v) [] := by
  intro id hid F hF hG hb ht hn inv xs hx
  have hr := rdArgs_of (F := F) rfl hp' hx
  rw [hF] at hr
  refine (h id hid F.w0 (fun b hb => ?_) xs hr).mono fun e w' ⟨he, hw⟩ => ?_
  · have := inv.glob b (by rw [hG]; exact hb)
    exact ⟨this.1, by rw [← hG]; exact this.2.2⟩
  · subst he
    refine ⟨F.own0, ⟨hw.size, hw.os, hw.tape, hw.output, fun b hb _ => hw.block b hb, fun b p hb => ⟨Nat.lt_of_lt_of_le (inv.ownb b p hb).1 hw.size, fun _ => ?_⟩, .sc hv, hn.symm, fun i o hi => ?_⟩⟩
    · rw [hb]; simp
    · simp at hi

theorem below_grow {w : World} {k : Nat} {os : Array Obj} : Below w.heap.size w (Sort.grow (w.drewN k) os) :=
  ⟨rfl, rfl, rfl, by simp [Sort.grow, World.drewN], fun b hb => by simp [Sort.grow, World.drewN, Array.getElem?_append, hb]⟩

/-- a table that nobody writes reads azs it did -/
theorem tab_same {P : Program} {W w : World} {name : String} {k : IntKind} {zs : List Int} {b : Nat} (hg : P.globalNamed name = some b) (h : TabIs P W name k zs) (he : w.heap[b]? = W.heap[b]?) : TabIs P w name k zs := by
  unfold TabIs World.var? at *
  rw [hg] at h ⊢
  simp only [Option.bind_some] at h ⊢
  rw [he]
  exact h
theorem tab_of_laid {P : Program} {W : World} {name : String} {k : IntKind} {zs : List Int} {rest : List (String × DataW Unit)} {g : Nat} {t e : TypeId} {n : Nat} {ps : List MemPlace}
    (hg : P.globalNamed name = some g) (hty : (P.globals[g]?).map (·.type) = some t) (ht : P.underlying t = some (.array n e)) (he : P.underlying e = some (.int k)) (hce : P.cellsOf e = 1) (hct : P.cellsOf t = n)
    (h : DataW.LaidVars P W ((name, tabData k zs) :: rest) ps) : TabIs P W name k zs := by
  obtain ⟨g', t', cs, fuel, p, q, hg', ht', hvar, hd, _, _⟩ := h
  obtain rfl := Option.some.inj (hg.symm.trans hg')
  obtain rfl := Option.some.inj (hty.symm.trans ht')
  unfold TabIs
  rw [hvar, ← cells_of_tab ht he hce hct hd]
theorem laid_tail {P : Program} {W : World} {x : String × DataW Unit} {rest : List (String × DataW Unit)} {ps : List MemPlace} (h : DataW.LaidVars P W (x :: rest) ps) : ∃ q, DataW.LaidVars P W rest q := by
  obtain ⟨g', t', cs, fuel, p, q, hg', ht', hvar, hd, hr, _⟩ := h
  exact ⟨q, hr⟩
theorem tab_third {P : Program} {W : World} {name : String} {k : IntKind} {zs : List Int} {a b : String × DataW Unit} {rest : List (String × DataW Unit)} {g : Nat} {t e : TypeId} {n : Nat}
    (hg : P.globalNamed name = some g) (hty : (P.globals[g]?).map (·.type) = some t) (ht : P.underlying t = some (.array n e)) (he : P.underlying e = some (.int k)) (hce : P.cellsOf e = 1) (hct : P.cellsOf t = n)
    (h : laidMet P (a :: b :: (name, tabData k zs) :: rest) W) : TabIs P W name k zs := by
  obtain ⟨ps, h1, _⟩ := h
  obtain ⟨q1, h2⟩ := laid_tail h1
  obtain ⟨q2, h3⟩ := laid_tail h2
  exact tab_of_laid hg hty ht he hce hct h3
theorem tab_size {P : Program} {W : World} {name : String} {k : IntKind} {zs : List Int} {b : Nat} (hg : P.globalNamed name = some b) (h : TabIs P W name k zs) : b < W.heap.size := by
  unfold TabIs World.var? at h
  rw [hg] at h
  simp only [Option.bind_some] at h
  by_cases hb : b < W.heap.size
  · exact hb
  · rw [Array.getElem?_eq_none (by omega)] at h; cases h
end Go.Eng

namespace Go.Eng
open Go.Lib Go.RowKit Go.Sort

def iv (l : List Int) : List Value := l.map (Value.int .i64)
@[simp] theorem iv_len (l : List Int) : (iv l).length = l.length := by simp [iv]
theorem iv_ones (l : List Int) : Ones (iv l) := by
  intro v hv
  simp only [iv, List.mem_map] at hv
  obtain ⟨x, _, rfl⟩ := hv
  rfl

/-- what is as it was beside what is owned -/
structure Kept (F : Fr) (w' : World) : Prop where
  size : F.w0.heap.size ≤ w'.heap.size
  os : w'.os = F.w0.os
  tape : w'.tape = F.w0.tape
  output : w'.output = F.w0.output
  keep : ∀ b, b < F.w0.heap.size → F.own0 b = none → w'.heap[b]? = F.w0.heap[b]?

theorem Kept.refl (F : Fr) : Kept F F.w0 := ⟨Nat.le_refl _, rfl, rfl, rfl, fun _ _ _ => rfl⟩

/-- an array of numbers that is handed over -/
theorem own_ints {F : Fr} {given : List O} {k : Nat} {l : List Int} {x : Value} (inv : Inv F F.β0 F.own0 (hp given) F.w0) (hk : hp given k = .arr 1 0 l.length (T.ints l)) (h : VR F F.β0 F.own0 (hp given) F.w0 (.arr k) x) :
    ∃ a cap, x = .slice a l.length cap ∧ (l.length ≤ cap ∧ cap ≤ 9223372036854775807) ∧ a = (F.β0 k).a ∧ cap = (F.β0 k).cap ∧ (cap = 0 ∨ ∃ b o, a = some ⟨b, o, none⟩ ∧ F.own0 b = some (k, []) ∧ Has F.w0 b o (iv l) cap) := by
  have ho := inv.objs k
  rw [hk] at ho
  obtain ⟨vs, h1, h2, h3, h4, h5⟩ := ho
  have hv : vs = iv l := by
    apply List.ext_getElem?
    intro i
    by_cases hi : i < l.length
    · have hlen : vs.length = l.length := by rw [h1]; simp
      have e1 : vs[i]? = some (vs[i]'(by omega)) := by simp [hlen, hi]
      have := h5 i (.sc (.int .i64 l[i])) _ (by simp [hi]) e1
      rw [e1]
      generalize vs[i]'(by omega) = y at this
      cases this with
      | sc _ => simp [iv, hi]
    · rw [List.getElem?_eq_none (by rw [h1]; simp; omega), List.getElem?_eq_none (by simp; omega)]
  subst hv
  cases h with
  | @arr _ e t len cs he =>
    rw [hk] at he
    simp only [arrOf, Option.some.injEq, Prod.mk.injEq] at he
    obtain ⟨rfl, rfl, rfl, rfl⟩ := he
    refine ⟨_, _, rfl, h3, rfl, rfl, ?_⟩
    rcases h4 with h4 | ⟨b, o, h4, h6, h7⟩
    · exact .inl (by omega)
    · exact .inr ⟨b, o, h4, h6, by rw [Nat.mul_one] at h7; exact h7⟩
  | goneA hd => rw [hk] at hd; cases hd

theorem den_slice {P : Program} {fid : Nat → Option FuncId} {G : Gl} {g : Nat} {args : List V} {given : List O} {l' : List Int}
    (h : ∀ id, fid g = some id → ∀ F : Fr, F.fid = fid → Inv F F.β0 F.own0 (hp given) F.w0 → ∀ xs, Pw (VR F F.β0 F.own0 (hp given) F.w0) args xs →
      Calls P id xs.toArray F.w0 fun e w' => ∃ a cap, e = .returned (.slice a l'.length cap) ∧ (l'.length ≤ cap ∧ cap ≤ 9223372036854775807) ∧ (cap = 0 ∨ ∃ b o, a = some ⟨b, o, none⟩ ∧ Has w' b o (iv l') cap ∧ (b < F.w0.heap.size → F.own0 b ≠ none)) ∧ Kept F w') :
    Den P fid G g args given (.sl 0 1 l'.length (T.ints l')) (given.map fun _ => .dead) := by
  intro id hid F hF hG hb ht hn inv xs hx
  refine (h id hid F hF inv xs hx).mono fun e w' ⟨a, cap, he, hl, hm, hk⟩ => ?_
  subst he
  have hcs : ∀ own (i : Nat) (v : V) (x : Value), (T.ints l')[i]? = some v → (iv l')[i]? = some x → Ow F.fid w' own (fun _ b => F.G b) 0 F.ngiven ([] ++ [i]) v x := by
    intro own i v x h1 h2
    by_cases hi : i < l'.length
    · rw [T.ints_at hi] at h1
      simp only [iv, List.getElem?_map, hi, List.getElem?_eq_getElem, Option.map_some, Option.some.injEq] at h1 h2
      subst h1 h2
      exact .sc rfl
    · rw [List.getElem?_eq_none (by simp; omega)] at h1; cases h1
  rcases hm with hm | ⟨b, o, rfl, hhas, hown⟩
  · refine ⟨fun _ => none, ⟨hk.size, hk.os, hk.tape, hk.output, hk.keep, fun b p h => (by cases h), .own hl (by simp) (by simp) (.inl (by omega)) (hcs _), by simp [hn], fun i o hi => ?_⟩⟩
    simp only [List.getElem?_map, Option.map_eq_some_iff] at hi
    obtain ⟨_, _, rfl⟩ := hi
    trivial
  · refine ⟨fun b' => if b' = b then some (F.ngiven, []) else none, ⟨hk.size, hk.os, hk.tape, hk.output, hk.keep, fun b' p h => ?_, .own hl (by simp) (by simp) (.inr ⟨b, o, rfl, if_pos rfl, by rw [Nat.mul_one]; exact hhas⟩) (hcs _), by simp [hn], fun i o' hi => ?_⟩⟩
    · by_cases e : b' = b
      · subst e; exact ⟨has_lt hhas, hown⟩
      · rw [if_neg e] at h; cases h
    · simp only [List.getElem?_map, Option.map_eq_some_iff] at hi
      obtain ⟨_, _, rfl⟩ := hi
      trivial

/-- the array written over in place -/
theorem den_write {P : Program} {fid : Nat → Option FuncId} {G : Gl} {g : Nat} {l l' : List Int} (hll : l'.length = l.length)
    (h : ∀ id, fid g = some id → ∀ F : Fr, F.fid = fid → Inv F F.β0 F.own0 (hp [.arr 1 0 l.length (T.ints l)]) F.w0 → ∀ a cap, l.length ≤ cap → (cap = 0 ∨ ∃ b o, a = some ⟨b, o, none⟩ ∧ F.own0 b = some (0, []) ∧ Has F.w0 b o (iv l) cap) →
      Calls P id #[.slice a l.length cap] F.w0 fun e w' => e = .returned (.tuple #[]) ∧ (cap = 0 ∨ ∃ b o, a = some ⟨b, o, none⟩ ∧ Has w' b o (iv l') cap) ∧ Kept F w') :
    Den P fid G g [.arr 0] [.arr 1 0 l.length (T.ints l)] (.tup []) [.arr 1 0 l.length (T.ints l')] := by
  intro id hid F hF hG hb ht hn inv xs hx
  obtain ⟨x, r, rfl, h1, h2⟩ := hx.uncons
  obtain rfl := h2.unnil
  obtain ⟨a, cap, rfl, hl, ha, hc, hm⟩ := own_ints inv rfl h1
  refine (h id hid F hF inv a cap hl.1 hm).mono fun e w' ⟨he, hm', hk⟩ => ?_
  subst he
  refine ⟨F.own0, ⟨hk.size, hk.os, hk.tape, hk.output, hk.keep, fun b p h => ⟨Nat.lt_of_lt_of_le (inv.ownb b p h).1 hk.size, fun _ => by rw [h]; simp⟩, .tup (vs := []) rfl (fun i v x h _ => by simp at h), by rw [hn]; rfl, fun i o hi => ?_⟩⟩
  match i, hi with
  | 0, hi =>
    simp only [List.getElem?_cons_zero, Option.some.injEq] at hi
    subst hi
    refine ⟨rfl, iv l', by simp, by simp [hll], by rw [← hc]; exact hl, ?_, ?_⟩
    · rcases hm with hm | ⟨b, o, e1, e2, e3⟩
      · exact .inl (by rw [← hc, hm])
      · rcases hm' with hm' | ⟨b', o', e1', e2'⟩
        · exact .inl (by rw [← hc, hm'])
        · rw [e1] at e1'
          cases e1'
          exact .inr ⟨b, o, by rw [← ha, e1], e2, by rw [← hc, Nat.mul_one]; exact e2'⟩
    · intro i v x h1 h2
      by_cases hi : i < l'.length
      · rw [T.ints_at hi] at h1
        simp only [iv, List.getElem?_map, hi, List.getElem?_eq_getElem, Option.map_some, Option.some.injEq] at h1 h2
        subst h1 h2
        exact .sc rfl
      · rw [List.getElem?_eq_none (by simp; omega)] at h1; cases h1
  | i + 1, hi => simp at hi
end Go.Eng

namespace Go.Eng.T
open Go.Lib Go.RowKit

/-- a row of numbers that is read -/
theorem rd_ints {fid : Nat → Option FuncId} {w : Go.World} {P : Nat → Prop} {l : List Int} {x : Value} (h : Rd fid w P (.sl 1 1 l.length (ints l)) x) :
    ∃ a cap, x = .slice a l.length cap ∧ l.length ≤ cap ∧ (l = [] ∨ ∃ b o, a = some ⟨b, o, none⟩ ∧ P b ∧ ∀ j, j < l.length → w.cell? ⟨b, o + j, none⟩ = some (.int .i64 (l.getD j 0))) := by
  cases h with
  | @sl _ _ _ _ a cap vs hle hwd hvl hm hcs =>
    refine ⟨a, cap, rfl, hle, ?_⟩
    rcases hm with hm | ⟨b, o, rfl, hbk, hr⟩
    · left
      cases l with
      | nil => rfl
      | cons x r => simp [ints] at hm
    · right
      have hvlen : vs.length = l.length := by rw [hvl]; simp
      refine ⟨b, o, rfl, hbk, fun j hj => ?_⟩
      rw [hr.2 j (by omega)]
      have hv : vs[j]? = some vs[j] := by simp
      rw [hv]
      have hrd := hcs j (.sc (.int .i64 l[j])) vs[j] (by simp [ints, hj]) hv
      generalize vs[j] = y at hrd ⊢
      cases hrd with
      | sc _ => simp [hj]

theorem max_den {P : Program} {fid : Nat → Option FuncId} {G : Gl} {g k : Nat} (hid : fid g = some k)
    (hc : ∀ (b off n c : Nat) (zs : List Int) (w : Go.World), 0 < n → n ≤ zs.length → n ≤ 9223372036854775807 → (∀ j, j < zs.length → w.cell? ⟨b, off + j, none⟩ = some (.int .i64 (zs.getD j 0))) →
      Calls P k #[.slice (some ⟨b, off, none⟩) n c] w fun e w' => e = .returned (.int .i64 (Lib.maxOf (zs.take n))) ∧ w' = w) : MaxS (Den P fid G g) := by
  intro xs h1 h2
  refine den_read (v := .int .i64 (maxL xs)) rfl (fun a ha => ?_) ?_
  · simp only [List.mem_singleton] at ha; subst ha; trivial
  intro id hi w hw ys hx
  rw [hid] at hi
  cases hi
  cases hx with
  | sl h3 h4 =>
    cases h4
    obtain ⟨a, cap, rfl, hle, hm⟩ := rd_ints h3
    rcases hm with rfl | ⟨b, o, rfl, hb, hcell⟩
    · simp at h1
    · refine (hc b o xs.length cap xs w h1 (Nat.le_refl _) (by omega) hcell).mono fun e w' ⟨he, hw'⟩ => ⟨?_, by rw [hw']; exact Below.refl _ _⟩
      rw [he, List.take_length]; rfl

theorem owns_slice {w : Go.World} {base : Nat} {t : TypeId} {v : Value} {l : List Int} (h : w.ownsRow base t 1 v l.length (iv l)) :
    ∃ a cap, v = .slice a l.length cap ∧ (l.length ≤ cap ∧ cap ≤ 9223372036854775807) ∧ (cap = 0 ∨ ∃ b o, a = some ⟨b, o, none⟩ ∧ Has w b o (iv l) cap ∧ base ≤ b) := by
  obtain ⟨_, h | ⟨g, cap, cur, rfl, h1, h2, h3, h4, h5, h6⟩⟩ := h
  · obtain ⟨rfl, h⟩ := h
    exact ⟨none, 0, by rw [h], ⟨by omega, by omega⟩, .inl rfl⟩
  · refine ⟨_, cap, rfl, ⟨h3, by unfold maxLen at h4; omega⟩, .inr ⟨g, 0, rfl, ⟨iv_ones l, cur, t, h2, by omega, by simpa using h3, fun i hi => ?_⟩, h1⟩⟩
    rw [Nat.zero_add, ← h6, Nat.mul_one]
    simp only [iv_len] at hi
    rw [List.getElem?_take, if_pos hi, Array.getElem?_toList]
theorem kept_below {F : Fr} {w' : Go.World} (h : Below F.w0.heap.size F.w0 w') : Kept F w' := ⟨h.size, h.os, h.tape, h.output, fun b hb _ => h.block b hb⟩

theorem clone_den {P : Program} {fid : Nat → Option FuncId} {G : Gl} {g k : Nat} {t : TypeId} (hid : fid g = some k)
    (hn : ∀ (n c : Nat) (w : Go.World), Calls P k #[.slice none n c] w fun e w' => e = .returned (.slice none 0 0) ∧ w' = w)
    (hz : ∀ (a : Addr) (c : Nat) (w : Go.World), Calls P k #[.slice (some a) 0 c] w fun e w' => ∃ v', e = .returned v' ∧ w'.ownsRow w.heap.size t 1 v' 0 [] ∧ v' ≠ .slice none 0 0 ∧ Below w.heap.size w w')
    (hc : ∀ (b off n c : Nat) (zs : List Int) (w : Go.World), n ≤ zs.length → n * 8 ≤ 140737488355328 → (∀ j, j < zs.length → w.cell? ⟨b, off + j, none⟩ = some (.int .i64 (zs.getD j 0))) →
      Calls P k #[.slice (some ⟨b, off, none⟩) n c] w fun e w' => ∃ v', e = .returned v' ∧ w'.ownsRow w.heap.size t 1 v' n ((zs.take n).map (Value.int .i64)) ∧ v' ≠ .slice none 0 0 ∧ Below w.heap.size w w') : CloneS (Den P fid G g) := by
  intro l hl
  refine den_slice (given := []) (l' := l) fun id hi F hF inv xs hx => ?_
  rw [hid] at hi
  cases hi
  have hr := rdArgs_of (F := F) rfl (fun a ha => by simp only [List.mem_singleton] at ha; subst ha; trivial) hx
  cases hr with
  | sl h3 h4 =>
    cases h4
    obtain ⟨a, cap, rfl, hle, hm⟩ := rd_ints h3
    have fin : ∀ {v' : Value} {w' : Go.World}, w'.ownsRow F.w0.heap.size t 1 v' l.length (iv l) → Below F.w0.heap.size F.w0 w' →
        ∃ a cap, Ending.returned v' = .returned (.slice a l.length cap) ∧ (l.length ≤ cap ∧ cap ≤ 9223372036854775807) ∧ (cap = 0 ∨ ∃ b o, a = some ⟨b, o, none⟩ ∧ Has w' b o (iv l) cap ∧ (b < F.w0.heap.size → F.own0 b ≠ none)) ∧ Kept F w' := by
      intro v' w' ho hb
      obtain ⟨a, cap, rfl, h5, h6⟩ := owns_slice ho
      refine ⟨a, cap, rfl, h5, ?_, kept_below hb⟩
      rcases h6 with h6 | ⟨b, o, h7, h8, h9⟩
      · exact .inl h6
      · exact .inr ⟨b, o, h7, h8, fun h => absurd h (by omega)⟩
    rcases hm with rfl | ⟨b, o, rfl, hb, hcell⟩
    · cases a with
      | none => exact (hn _ _ _).mono fun e w' ⟨he, hw⟩ => ⟨none, 0, he, ⟨by simp, by omega⟩, .inl rfl, by rw [hw]; exact Kept.refl F⟩
      | some a => exact (hz a cap F.w0).mono fun e w' ⟨v', he, hown, _, hbel⟩ => by subst he; exact fin hown hbel
    · exact (hc b o l.length cap l F.w0 (Nat.le_refl _) (by omega) hcell).mono fun e w' ⟨v', he, hown, _, hbel⟩ => by
        subst he
        rw [List.take_length] at hown
        exact fin hown hbel
end Go.Eng.T

namespace Go.Proofs
open Go.Shelf
def Tryz.lays113_ren : Go.Shelf.Ren := ⟨fun | 113 => 211 | n => n, fun | 28 => 22 | 3 => 3 | 4 => 4 | 9 => 9 | 20 => 20 | 0 => 0 | n => n, fun | n => n⟩
theorem Tryz.lays113 : Go.Proofs.Lays.n113 Tryz.prog Tryz.lays113_ren := {
  mixed := by kernel_rfl
  f113 := Tryz.func211.trans (congrArg some (by kernel_rfl))
  t0 := Tryz.underlying0
  a0 := Tryz.isAgg0
  z0 := Tryz.sizeOf0
  v0 := Tryz.zeroValue0
  t3 := Tryz.underlying3
  a3 := Tryz.isAgg3
  z3 := Tryz.sizeOf3
  v3 := Tryz.zeroValue3
  t4 := Tryz.underlying4
  a4 := Tryz.isAgg4
  z4 := Tryz.sizeOf4
  v4 := Tryz.zeroValue4
  t9 := Tryz.underlying9
  a9 := Tryz.isAgg9
  z9 := Tryz.sizeOf9
  v9 := Tryz.zeroValue9
  t20 := Tryz.underlying20
  a20 := Tryz.isAgg20
  z20 := Tryz.sizeOf20
  v20 := Tryz.zeroValue20
  t28 := Tryz.underlying22
  a28 := Tryz.isAgg22
  z28 := Tryz.sizeOf22
  v28 := Tryz.zeroValue22 }
open Go.Lib in
theorem Tryz.slices_Max_int (b off n c : Nat) (zs : List Int) (w : World) (hn : 0 < n) (hz : n ≤ zs.length) (hbig : n ≤ 9223372036854775807) (hc : ∀ j, j < zs.length → w.cell? ⟨b, off + j, none⟩ = some (.int .i64 (zs.getD j 0))) :
    Calls Tryz.prog 211 #[.slice (some ⟨b, off, none⟩) n c] w fun e w' => e = .returned (.int .i64 (Lib.maxOf (zs.take n))) ∧ w' = w := Any.slices_Max_int Tryz.lays113 b off n c zs w hn hz hbig hc
def Tryz.laysNm215_ren : Go.Shelf.Ren := ⟨fun | 15 => 204 | n => n, fun | 22 => 22 | 3 => 3 | 4 => 4 | n => n, fun | n => n⟩
theorem Tryz.laysNm215 : Go.Proofs.Lays2.n15 Tryz.prog Tryz.laysNm215_ren := {
  mixed := by kernel_rfl
  f15 := Tryz.func204.trans (congrArg some (by kernel_rfl))
  t3 := Tryz.underlying3
  a3 := Tryz.isAgg3
  z3 := Tryz.sizeOf3
  v3 := Tryz.zeroValue3
  t4 := Tryz.underlying4
  a4 := Tryz.isAgg4
  z4 := Tryz.sizeOf4
  v4 := Tryz.zeroValue4
  t22 := Tryz.underlying22
  a22 := Tryz.isAgg22
  z22 := Tryz.sizeOf22
  v22 := Tryz.zeroValue22
  i3 := by kernel_rfl }
open Go.RowKit Go.Lib in
theorem Tryz.slices_Clone_int (b off n c : Nat) (zs : List Int) (w : World) (hz : n ≤ zs.length) (hbig : n * 8 ≤ 140737488355328) (hc : ∀ j, j < zs.length → w.cell? ⟨b, off + j, none⟩ = some (.int .i64 (zs.getD j 0))) :
    Calls Tryz.prog 204 #[.slice (some ⟨b, off, none⟩) n c] w fun e w' => ∃ v', e = .returned v' ∧ w'.ownsRow w.heap.size 3 1 v' n ((zs.take n).map (Value.int .i64)) ∧ v' ≠ .slice none 0 0 ∧ Below w.heap.size w w' := Any.slices_Clone_int Tryz.laysNm215 b off n c zs w hz hbig hc
open Go.RowKit Go.Lib in
theorem Tryz.slices_Clone_int_nil (n c : Nat) (w : World) :
    Calls Tryz.prog 204 #[.slice none n c] w fun e w' => e = .returned (.slice none 0 0) ∧ w' = w := Any.slices_Clone_int_nil Tryz.laysNm215 n c w
open Go.RowKit Go.Lib in
theorem Tryz.slices_Clone_int_zero (a : Addr) (c : Nat) (w : World) :
    Calls Tryz.prog 204 #[.slice (some a) 0 c] w fun e w' => ∃ v', e = .returned v' ∧ w'.ownsRow w.heap.size 3 1 v' 0 [] ∧ v' ≠ .slice none 0 0 ∧ Below w.heap.size w w' := Any.slices_Clone_int_zero Tryz.laysNm215 a c w
end Go.Proofs

