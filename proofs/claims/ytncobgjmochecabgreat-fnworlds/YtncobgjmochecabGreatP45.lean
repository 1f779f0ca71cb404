/- Own work: part 45 of the proof of FnWorlds. -/
import Derived.Test.YtncobgjmochecabGreatP44
set_option linter.unusedSimpArgs false
set_option linter.unusedVariables false
namespace Go.Eng.T

structure Ext where
  tag : Int
  body : List Int
  deriving DecidableEq
structure Hello where
  versions : List Int
  exts : List Ext
  deriving DecidableEq
structure Answer where
  version : Int
  exts : List Ext
  deriving DecidableEq
def eExt (x : Ext) : List V := [.sc (.int .i64 x.tag), .sl 0 1 x.body.length (ints x.body)]
def eHello (h : Hello) : List V := [.sl 0 1 h.versions.length (ints h.versions), .sl 0 2 h.exts.length (h.exts.flatMap eExt)]
def eAnswer (a : Answer) : List V := [.sc (.int .i64 a.version), .sl 0 2 a.exts.length (a.exts.flatMap eExt)]
theorem eExt_len (x : Ext) : (eExt x).length = 2 := rfl
@[simp] theorem eExt_ro (xs : List Ext) : (xs.flatMap eExt).map (roCell 0) = xs.flatMap eExt := flat_ro (fun _ => rfl) xs
@[simp high] theorem eExt_at {xs : List Ext} {j : Nat} (h : j < xs.length) : getAt (xs.flatMap eExt) (j * 2) 2 = some (eExt xs[j]) := getAt_flat eExt_len h
@[simp high] theorem eExt_flen (xs : List Ext) : (xs.flatMap eExt).length = xs.length * 2 := flat_len eExt_len xs
theorem eExt_push (xs : List Ext) (a : Int) (b : List Int) {nb : Nat} (hb : nb = b.length) : xs.flatMap eExt ++ [.sc (.int .i64 a), .sl 0 1 nb (ints b)] = (xs ++ [(⟨a, b⟩ : Ext)]).flatMap eExt := by subst hb; simp [eExt]
@[simp high] theorem eExt_c0 {xs : List Ext} {j : Nat} (h : j < xs.length) : (xs.flatMap eExt)[j * 2]? = some (.sc (.int .i64 xs[j].tag)) := by
  have := getCell_flat (o := 0) eExt_len h (by omega)
  simpa [eExt] using this
@[simp high] theorem eExt_c1 {xs : List Ext} {j : Nat} (h : j < xs.length) : (xs.flatMap eExt)[j * 2 + 1]? = some (.sl 0 1 xs[j].body.length (ints xs[j].body)) := by
  have := getCell_flat (o := 1) eExt_len h (by omega)
  simpa [eExt] using this
theorem flat_take {α : Type} {f : α → List V} {e : Nat} (hf : ∀ x, (f x).length = e) (xs : List α) (i : Nat) : (xs.flatMap f).take (i * e) = (xs.take i).flatMap f := by
  induction xs generalizing i with
  | nil => simp
  | cons x xs ih =>
    cases i with
    | zero => simp
    | succ i =>
      simp only [List.flatMap_cons, List.take_succ_cons]
      rw [← ih i, show (i + 1) * e = (f x).length + i * e by rw [hf, Nat.add_mul]; omega, List.take_length_add_append]
theorem part_flat {α : Type} {f : α → List V} {e : Nat} (hf : ∀ x, (f x).length = e) (xs : List α) (o n : Nat) : part (xs.flatMap f) e o n = ((xs.drop o).take n).flatMap f := by
  unfold part
  rw [flat_drop hf, flat_take hf]
@[simp high] theorem eExt_part (xs : List Ext) (o n : Nat) : part (xs.flatMap eExt) 2 o n = ((xs.drop o).take n).flatMap eExt := part_flat eExt_len xs o n
attribute [simp] eExt eHello eAnswer

/-- lists that are small enough to be copied -/
def exB (l : List Ext) : Prop := l.length ≤ 4194304 ∧ ∀ x, x ∈ l → x.body.length ≤ 4194304
theorem exB_at {l : List Ext} (h : exB l) {j : Nat} (hj : j < l.length) : l[j].body.length ≤ 4194304 := h.2 _ (List.getElem_mem hj)
theorem exB_nil : exB [] := ⟨by simp, by simp⟩
theorem exB_filter {l : List Ext} (h : exB l) (p : Ext → Bool) : exB (l.filter p) :=
  ⟨Nat.le_trans (List.length_filter_le p l) h.1, fun x hx => h.2 x (List.mem_filter.1 hx).1⟩
theorem exB_take {l : List Ext} (h : exB l) (n : Nat) : exB (l.take n) :=
  ⟨by have := h.1; simp; omega, fun x hx => h.2 x (List.mem_of_mem_take hx)⟩
theorem exB_one {l : List Ext} (h : exB l) {j : Nat} (hj : j < l.length) : exB [l[j]] :=
  ⟨by simp, fun x hx => by obtain rfl := List.mem_singleton.1 hx; exact exB_at h hj⟩

/-- for all i less than j -/
def allTo (q : Nat → Bool) (j : Nat) : Bool := (List.range j).all q
@[simp] theorem allTo_zero (q : Nat → Bool) : allTo q 0 = true := rfl
theorem allTo_step (q : Nat → Bool) (j : Nat) : allTo q (j + 1) = (allTo q j && q j) := by
  unfold allTo
  rw [List.range_succ, List.all_append]
  simp
theorem allTo_no {q : Nat → Bool} {j n : Nat} (h : j < n) (hn : q j = false) : allTo q n = false := by
  have : ∀ m, allTo q (j + 1 + m) = false := by
    intro m
    induction m with
    | zero => rw [Nat.add_zero, allTo_step, hn]; simp
    | succ m ih => rw [show j + 1 + (m + 1) = (j + 1 + m) + 1 by omega, allTo_step, ih]; rfl
  have := this (n - (j + 1))
  rwa [show j + 1 + (n - (j + 1)) = n by omega] at this
theorem allTo_iff {q : Nat → Bool} {n : Nat} : allTo q n = true ↔ ∀ i, i < n → q i = true := by
  unfold allTo
  rw [List.all_eq_true]
  simp
theorem filtE_step {α : Type} {p : α → Bool} {xs : List α} {j : Nat} (h : j < xs.length) : (xs.take (j + 1)).filter p = (xs.take j).filter p ++ (if p xs[j] then [xs[j]] else []) := by
  have e : xs.take (j + 1) = xs.take j ++ [xs[j]] := by simp
  rw [e, List.filter_append]
  by_cases hp : p xs[j] = true <;> simp [hp]
theorem filtE_all {α : Type} {p : α → Bool} {xs : List α} {j : Nat} (h : xs.length ≤ j) : (xs.take j).filter p = xs.filter p := by rw [List.take_of_length_le h]
theorem filtE_len {α : Type} {p : α → Bool} {xs : List α} {j : Nat} : ((xs.take j).filter p).length ≤ j := by
  have := List.length_filter_le p (xs.take j)
  have h2 : (xs.take j).length ≤ j := by simp; omega
  omega
end Go.Eng.T

namespace Go.Eng.T
end Go.Eng.T

namespace Go.Eng.T
set_option maxRecDepth 20000
abbrev IndexFuncExtS (D : Dn) (R : Rel) : Prop := ∀ (xs : List Ext) (g : Nat) (caps : List V) (p : Ext → Bool), xs.length ≤ maxLen → CapOk caps → (∀ (j : Nat) (h : j < xs.length), D g (arg (eExt xs[j]) :: caps) [] (B (p xs[j])) []) → R [.sl 1 2 xs.length (xs.flatMap eExt), .fn g caps] [] (I (idxP p xs 0)) []
abbrev ContainsFuncExtS (D : Dn) (R : Rel) : Prop := ∀ (xs : List Ext) (g : Nat) (caps : List V) (p : Ext → Bool), xs.length ≤ maxLen → CapOk caps → (∀ (j : Nat) (h : j < xs.length), D g (arg (eExt xs[j]) :: caps) [] (B (p xs[j])) []) → R [.sl 1 2 xs.length (xs.flatMap eExt), .fn g caps] [] (B (xs.any p)) []
end Go.Eng.T

namespace Go.Eng.T
set_option maxRecDepth 20000

def hasTag (t : Int) (x : Ext) : Bool := decide (x.tag = t)
def extOf (l : List Ext) (t : Int) : Int := idxP (hasTag t) l 0
abbrev ExtOfS (R : Rel) : Prop := ∀ (l : List Ext) (t : Int), l.length ≤ maxLen → R [.sl 1 2 l.length (l.flatMap eExt), I t] [] (I (extOf l t)) []
theorem sExtOf_b (D : Dn) : ExtOfS (Body D sspec_ExtOf) := by
  intro l t hl
  unfold maxLen at hl
  have hres : extOf l t = idxP (hasTag t) l 0 := rfl
  rw [hres]
  simp -implicitDefEqProofs
  refine swp_loop (fun k s => ∃ j, j + k = l.length ∧ idxP (hasTag t) l 0 = idxP (hasTag t) (l.drop j) j ∧ s = ⟨[.sl 1 2 l.length (l.flatMap eExt), I t, .undef, I j, .undef, .undef], []⟩) ?_ (l.length) _ ⟨0, by simp, by simp, by simp⟩
  intro k s ⟨j, hj, hi, hs⟩
  subst hs
  by_cases hjn : j < l.length
  · have hw : IntKind.i64.wrap ((j : Int) + 1) = (j + 1 : Nat) := by rw [wrap_id (by omega) (by omega)]; simp
    rw [idxP_drop hjn] at hi
    by_cases he : l[j].tag = t
    · rw [if_pos (by simp [hasTag, he])] at hi
      simp -implicitDefEqProofs [hjn, he, hi]
    · rw [if_neg (by simp [hasTag, he])] at hi
      simp -implicitDefEqProofs [hjn, he]
      exact ⟨k - 1, by omega, j + 1, by omega, by simpa using hi, by simp [hw]⟩
  · rw [idxP_end (by omega)] at hi
    simp -implicitDefEqProofs [hjn, hi]
abbrev ExtOf1S (R : Rel) : Prop := ∀ (x : Ext) (t : Int), R [arg (eExt x), .rptr 1 [I t] 0] [] (B (hasTag t x)) []
def okExt (x : Ext) : Bool := decide (InR x.tag 0 255) && (decide (x.body.length ≤ 4) && allIn x.body 0 255)
def newTag (l : List Ext) (i : Nat) : Bool := match l[i]? with
  | some x => okExt x && !(l.take i).any (hasTag x.tag)
  | none => true
theorem newTag_at {l : List Ext} {i : Nat} (h : i < l.length) : newTag l i = (okExt l[i] && !(l.take i).any (hasTag l[i].tag)) := by
  unfold newTag
  rw [List.getElem?_eq_getElem h]
def areExts (l : List Ext) : Bool := allTo (newTag l) l.length && decide (l.length ≤ 6)
theorem idxP_range {α : Type} {p : α → Bool} : ∀ {xs : List α} {i : Int}, idxP p xs i = -1 ∨ (i ≤ idxP p xs i ∧ idxP p xs i < i + xs.length)
  | [], i => .inl rfl
  | x :: r, i => by
    by_cases hp : p x = true
    · right; simp [idxP, hp]; omega
    · rcases idxP_range (p := p) (xs := r) (i := i + 1) with h | h
      · left; simp [idxP, hp, h]
      · right; simp [idxP, hp] at *; omega
/-- the first place lies before j -/
theorem idxP_lt {α : Type} {p : α → Bool} : ∀ {xs : List α} {i : Int} {j : Nat}, 0 ≤ i → (h : j < xs.length) → p xs[j] = true → (idxP p xs i < i + j ↔ (xs.take j).any p = true)
  | x :: r, i, 0, hi, h, hp => by
    have : p x = true := hp
    simp [idxP, this]
  | x :: r, i, j + 1, hi, h, hp => by
    by_cases hx : p x = true
    · simp [idxP, hx]; omega
    · have := idxP_lt (p := p) (xs := r) (i := i + 1) (j := j) (by omega) (by simpa using h) (by simpa using hp)
      simp only [idxP, hx, List.take_succ_cons, List.any_cons, Bool.false_or]
      rw [← this]
      simp
      omega
theorem extOf_lt {l : List Ext} {j : Nat} (h : j < l.length) : (extOf l l[j].tag < (j : Int)) = ((l.take j).any (hasTag l[j].tag) = true) := by
  have := idxP_lt (p := hasTag l[j].tag) (i := 0) (by omega) h (by simp [hasTag])
  rw [Int.zero_add] at this
  exact propext this
theorem extOf_take {l : List Ext} {j : Nat} {t : Int} : (0 ≤ extOf (l.take j) t) = ((l.take j).any (hasTag t) = true) := idxP_ge (by omega)
theorem areExts_no {l : List Ext} {j : Nat} (h : j < l.length) (hn : newTag l j = false) : areExts l = false := by
  unfold areExts
  rw [allTo_no h hn]; rfl
abbrev AreExtsS (R : Rel) : Prop := ∀ l : List Ext, exB l → R [.sl 1 2 l.length (l.flatMap eExt)] [] (B (areExts l)) []
theorem sAreExts_b (D : Dn) (hI : InS (D gspec_l1In)) (hB : l9ByteS (D gspec_l9Byte)) (hX : ExtOfS (D gspec_ExtOf)) : AreExtsS (Body D sspec_AreExts) := by
  intro l hl
  have hll := hl.1
  simp -implicitDefEqProofs
  refine swp_loop (fun k s => ∃ j, j + k = l.length ∧ allTo (newTag l) j = true ∧ s = ⟨[.sl 1 2 l.length (l.flatMap eExt), .undef, I j, .undef, .undef], []⟩) ?_ (l.length) _ ⟨0, by simp, by simp, by simp⟩
  intro k s ⟨j, hj, hr, hs⟩
  subst hs
  by_cases hjn : j < l.length
  · have hw : IntKind.i64.wrap ((j : Int) + 1) = (j + 1 : Nat) := by rw [wrap_id (by omega) (by omega)]; simp
    have hst := allTo_step (newTag l) j
    have hq := newTag_at hjn
    have hb := exB_at hl hjn
    rw [hr, Bool.true_and] at hst
    simp -implicitDefEqProofs [hjn]
    refine callQ_of (hI _ _ _) ?_
    by_cases h1 : InR l[j].tag 0 255
    rotate_left
    · have e := areExts_no hjn (by rw [hq]; simp [okExt, h1])
      simp -implicitDefEqProofs [h1, e]
    by_cases h2 : l[j].body.length ≤ 4
    rotate_left
    · have e := areExts_no hjn (by rw [hq]; simp [okExt, h2])
      have h2' : (4 : Int) < l[j].body.length := by omega
      simp -implicitDefEqProofs [hjn, h1, h2', e]
    have h2' : ¬ (4 : Int) < l[j].body.length := by omega
    simp -implicitDefEqProofs [hjn, h1, h2']
    refine callQ_of (hB _ (by unfold maxLen; omega)) ?_
    by_cases h3 : allIn l[j].body 0 255 = true
    rotate_left
    · have e := areExts_no hjn (by rw [hq]; simp [okExt, h3])
      simp -implicitDefEqProofs [hjn, h3, e]
    simp -implicitDefEqProofs [hjn, h3]
    refine callQ_of (hX l _ (by unfold maxLen; omega)) ?_
    by_cases h4 : (l.take j).any (hasTag l[j].tag) = true
    · have e := areExts_no hjn (by rw [hq]; simp only [h4]; simp)
      have h4' : extOf l l[j].tag < (j : Int) := by rw [extOf_lt hjn]; exact h4
      simp -implicitDefEqProofs [hjn, h4', e]
    · have h4' : ¬ extOf l l[j].tag < (j : Int) := by rw [extOf_lt hjn]; exact h4
      have h4f : (l.take j).any (hasTag l[j].tag) = false := by simpa using h4
      simp -implicitDefEqProofs [hjn, h4']
      exact ⟨k - 1, by omega, j + 1, by omega, by rw [hst, hq, h4f]; simp [okExt, h1, h2, h3], by simp [hw]⟩
  · obtain rfl : j = l.length := by omega
    have e : areExts l = decide (l.length ≤ 6) := by unfold areExts; rw [hr]; rfl
    by_cases h5 : l.length ≤ 6
    · have h5' : (l.length : Int) ≤ 6 := by omega
      simp -implicitDefEqProofs [e, h5, h5']
    · have h5' : ¬ (l.length : Int) ≤ 6 := by omega
      simp -implicitDefEqProofs [e, h5, h5']
def tagsOf (l : List Ext) : List Int := l.map (·.tag)
theorem tags_step {l : List Ext} {j : Nat} (h : j < l.length) : tagsOf (l.take (j + 1)) = tagsOf (l.take j) ++ [l[j].tag] := by
  have e : l.take (j + 1) = l.take j ++ [l[j]] := by simp
  unfold tagsOf
  rw [e, List.map_append]; rfl
abbrev TagsOfS (R : Rel) : Prop := ∀ l : List Ext, l.length ≤ 4194304 → R [.sl 1 2 l.length (l.flatMap eExt)] [] (.sl 0 1 (tagsOf l).length (ints (tagsOf l))) []
theorem sTagsOf_b (D : Dn) : TagsOfS (Body D sspec_TagsOf) := by
  intro l hl
  simp -implicitDefEqProofs
  refine swp_loop (fun k s => ∃ j o1 o2, j + k = l.length ∧ s = ⟨[.sl 1 2 l.length (l.flatMap eExt), .undef, .arr 3, I j, .undef], [.free, o1, o2, .arr 1 0 (tagsOf (l.take j)).length (ints (tagsOf (l.take j)))]⟩) ?_ (l.length) _ ⟨0, .free, .free, by simp, by simp [tagsOf]⟩
  intro k s ⟨j, o1, o2, hj, hs⟩
  subst hs
  by_cases hjn : j < l.length
  · have hw : IntKind.i64.wrap ((j : Int) + 1) = (j + 1 : Nat) := by rw [wrap_id (by omega) (by omega)]; simp
    have hst := tags_step hjn
    have hlen : (tagsOf (l.take j)).length = j := by simp [tagsOf]; omega
    have hb : (j + 1) * 8 ≤ 1099511627776 := by omega
    simp -implicitDefEqProofs [hjn, hlen, hb]
    exact ⟨k - 1, by omega, j + 1, by omega, by simp [hw], by rw [hst]; simp [hlen], by rw [hst]⟩
  · have e : l.take j = l := List.take_of_length_le (by omega)
    simp -implicitDefEqProofs [hjn, e]
end Go.Eng.T

namespace Go.Eng.T
set_option maxRecDepth 20000
def kept (p : Int → Bool) (l : List Ext) : List Ext := l.filter fun x => p x.tag
theorem kept_step {p : Int → Bool} {l : List Ext} {j : Nat} (h : j < l.length) : kept p (l.take (j + 1)) = kept p (l.take j) ++ (if p l[j].tag then [l[j]] else []) := filtE_step (p := fun x : Ext => p x.tag) h
theorem kept_all {p : Int → Bool} {l : List Ext} {j : Nat} (h : l.length ≤ j) : kept p (l.take j) = kept p l := filtE_all h
theorem kept_len {p : Int → Bool} {l : List Ext} {j : Nat} : (kept p (l.take j)).length ≤ j := filtE_len
theorem exB_kept {l : List Ext} (h : exB l) (p : Int → Bool) : exB (kept p l) := exB_filter h _
theorem kept_push {p : Int → Bool} {l : List Ext} {j : Nat} (h : j < l.length) (hp : p l[j].tag = true) :
    (kept p (l.take j)).flatMap eExt ++ [.sc (.int .i64 l[j].tag), .sl 0 1 l[j].body.length (ints l[j].body)] = (kept p (l.take (j + 1))).flatMap eExt := by
  rw [kept_step h, if_pos hp, List.flatMap_append]; simp
theorem kept_push_len {p : Int → Bool} {l : List Ext} {j : Nat} (h : j < l.length) (hp : p l[j].tag = true) : (kept p (l.take (j + 1))).length = (kept p (l.take j)).length + 1 := by
  rw [kept_step h, if_pos hp]; simp
theorem kept_skip {p : Int → Bool} {l : List Ext} {j : Nat} (h : j < l.length) (hp : ¬ p l[j].tag = true) : kept p (l.take (j + 1)) = kept p (l.take j) := by
  rw [kept_step h, if_neg hp, List.append_nil]
/-- what is captured holds nothing of the frame -/
def NoObj (caps : List V) : Prop := ∀ k, caps.any (m1 k) = false
theorem noObj_nil : NoObj [] := fun _ => rfl
theorem noObj_rptr {fl : Nat} {cs : List V} {o : Nat} {r : List V} (h : NoObj r) : NoObj (.rptr fl cs o :: r) := fun k => by
  have := h k
  simp only [List.any_cons, this, m1, Bool.or_self]
theorem killV_cap {k g : Nat} {caps : List V} (h : NoObj caps) : killV k (.fn g caps) = .fn g caps := by
  have := h k
  simp only [killV, m3, m2, this]
  rfl
theorem renV_cap {a b g : Nat} {caps : List V} (h : NoObj caps) : renV a b (.fn g caps) = .fn g caps := by
  have := h a
  simp only [renV, m3, m2, this]
  rfl
abbrev keptExtsS (D : Dn) (R : Rel) : Prop := ∀ (l : List Ext) (g : Nat) (caps : List V) (p : Int → Bool), exB l → CapOk caps → NoObj caps → (∀ t : Int, D g (I t :: caps) [] (B (p t)) []) →
  R [.sl 1 2 l.length (l.flatMap eExt), .fn g caps] [] (.sl 0 2 (kept p l).length ((kept p l).flatMap eExt)) []
abbrev KeepAllS (R : Rel) : Prop := ∀ t : Int, R [I t] [] (B true) []
abbrev KeepUnresS (R : Rel) : Prop := ∀ t : Int, R [I t] [] (B (!isReserved t)) []
theorem kept_true (l : List Ext) : kept (fun _ => true) l = l := by simp [kept]
abbrev cpExtsS (R : Rel) : Prop := ∀ l : List Ext, exB l → R [.sl 1 2 l.length (l.flatMap eExt)] [] (.sl 0 2 l.length (l.flatMap eExt)) []
def stripG (l : List Ext) : List Ext := kept (fun t => !isReserved t) l
def knownOf (l : List Ext) (tags : List Int) : List Ext := kept (fun t => decide (t ∈ tags)) l
abbrev StripGreaseS (R : Rel) : Prop := ∀ l : List Ext, exB l → R [.sl 1 2 l.length (l.flatMap eExt)] [] (.sl 0 2 (stripG l).length ((stripG l).flatMap eExt)) []
abbrev KnownOfS (R : Rel) : Prop := ∀ (l : List Ext) (tags : List Int), exB l → tags.length ≤ maxLen → R [.sl 1 2 l.length (l.flatMap eExt), .sl 1 1 tags.length (ints tags)] [] (.sl 0 2 (knownOf l tags).length ((knownOf l tags).flatMap eExt)) []
abbrev KnownOf1S (R : Rel) : Prop := ∀ (t : Int) (tags : List Int), tags.length ≤ maxLen → R [I t, .rptr 1 [.sl 0 1 tags.length (ints tags)] 0] [] (B (decide (t ∈ tags))) []
theorem capOk_ints {a : List Int} {r : List V} (h : CapOk r) : CapOk (.rptr 1 [.sl 0 1 a.length (ints a)] 0 :: r) := capOk_cons (fun H => by simp) (fun H => by simp) h
theorem sKnownOf_b (D : Dn) (hH : HasS (D gspec_l9Has)) : KnownOfS (Body D sspec_KnownOf) := by
  intro l tags hl ht
  have hll := hl.1
  have hres : knownOf l tags = kept (fun t => decide (t ∈ tags)) l := rfl
  rw [hres]
  generalize hp : (fun t => decide (t ∈ tags)) = p
  simp -implicitDefEqProofs
  refine swp_loop (fun k s => ∃ j o1 o2 o3 o4, j + k = l.length ∧ s = ⟨[.sl 1 2 l.length (l.flatMap eExt), .sl 1 1 tags.length (ints tags), .undef, .arr 5, I j, .undef, .undef], [.free, o1, o2, o3, o4, .arr 2 0 (kept p (l.take j)).length ((kept p (l.take j)).flatMap eExt)]⟩) ?_ (l.length) _ ⟨0, .free, .free, .free, .free, by simp, by simp [kept]⟩
  intro k s ⟨j, o1, o2, o3, o4, hj, hs⟩
  subst hs
  by_cases hjn : j < l.length
  · have hw : IntKind.i64.wrap ((j : Int) + 1) = (j + 1 : Nat) := by rw [wrap_id (by omega) (by omega)]; simp
    have hb := exB_at hl hjn
    have h1 : l[j].body.length * 8 ≤ 1099511627776 := by omega
    have hkl := kept_len (p := p) (l := l) (j := j)
    have h2 : ((kept p (l.take j)).length + 1) * 32 ≤ 1099511627776 := by omega
    simp -implicitDefEqProofs [hjn]
    refine callQ_of (hH tags l[j].tag ht) ?_
    have hpe : decide (l[j].tag ∈ tags) = p l[j].tag := by rw [← hp]
    rw [hpe]
    by_cases he : p l[j].tag = true
    · have hst := kept_push hjn he
      have hsl := kept_push_len hjn he
      simp -implicitDefEqProofs [he, hjn, h1, h2]
      exact ⟨k - 1, by omega, j + 1, by omega, by simp [hw], by rw [hsl], by rw [← hst]⟩
    · have hst := kept_skip hjn he
      simp -implicitDefEqProofs [he]
      exact ⟨k - 1, by omega, j + 1, by omega, by simp [hw], by rw [hst], by rw [hst]⟩
  · have e := kept_all (p := p) (l := l) (j := j) (by omega)
    simp -implicitDefEqProofs [hjn, e]
theorem sStripGrease_b (D : Dn) (hR : IsReservedS (D gspec_IsReserved)) : StripGreaseS (Body D sspec_StripGrease) := by
  intro l hl
  have hll := hl.1
  have hres : stripG l = kept (fun t => !isReserved t) l := rfl
  rw [hres]
  generalize hp : (fun t => !isReserved t) = p
  simp -implicitDefEqProofs
  refine swp_loop (fun k s => ∃ j o1 o2 o3 o4, j + k = l.length ∧ s = ⟨[.sl 1 2 l.length (l.flatMap eExt), .undef, .arr 5, I j, .undef, .undef], [.free, o1, o2, o3, o4, .arr 2 0 (kept p (l.take j)).length ((kept p (l.take j)).flatMap eExt)]⟩) ?_ (l.length) _ ⟨0, .free, .free, .free, .free, by simp, by simp [kept]⟩
  intro k s ⟨j, o1, o2, o3, o4, hj, hs⟩
  subst hs
  by_cases hjn : j < l.length
  · have hw : IntKind.i64.wrap ((j : Int) + 1) = (j + 1 : Nat) := by rw [wrap_id (by omega) (by omega)]; simp
    have hb := exB_at hl hjn
    have h1 : l[j].body.length * 8 ≤ 1099511627776 := by omega
    have hkl := kept_len (p := p) (l := l) (j := j)
    have h2 : ((kept p (l.take j)).length + 1) * 32 ≤ 1099511627776 := by omega
    simp -implicitDefEqProofs [hjn]
    refine callQ_of (hR l[j].tag) ?_
    have hpe : (!isReserved l[j].tag) = p l[j].tag := by rw [← hp]
    by_cases he : p l[j].tag = true
    · have hst := kept_push hjn he
      have hsl := kept_push_len hjn he
      have he' : isReserved l[j].tag = false := by rw [he] at hpe; simpa using hpe
      simp -implicitDefEqProofs [he', hjn, h1, h2]
      exact ⟨k - 1, by omega, j + 1, by omega, by simp [hw], by rw [hsl], by rw [← hst]⟩
    · have hst := kept_skip hjn he
      have he' : isReserved l[j].tag = true := by simp at he; rw [he] at hpe; simpa using hpe
      simp -implicitDefEqProofs [he']
      exact ⟨k - 1, by omega, j + 1, by omega, by simp [hw], by rw [hst], by rw [hst]⟩
  · have e := kept_all (p := p) (l := l) (j := j) (by omega)
    simp -implicitDefEqProofs [hjn, e]
theorem known_self (l : List Ext) : knownOf l (tagsOf l) = l := by
  unfold knownOf kept
  rw [List.filter_eq_self]
  intro x hx
  simp only [decide_eq_true_eq]
  exact List.mem_map.2 ⟨x, hx, rfl⟩
theorem tags_len (l : List Ext) : (tagsOf l).length = l.length := by simp [tagsOf]
theorem l11Copy_b (D : Dn) (hT : TagsOfS (D gspec_TagsOf)) (hK : KnownOfS (D gspec_KnownOf)) : cpExtsS (Body D sspec_l11Copy) := by
  intro l hl
  have hll := hl.1
  simp -implicitDefEqProofs
  refine callQ_of (hT l hll) ?_
  simp -implicitDefEqProofs
  refine callQ_of (hK l (tagsOf l) hl (by rw [tags_len]; unfold maxLen; omega)) ?_
  simp -implicitDefEqProofs [known_self]
end Go.Eng.T

namespace Go.Eng.T
set_option maxRecDepth 20000
def hB (h : Hello) : Prop := h.versions.length ≤ 4194304 ∧ exB h.exts
def isHello (h : Hello) : Bool := areVers h.versions && areExts h.exts
abbrev IsHelloS (R : Rel) : Prop := ∀ h : Hello, hB h → R [arg (eHello h)] [] (B (isHello h)) []
theorem sIsHello_b (D : Dn) (hA : AreVersionsS (D gspec_AreVersions)) (hE : AreExtsS (D gspec_AreExts)) : IsHelloS (Body D sspec_IsHello) := by
  intro h hh
  simp -implicitDefEqProofs
  refine callQ_of (hA _ (by have := hh.1; unfold maxLen; omega)) ?_
  by_cases h1 : areVers h.versions = true
  rotate_left
  · simp -implicitDefEqProofs [h1, isHello]
  simp -implicitDefEqProofs [h1]
  refine callQ_of (hE _ hh.2) ?_
  simp -implicitDefEqProofs [h1, isHello]
abbrev cpHelloS (R : Rel) : Prop := ∀ h : Hello, hB h → R [arg (eHello h)] [] (.agg (eHello h)) []
theorem l18Hello_b (D : Dn) (hE : cpExtsS (D gspec_l11Copy)) : cpHelloS (Body D sspec_l18Hello) := by
  intro h hh
  have h1 : h.versions.length * 8 ≤ 1099511627776 := by have := hh.1; omega
  simp -implicitDefEqProofs [h1]
  refine callQ_of (hE _ hh.2) ?_
  simp -implicitDefEqProofs

def lossy (b : Box) (x : Ext) : Bool := decide (x.tag ∈ b.drops) || (b.lists && (!decide (x.tag ∈ b.strips) && !decide (InR x.tag 1 3)))
def topV (vs : List Int) : Int := vs.getLastD 0
def losesB (b : Box) (h : Hello) : Bool := (decide (0 < b.limit) && decide (b.limit < topV h.versions)) || h.exts.any (lossy b)
def stays (b : Box) (t : Int) : Bool := !decide (t ∈ b.strips)
def noHello : Hello := ⟨[], []⟩
def passBox (b : Box) (h : Hello) : Hello × Bool := if isBox b && (isHello h && !losesB b h) then (⟨h.versions, kept (stays b) h.exts⟩, true) else (noHello, false)
abbrev PassBoxS (R : Rel) : Prop := ∀ (b : Box) (h : Hello), lnBox b → hB h → R [arg (eBox b), arg (eHello h)] [] (.tup [.agg (eHello (passBox b h).1), B (passBox b h).2]) []
theorem vers_pos {xs : List Int} (h : areVers xs = true) : 0 < xs.length := by
  unfold areVers at h
  simp only [Bool.and_eq_true, decide_eq_true_eq] at h
  exact h.2
theorem topV_at {xs : List Int} (h : xs.length - 1 < xs.length) : topV xs = xs[xs.length - 1] := by
  unfold topV
  rw [List.getLastD_eq_getLast?, List.getLast?_eq_getElem?, List.getElem?_eq_getElem h]; rfl
theorem sPassBox_b (D : Dn) (hX : IsBoxS (D gspec_IsBox)) (hE : IsHelloS (D gspec_IsHello)) (hH : HasS (D gspec_l9Has)) (hI : InS (D gspec_l1In)) : PassBoxS (Body D sspec_PassBox) := by
  intro b h hb hh
  obtain ⟨hv, hx⟩ := hh
  have hll := hx.1
  simp -implicitDefEqProofs
  refine callQ_of (hX b hb) ?_
  by_cases h1 : isBox b = true
  rotate_left
  · simp -implicitDefEqProofs [h1, passBox, noHello]
  simp -implicitDefEqProofs [h1]
  refine callQ_of (hE h ⟨hv, hx⟩) ?_
  by_cases h2 : isHello h = true
  rotate_left
  · simp -implicitDefEqProofs [h2, passBox, noHello]
  have hpos : 0 < h.versions.length := vers_pos (by unfold isHello at h2; simp only [Bool.and_eq_true] at h2; exact h2.1)
  have hn1 : h.versions.length - 1 < h.versions.length := by omega
  have hw1 : IntKind.i64.wrap ((h.versions.length : Int) - 1) = ((h.versions.length - 1 : Nat) : Int) := by rw [wrap_id (by omega) (by omega)]; omega
  have htop := topV_at hn1
  by_cases h3 : 0 < b.limit
  · by_cases h4 : b.limit < h.versions[h.versions.length - 1]
    · have e : passBox b h = (noHello, false) := by simp [passBox, losesB, htop, h3, h4]
      simp -implicitDefEqProofs [h2, h3, hw1, hn1, hpos, h4, e, noHello]
    · have h3' : b.limit < topV h.versions ↔ False := by rw [htop]; simpa using h4
      have b0 : h.versions.length * 8 ≤ 1099511627776 := by omega
      simp -implicitDefEqProofs [h2, h3, hw1, hn1, hpos, h4, b0]
      refine swp_loop (fun k s => ∃ j v8 o6 o7 o8 o9, j + k = h.exts.length ∧ (h.exts.take j).any (lossy b) = false ∧ s = ⟨[.undef, .undef, .ptr 0 0, .ptr 1 0, .ptr 2 0, .undef, .ptr 5 0, I j, v8, .undef, .undef, .undef, .undef, .undef], [.var ((eBox b).map (roCell 1)), .var ((eHello h).map (roCell 1)), .var [.nil 1, .nil 2], .dead, .arr 1 0 h.versions.length (ints h.versions), .var [.arr 4, .arr 10], o6, o7, o8, o9, .arr 2 0 (kept (stays b) (h.exts.take j)).length ((kept (stays b) (h.exts.take j)).flatMap eExt)]⟩) ?_ (h.exts.length) _ ⟨0, .undef, .free, .free, .free, .free, by simp, by simp, by simp [kept]⟩
      intro k s ⟨j, v8, o6, o7, o8, o9, hj, hp, hs⟩
      subst hs
      by_cases hjn : j < h.exts.length
      · have hw : IntKind.i64.wrap ((j : Int) + 1) = (j + 1 : Nat) := by rw [wrap_id (by omega) (by omega)]; simp
        have hbd := exB_at hx hjn
        have b1 : h.exts[j].body.length * 8 ≤ 1099511627776 := by omega
        have hkl := kept_len (p := stays b) (l := h.exts) (j := j)
        have b2 : ((kept (stays b) (h.exts.take j)).length + 1) * 32 ≤ 1099511627776 := by omega
        have hst := any_step (p := lossy b) hjn
        rw [hp, Bool.false_or] at hst
        simp -implicitDefEqProofs [hjn]
        refine callQ_of (hH _ _ hb.2) ?_
        simp -implicitDefEqProofs
        refine callQ_of (hH _ _ hb.1) ?_
        by_cases g1 : h.exts[j].tag ∈ b.drops
        · have e : passBox b h = (noHello, false) := by
            have := any_here (p := lossy b) hjn (by simp [lossy, g1])
            simp [passBox, losesB, this]
          simp -implicitDefEqProofs [g1, e, noHello]
        by_cases g2 : h.exts[j].tag ∈ b.strips
        · have hl : lossy b h.exts[j] = false := by simp [lossy, g1, g2]
          have hk := kept_skip (p := stays b) hjn (by simp [stays, g2])
          by_cases g3 : b.lists = true
          · simp -implicitDefEqProofs [g1, g2, g3]
            exact ⟨k - 1, by omega, j + 1, by omega, by simpa using hst.trans hl, by simp [hw], by rw [hk], by rw [hk]⟩
          · simp -implicitDefEqProofs [g1, g2, g3]
            exact ⟨k - 1, by omega, j + 1, by omega, by simpa using hst.trans hl, by simp [hw], by rw [hk], by rw [hk]⟩
        have hk := kept_push (p := stays b) hjn (by simp [stays, g2])
        have hkl := kept_push_len (p := stays b) hjn (by simp [stays, g2])
        by_cases g3 : b.lists = true
        rotate_left
        · have hl : lossy b h.exts[j] = false := by simp [lossy, g1, g2, g3]
          simp -implicitDefEqProofs [g1, g2, g3, hjn, b1, b2]
          exact ⟨k - 1, by omega, j + 1, by omega, by simpa using hst.trans hl, by simp [hw], by rw [hkl], by rw [← hk]⟩
        simp -implicitDefEqProofs [g1, g2, g3]
        refine callQ_of (hI _ _ _) ?_
        by_cases g4 : InR h.exts[j].tag 1 3
        · have hl : lossy b h.exts[j] = false := by simp [lossy, g1, g2, g3, g4]
          simp -implicitDefEqProofs [g4, hjn, b1, b2]
          exact ⟨k - 1, by omega, j + 1, by omega, by simpa using hst.trans hl, by simp [hw], by rw [hkl], by rw [← hk]⟩
        · have e : passBox b h = (noHello, false) := by
            have := any_here (p := lossy b) hjn (by simp [lossy, g1, g2, g3, g4])
            simp [passBox, losesB, this]
          simp -implicitDefEqProofs [g4, e, noHello]
      · have hje : j = h.exts.length := by omega
        have ea : h.exts.any (lossy b) = false := any_none (by omega) hp
        have ek := kept_all (p := stays b) (l := h.exts) (j := j) (by omega)
        have e : passBox b h = (⟨h.versions, kept (stays b) h.exts⟩, true) := by simp only [passBox, h1, h2, losesB, ea, h3']; simp
        simp -implicitDefEqProofs [hjn, e, ek]
  · have b0 : h.versions.length * 8 ≤ 1099511627776 := by omega
    simp -implicitDefEqProofs [h2, h3, b0]
    refine swp_loop (fun k s => ∃ j v8 o6 o7 o8 o9, j + k = h.exts.length ∧ (h.exts.take j).any (lossy b) = false ∧ s = ⟨[.undef, .undef, .ptr 0 0, .ptr 1 0, .ptr 2 0, .undef, .ptr 5 0, I j, v8, .undef, .undef, .undef, .undef, .undef], [.var ((eBox b).map (roCell 1)), .var ((eHello h).map (roCell 1)), .var [.nil 1, .nil 2], .dead, .arr 1 0 h.versions.length (ints h.versions), .var [.arr 4, .arr 10], o6, o7, o8, o9, .arr 2 0 (kept (stays b) (h.exts.take j)).length ((kept (stays b) (h.exts.take j)).flatMap eExt)]⟩) ?_ (h.exts.length) _ ⟨0, .undef, .free, .free, .free, .free, by simp, by simp, by simp [kept]⟩
    intro k s ⟨j, v8, o6, o7, o8, o9, hj, hp, hs⟩
    subst hs
    by_cases hjn : j < h.exts.length
    · have hw : IntKind.i64.wrap ((j : Int) + 1) = (j + 1 : Nat) := by rw [wrap_id (by omega) (by omega)]; simp
      have hbd := exB_at hx hjn
      have b1 : h.exts[j].body.length * 8 ≤ 1099511627776 := by omega
      have hkl := kept_len (p := stays b) (l := h.exts) (j := j)
      have b2 : ((kept (stays b) (h.exts.take j)).length + 1) * 32 ≤ 1099511627776 := by omega
      have hst := any_step (p := lossy b) hjn
      rw [hp, Bool.false_or] at hst
      simp -implicitDefEqProofs [hjn]
      refine callQ_of (hH _ _ hb.2) ?_
      simp -implicitDefEqProofs
      refine callQ_of (hH _ _ hb.1) ?_
      by_cases g1 : h.exts[j].tag ∈ b.drops
      · have e : passBox b h = (noHello, false) := by
          have := any_here (p := lossy b) hjn (by simp [lossy, g1])
          simp [passBox, losesB, this]
        simp -implicitDefEqProofs [g1, e, noHello]
      by_cases g2 : h.exts[j].tag ∈ b.strips
      · have hl : lossy b h.exts[j] = false := by simp [lossy, g1, g2]
        have hk := kept_skip (p := stays b) hjn (by simp [stays, g2])
        by_cases g3 : b.lists = true
        · simp -implicitDefEqProofs [g1, g2, g3]
          exact ⟨k - 1, by omega, j + 1, by omega, by simpa using hst.trans hl, by simp [hw], by rw [hk], by rw [hk]⟩
        · simp -implicitDefEqProofs [g1, g2, g3]
          exact ⟨k - 1, by omega, j + 1, by omega, by simpa using hst.trans hl, by simp [hw], by rw [hk], by rw [hk]⟩
      have hk := kept_push (p := stays b) hjn (by simp [stays, g2])
      have hkl := kept_push_len (p := stays b) hjn (by simp [stays, g2])
      by_cases g3 : b.lists = true
      rotate_left
      · have hl : lossy b h.exts[j] = false := by simp [lossy, g1, g2, g3]
        simp -implicitDefEqProofs [g1, g2, g3, hjn, b1, b2]
        exact ⟨k - 1, by omega, j + 1, by omega, by simpa using hst.trans hl, by simp [hw], by rw [hkl], by rw [← hk]⟩
      simp -implicitDefEqProofs [g1, g2, g3]
      refine callQ_of (hI _ _ _) ?_
      by_cases g4 : InR h.exts[j].tag 1 3
      · have hl : lossy b h.exts[j] = false := by simp [lossy, g1, g2, g3, g4]
        simp -implicitDefEqProofs [g4, hjn, b1, b2]
        exact ⟨k - 1, by omega, j + 1, by omega, by simpa using hst.trans hl, by simp [hw], by rw [hkl], by rw [← hk]⟩
      · have e : passBox b h = (noHello, false) := by
          have := any_here (p := lossy b) hjn (by simp [lossy, g1, g2, g3, g4])
          simp [passBox, losesB, this]
        simp -implicitDefEqProofs [g4, e, noHello]
    · have hje : j = h.exts.length := by omega
      have ea : h.exts.any (lossy b) = false := any_none (by omega) hp
      have ek := kept_all (p := stays b) (l := h.exts) (j := j) (by omega)
      have e : passBox b h = (⟨h.versions, kept (stays b) h.exts⟩, true) := by simp only [passBox, h1, h2, losesB, ea, h3]; simp
      simp -implicitDefEqProofs [hjn, e, ek]
abbrev PassBox1S (R : Rel) : Prop := ∀ (t : Int) (b : Box), lnBox b → R [I t, .rptr 1 (eBox b) 0] [] (B (stays b t)) []
abbrev loses1S (R : Rel) : Prop := ∀ (x : Ext) (b : Box), lnBox b → R [arg (eExt x), .rptr 1 (eBox b) 0] [] (B (lossy b x)) []
def maxL (xs : List Int) : Int := xs.foldl max (xs.headD 0)
abbrev MaxS (R : Rel) : Prop := ∀ xs : List Int, 0 < xs.length → xs.length ≤ 4194304 → R [.sl 1 1 xs.length (ints xs)] [] (I (maxL xs)) []
abbrev CloneS (R : Rel) : Prop := ∀ xs : List Int, xs.length ≤ 4194304 → R [.sl 1 1 xs.length (ints xs)] [] (.sl 0 1 xs.length (ints xs)) []
abbrev losesS (R : Rel) : Prop := ∀ (b : Box) (h : Hello), lnBox b → hB h → isBox b = true → areVers h.versions = true → R [arg (eBox b), arg (eHello h)] [] (B (losesB b h)) []
theorem foldmax_last : ∀ (xs : List Int) (a : Int), (∀ x, x ∈ xs → a ≤ x) → (∀ i, (h : i + 1 < xs.length) → xs[i] ≤ xs[i + 1]) → xs.foldl max a = (xs.getLast?.getD a)
  | [], a, _, _ => rfl
  | x :: r, a, h1, h2 => by
    have hx := h1 x (by simp)
    have hr : ∀ y, y ∈ r → x ≤ y := by
      intro y hy
      obtain ⟨n, hn, rfl⟩ := List.getElem_of_mem hy
      have key : ∀ m, (hm : m < r.length) → x ≤ r[m] := by
        intro m
        induction m with
        | zero => intro hm; have := h2 0 (by simp; omega); simpa using this
        | succ m ih =>
          intro hm
          have h3 := ih (by omega)
          have := h2 (m + 1) (by simp; omega)
          simp only [List.getElem_cons_succ] at this
          omega
      exact key n hn
    have ih := foldmax_last r x hr (fun i h => by have := h2 (i + 1) (by simp; omega); simpa using this)
    simp only [List.foldl_cons]
    rw [show max a x = x by omega, ih]
    cases r with
    | nil => rfl
    | cons y s => simp [List.getLast?_cons_cons, List.getLast?_cons]
theorem vers_up {xs : List Int} (h : areVers xs = true) {i : Nat} (hi : i + 1 < xs.length) : xs[i] < xs[i + 1] := by
  unfold areVers risesV at h
  simp only [Bool.and_eq_true, List.all_eq_true, List.mem_range] at h
  have := (h.1 (i + 1) hi).2
  rw [getDV hi, show i + 1 - 1 = i by omega, getDV (by omega)] at this
  simpa using this
theorem vers_at {xs : List Int} (h : areVers xs = true) {i : Nat} (hi : i < xs.length) : InV xs[i] 1 9 := by
  unfold areVers risesV at h
  simp only [Bool.and_eq_true, List.all_eq_true, List.mem_range] at h
  have := (h.1 i hi).1
  rw [getDV hi] at this
  simpa using this
theorem maxL_vers {xs : List Int} (h : areVers xs = true) : maxL xs = topV xs := by
  cases xs with
  | nil => rfl
  | cons x r =>
    unfold maxL topV
    simp only [List.headD_cons, List.foldl_cons]
    rw [show max x x = x by omega, foldmax_last r x ?_ ?_]
    · cases r with
      | nil => rfl
      | cons y s => simp [List.getLastD_eq_getLast?, List.getLast?_cons_cons, List.getLast?_cons]
    · intro y hy
      obtain ⟨n, hn, rfl⟩ := List.getElem_of_mem hy
      induction n with
      | zero => have := vers_up h (i := 0) (by simp; omega); simp at this; omega
      | succ m ih =>
        have h3 := ih (by omega) (List.getElem_mem _)
        have := vers_up h (i := m + 1) (by simp; omega)
        simp only [List.getElem_cons_succ] at this
        omega
    · intro i hi
      have := vers_up h (i := i + 1) (by simp; omega)
      simp only [List.getElem_cons_succ] at this
      omega
theorem capOk_box {b : Box} {r : List V} (h : CapOk r) : CapOk (.rptr 1 (eBox b) 0 :: r) := capOk_cons (fun H => by simp) (fun H => by simp) h
end Go.Eng.T

namespace Go.Eng.T
set_option maxRecDepth 20000
def passGo : List Box → Hello → Hello × Bool
  | [], h => (h, true)
  | b :: r, h => if (passBox b h).2 = true then passGo r (passBox b h).1 else (noHello, false)
theorem passGo_drop {path : List Box} {j : Nat} {x : Hello} (h : j < path.length) : passGo (path.drop j) x = if (passBox path[j] x).2 = true then passGo (path.drop (j + 1)) (passBox path[j] x).1 else (noHello, false) := by
  rw [List.drop_eq_getElem_cons h]; rfl
theorem passGo_end {path : List Box} {j : Nat} {x : Hello} (h : path.length ≤ j) : passGo (path.drop j) x = (x, true) := by rw [List.drop_eq_nil_of_le h]; rfl
def passPath (path : List Box) (h : Hello) : Hello × Bool := if decide (path.length ≤ 4) && isHello h then passGo path h else (noHello, false)
theorem hB_no : hB noHello := ⟨by simp [noHello], exB_nil⟩
theorem hB_pass {b : Box} {h : Hello} (hh : hB h) : hB (passBox b h).1 := by
  unfold passBox
  split
  · exact ⟨hh.1, exB_kept hh.2 _⟩
  · exact hB_no
theorem passBox_no {b : Box} {h : Hello} (hk : (passBox b h).2 = false) : (passBox b h).1 = noHello := by
  unfold passBox at *
  split at hk
  · cases hk
  · rename_i hc; rw [if_neg hc]
abbrev PassPathS (R : Rel) : Prop := ∀ (path : List Box) (h : Hello), lnS lnBox path → hB h → R [.sl 1 4 path.length (path.flatMap eBox), arg (eHello h)] [] (.tup [.agg (eHello (passPath path h).1), B (passPath path h).2]) []
theorem sPassPath_b (D : Dn) (hE : IsHelloS (D gspec_IsHello)) (hC : cpHelloS (D gspec_l18Hello)) (hP : PassBoxS (D gspec_PassBox)) : PassPathS (Body D sspec_PassPath) := by
  intro path h hb hh
  have hl := hb.1
  unfold maxLen at hl
  by_cases h1 : path.length ≤ 4
  rotate_left
  · have h1' : (4 : Int) < path.length := by omega
    simp -implicitDefEqProofs [h1', h1, passPath, noHello]
  have h1' : ¬ (4 : Int) < path.length := by omega
  simp -implicitDefEqProofs [h1']
  refine callQ_of (hE h hh) ?_
  by_cases h2 : isHello h = true
  rotate_left
  · simp -implicitDefEqProofs [h2, h1, passPath, noHello]
  have e : passPath path h = passGo path h := by simp [passPath, h1, h2]
  rw [e]
  simp -implicitDefEqProofs [h2]
  refine callQ_of (hC h hh) ?_
  simp -implicitDefEqProofs
  refine swp_loop (fun k s => ∃ j x o5 o6 o7, j + k = path.length ∧ hB x ∧ passGo path h = passGo (path.drop j) x ∧ s = ⟨[.sl 1 4 path.length (path.flatMap eBox), .undef, .undef, .ptr 1 0, .undef, .ptr 4 0, I j, .undef, .undef, .undef, .undef, .undef], [.var ((eHello h).map (roCell 1)), .var [.nil 1, .nil 2], .free, .free, .var [.arr 8, .arr 9], o5, o6, o7, .arr 1 0 x.versions.length (ints x.versions), .arr 2 0 x.exts.length (x.exts.flatMap eExt)]⟩) ?_ (path.length) _ ⟨0, h, .free, .free, .free, by simp, hh, by simp, by simp⟩
  intro k s ⟨j, x, o5, o6, o7, hj, hx, hg, hs⟩
  subst hs
  by_cases hjn : j < path.length
  · have hw : IntKind.i64.wrap ((j : Int) + 1) = (j + 1 : Nat) := by rw [wrap_id (by omega) (by omega)]; simp
    rw [passGo_drop hjn] at hg
    simp -implicitDefEqProofs [hjn]
    refine callQ_of (hP path[j] x (hb.2 j hjn) hx) ?_
    have hx' := hB_pass (b := path[j]) hx
    generalize passBox path[j] x = r at hg hx'
    by_cases hk : r.2 = true
    · rw [if_pos hk] at hg
      simp -implicitDefEqProofs [hk]
      refine ⟨k - 1, by omega, j + 1, by omega, r.1, hx', ?_⟩
      simp [hw, hg]
    · rw [if_neg hk] at hg
      simp -implicitDefEqProofs [hk, hg, noHello]
  · rw [passGo_end (by omega)] at hg
    simp -implicitDefEqProofs [hjn, hg]
def isClear (b : Box) : Bool := decide (b.limit = 0) && (decide (b.drops.length = 0) && (decide (b.strips.length = 0) && !b.lists))
abbrev IsClearS (R : Rel) : Prop := ∀ b : Box, lnBox b → R [arg (eBox b)] [] (B (isClear b)) []
theorem clear_box {b : Box} (h : isClear b = true) : isBox b = true := by
  unfold isClear at h
  simp only [Bool.and_eq_true, decide_eq_true_eq] at h
  obtain ⟨h1, h2, h3, _⟩ := h
  have h2' := List.eq_nil_of_length_eq_zero h2
  have h3' := List.eq_nil_of_length_eq_zero h3
  simp [isBox, h1, h2', h3', allIn]
def isClearPath (path : List Box) : Bool := decide (path.length ≤ 4) && path.all isClear
abbrev IsClearPathS (R : Rel) : Prop := ∀ path : List Box, lnS lnBox path → R [.sl 1 4 path.length (path.flatMap eBox)] [] (B (isClearPath path)) []
theorem all_here {α : Type} {p : α → Bool} {xs : List α} {j : Nat} (h : j < xs.length) (hp : p xs[j] = false) : xs.all p = false := List.all_eq_false.2 ⟨_, List.getElem_mem h, by simp [hp]⟩
theorem all_step {α : Type} {p : α → Bool} {xs : List α} {j : Nat} (h : j < xs.length) : (xs.take (j + 1)).all p = ((xs.take j).all p && p xs[j]) := by
  have e : xs.take (j + 1) = xs.take j ++ [xs[j]] := by simp
  rw [e, List.all_append]; simp
theorem all_all {α : Type} {p : α → Bool} {xs : List α} {j : Nat} (h : xs.length ≤ j) : (xs.take j).all p = xs.all p := by rw [List.take_of_length_le h]
abbrev IsClearPath1S (R : Rel) : Prop := ∀ b : Box, lnBox b → R [arg (eBox b)] [] (B (!isClear b)) []
abbrev PlainHelloS (R : Rel) : Prop := ∀ xs : List Int, xs.length ≤ 4194304 → R [.sl 1 1 xs.length (ints xs)] [] (.agg (eHello ⟨xs, []⟩)) []
theorem sPlainHello_b (D : Dn) : PlainHelloS (Body D sspec_PlainHello) := by
  intro xs h
  have h1 : xs.length * 8 ≤ 1099511627776 := by omega
  simp -implicitDefEqProofs [h1]
def isOpen (path : List Box) (vs : List Int) : Bool := areVers vs && (passPath path ⟨vs.take 1, []⟩).2
abbrev IsOpenPathS (R : Rel) : Prop := ∀ (path : List Box) (vs : List Int), lnS lnBox path → vs.length ≤ 4194304 → R [.sl 1 4 path.length (path.flatMap eBox), .sl 1 1 vs.length (ints vs)] [] (B (isOpen path vs)) []
theorem sIsOpenPath_b (D : Dn) (hA : AreVersionsS (D gspec_AreVersions)) (hH : PlainHelloS (D gspec_PlainHello)) (hP : PassPathS (D gspec_PassPath)) : IsOpenPathS (Body D sspec_IsOpenPath) := by
  intro path vs hb hv
  simp -implicitDefEqProofs
  refine callQ_of (hA vs (by unfold maxLen; omega)) ?_
  by_cases h1 : areVers vs = true
  rotate_left
  · simp -implicitDefEqProofs [h1, isOpen]
  have hpos := vers_pos h1
  have h1l : (1 : Int) ≤ vs.length := by omega
  have h1n : 1 ≤ vs.length := by omega
  have hlen : (vs.take 1).length = 1 := by simp; omega
  have hmin : min 1 vs.length = 1 := by omega
  simp -implicitDefEqProofs [h1, h1l, h1n]
  have hh := hH (vs.take 1) (by omega)
  rw [hlen] at hh
  refine callQ_of (hh) ?_
  simp -implicitDefEqProofs [hmin]
  have hp := hP path ⟨vs.take 1, []⟩ hb ⟨by simp; omega, exB_nil⟩
  simp -implicitDefEqProofs [hmin] at hp
  refine callQ_of (hp) ?_
  simp -implicitDefEqProofs [isOpen, h1]
def lostV (path : List Box) (v : Int) : Bool := !(passPath path ⟨[v], []⟩).2
def lostVersions (path : List Box) (vs : List Int) : List Int := if areVers vs = true then vs.filter (lostV path) else []
abbrev LostVersionsS (R : Rel) : Prop := ∀ (path : List Box) (vs : List Int), lnS lnBox path → vs.length ≤ 4194304 → R [.sl 1 4 path.length (path.flatMap eBox), .sl 1 1 vs.length (ints vs)] [] (.sl 0 1 (lostVersions path vs).length (ints (lostVersions path vs))) []
theorem isOpen_one (path : List Box) (v : Int) : isOpen path [v] = !lostV path v := by
  unfold isOpen lostV
  by_cases h : areVers [v] = true
  · simp [h]
  · have : passPath path ⟨[v], []⟩ = (noHello, false) := by
      unfold passPath isHello
      have h' : areVers [v] = false := by simpa using h
      simp [h']
    simp [h, this]
theorem sLostVersions_b (D : Dn) (hA : AreVersionsS (D gspec_AreVersions)) (hO : IsOpenPathS (D gspec_IsOpenPath)) : LostVersionsS (Body D sspec_LostVersions) := by
  intro path vs hb hv
  by_cases h1 : areVers vs = true
  rotate_left
  · have e : lostVersions path vs = [] := by unfold lostVersions; rw [if_neg h1]
    rw [e]
    simp -implicitDefEqProofs
    refine swp_loop (fun k s => s = ⟨[.sl 1 4 path.length (path.flatMap eBox), .sl 1 1 vs.length (ints vs), .undef, .arr 3, I 0, .undef, .undef], [.free, .free, .free, .arr 1 0 0 (ints [])]⟩) ?_ 0 _ (by simp)
    intro k s hs
    subst hs
    by_cases h0 : 0 < vs.length
    · simp -implicitDefEqProofs [h0]
      refine callQ_of (hA vs (by unfold maxLen; omega)) ?_
      simp -implicitDefEqProofs [h1]
    · simp -implicitDefEqProofs [h0]
  have e : lostVersions path vs = vs.filter (lostV path) := by unfold lostVersions; rw [if_pos h1]
  rw [e]
  simp -implicitDefEqProofs
  refine swp_loop (fun k s => ∃ j o1 o2, j + k = vs.length ∧ s = ⟨[.sl 1 4 path.length (path.flatMap eBox), .sl 1 1 vs.length (ints vs), .undef, .arr 3, I j, .undef, .undef], [.free, o1, o2, .arr 1 0 ((vs.take j).filter (lostV path)).length (ints ((vs.take j).filter (lostV path)))]⟩) ?_ (vs.length) _ ⟨0, .free, .free, by simp, by simp⟩
  intro k s ⟨j, o1, o2, hj, hs⟩
  subst hs
  by_cases hjn : j < vs.length
  · have hw : IntKind.i64.wrap ((j : Int) + 1) = (j + 1 : Nat) := by rw [wrap_id (by omega) (by omega)]; simp
    have hst := filt_step (p := lostV path) hjn
    have hfl := filt_len (p := lostV path) (xs := vs) (j := j)
    have hb1 : (((vs.take j).filter (lostV path)).length + 1) * 8 ≤ 1099511627776 := by omega
    have hw1 : IntKind.i64.wrap ((j : Int) + 1) = (j : Int) + 1 := wrap_id (by omega) (by omega)
    have hj1 : j + 1 ≤ vs.length := by omega
    have hj2 : (j : Int) + 1 ≤ vs.length := by omega
    have hdt : (vs.drop j).take 1 = [vs[j]] := by rw [List.drop_eq_getElem_cons hjn]; rfl
    simp -implicitDefEqProofs [hjn]
    refine callQ_of (hA vs (by unfold maxLen; omega)) ?_
    have hjj : (j : Int) ≤ (j : Int) + 1 := by omega
    have h11 : j + 1 - j = 1 := by omega
    simp -implicitDefEqProofs [h1, hw1, hj1, hj2, hdt, hjn, hjj, h11]
    refine callQ_of (hO path [vs[j]] hb (by simp)) ?_
    rw [isOpen_one]
    by_cases h2 : lostV path vs[j] = true
    · rw [if_pos h2] at hst
      simp -implicitDefEqProofs [h2, hjn, hb1]
      exact ⟨k - 1, by omega, j + 1, by omega, by simp [hw], by rw [hst]; simp, by rw [hst]⟩
    · rw [if_neg h2, List.append_nil] at hst
      simp -implicitDefEqProofs [h2]
      exact ⟨k - 1, by omega, j + 1, by omega, by simp [hw], by rw [hst], by rw [hst]⟩
  · have e2 := filt_all (p := lostV path) (xs := vs) (j := j) (by omega)
    simp -implicitDefEqProofs [hjn, e2]
end Go.Eng.T

namespace Go.Eng.T
set_option maxRecDepth 20000
set_option maxHeartbeats 1000000
def leftOf (a b : List Int) : List Int := a.filter fun v => !decide (v ∈ b)
abbrev LeftS (R : Rel) : Prop := ∀ a b : List Int, a.length ≤ 4194304 → b.length ≤ 4194304 → R [.sl 1 1 a.length (ints a), .sl 1 1 b.length (ints b)] [] (.sl 0 1 (leftOf a b).length (ints (leftOf a b))) []
theorem l21Left_b (D : Dn) (hH : HasS (D gspec_l9Has)) : LeftS (Body D sspec_l21Left) := by
  intro a b ha hb
  have hres : leftOf a b = a.filter (fun v => !decide (v ∈ b)) := rfl
  rw [hres]
  simp -implicitDefEqProofs
  refine swp_loop (fun k s => ∃ j o1 o2, j + k = a.length ∧ s = ⟨[.sl 1 1 a.length (ints a), .sl 1 1 b.length (ints b), .undef, .arr 3, I j, .undef, .undef], [.free, o1, o2, .arr 1 0 ((a.take j).filter (fun v => !decide (v ∈ b))).length (ints ((a.take j).filter (fun v => !decide (v ∈ b))))]⟩) ?_ (a.length) _ ⟨0, .free, .free, by simp, by simp⟩
  intro k s ⟨j, o1, o2, hj, hs⟩
  subst hs
  by_cases hjn : j < a.length
  · have hw : IntKind.i64.wrap ((j : Int) + 1) = (j + 1 : Nat) := by rw [wrap_id (by omega) (by omega)]; simp
    have hst := filt_step (p := fun v => !decide (v ∈ b)) hjn
    have hln := filt_len (p := fun v => !decide (v ∈ b)) (xs := a) (j := j)
    have hbd : (((a.take j).filter (fun v => !decide (v ∈ b))).length + 1) * 8 ≤ 1099511627776 := by omega
    simp -implicitDefEqProofs [hjn]
    refine callQ_of (hH b _ (by unfold maxLen; omega)) ?_
    by_cases h1 : a[j] ∈ b
    · rw [if_neg (by simp [h1]), List.append_nil] at hst
      simp -implicitDefEqProofs [h1, hjn, hbd]
      exact ⟨k - 1, by omega, j + 1, by omega, by simp [hw], by rw [hst], by rw [hst]⟩
    · rw [if_pos (by simp [h1])] at hst
      simp -implicitDefEqProofs [h1, hjn, hbd]
      exact ⟨k - 1, by omega, j + 1, by omega, by simp [hw], by rw [hst]; simp, by rw [hst]⟩
  · have hx := filt_all (p := fun v => !decide (v ∈ b)) (xs := a) (j := j) (by omega)
    simp -implicitDefEqProofs [hjn, hx]
/-- numbers that rise -/
def upTo (xs : List Int) (i : Nat) : Bool := decide (i = 0) || decide (xs.getD (i - 1) 0 < xs.getD i 0)
def areTags (xs : List Int) : Bool := allTo (upTo xs) xs.length && allIn xs 0 255
abbrev AreTagsS (R : Rel) : Prop := ∀ xs : List Int, xs.length ≤ maxLen → R [.sl 1 1 xs.length (ints xs)] [] (B (areTags xs)) []
theorem areTags_no1 {xs : List Int} {j : Nat} (h : j < xs.length) (hn : ¬ InR xs[j] 0 255) : areTags xs = false := by unfold areTags; rw [allIn_no h hn]; simp
theorem areTags_no2 {xs : List Int} {j : Nat} (h : j < xs.length) (hn : upTo xs j = false) : areTags xs = false := by unfold areTags; rw [allTo_no h hn]; simp
theorem upTo_zero (xs : List Int) : upTo xs 0 = true := by simp [upTo]
theorem upTo_at {xs : List Int} {j : Nat} (h0 : ¬ j = 0) (h : j < xs.length) (h' : j - 1 < xs.length) : upTo xs j = decide (xs[j - 1] < xs[j]) := by
  unfold upTo
  rw [getDV h, getDV h']
  simp [h0]
theorem sl32Tags_b (D : Dn) (hI : InS (D gspec_l1In)) : AreTagsS (Body D sspec_l32Tags) := by
  intro xs hl
  unfold maxLen at hl
  simp -implicitDefEqProofs
  refine swp_loop (fun k s => ∃ j, j + k = xs.length ∧ allIn (xs.take j) 0 255 = true ∧ allTo (upTo xs) j = true ∧ s = ⟨[.sl 1 1 xs.length (ints xs), .undef, I j, .undef, .undef], []⟩) ?_ (xs.length) _ ⟨0, by simp, by simp [allIn], by simp, by simp⟩
  intro k s ⟨j, hj, hp, hr, hs⟩
  subst hs
  by_cases hjn : j < xs.length
  · have hw : IntKind.i64.wrap ((j : Int) + 1) = (j + 1 : Nat) := by rw [wrap_id (by omega) (by omega)]; simp
    have hst := allTo_step (upTo xs) j
    rw [hr, Bool.true_and] at hst
    simp -implicitDefEqProofs [hjn]
    refine callQ_of (hI _ _ _) ?_
    by_cases h1 : InR xs[j] 0 255
    rotate_left
    · simp -implicitDefEqProofs [h1, areTags_no1 hjn h1]
    by_cases h0 : j = 0
    · subst h0
      simp -implicitDefEqProofs [h1]
      exact ⟨k - 1, by omega, 1, by omega, by rw [allIn_step hjn, hp]; simp [h1], by rw [hst, upTo_zero], by simpa using hw⟩
    · have hw2 : IntKind.i64.wrap ((j : Int) - 1) = ((j - 1 : Nat) : Int) := by rw [wrap_id (by omega) (by omega)]; omega
      have h2 : (0 : Int) < j := by omega
      have h2' : 0 < j := by omega
      have h3 : j - 1 < xs.length := by omega
      rw [upTo_at h0 hjn h3] at hst
      by_cases h4 : xs[j - 1] < xs[j]
      · have h4' : ¬ xs[j] ≤ xs[j - 1] := by omega
        simp -implicitDefEqProofs [h1, h2, h2', hw2, h3, hjn, h4']
        exact ⟨k - 1, by omega, j + 1, by omega, by rw [allIn_step hjn, hp]; simp [h1], by rw [hst]; simp [h4], by simp [hw]⟩
      · have e := areTags_no2 hjn (by rw [upTo_at h0 hjn h3]; simp [h4])
        have h4' : xs[j] ≤ xs[j - 1] := by omega
        simp -implicitDefEqProofs [h1, h2, h2', hw2, h3, hjn, h4', e]
  · obtain rfl : j = xs.length := by omega
    have e : areTags xs = true := by unfold areTags; rw [hr, allIn_all (by omega) hp]; rfl
    simp -implicitDefEqProofs [e]
theorem iareTags_b (D : Dn) (hN : areNumbersS (D gimpl_areNumbers)) : AreTagsS (Body D simpl_areTags) := by
  intro xs hl
  have hl0 := hl
  unfold maxLen at hl
  simp -implicitDefEqProofs
  refine swp_loop (fun k s => ∃ j, j + k = xs.length ∧ allTo (upTo xs) j = true ∧ s = ⟨[.sl 1 1 xs.length (ints xs), .undef, .undef, .undef, .sl 1 1 xs.length (ints xs), I xs.length, I j, .undef, .undef], []⟩) ?_ (xs.length) _ ⟨0, by simp, by simp, by simp⟩
  intro k s ⟨j, hj, hr, hs⟩
  subst hs
  by_cases hjn : j < xs.length
  · have hw : IntKind.i64.wrap ((j : Int) + 1) = (j + 1 : Nat) := by rw [wrap_id (by omega) (by omega)]; simp
    have hst := allTo_step (upTo xs) j
    rw [hr, Bool.true_and] at hst
    by_cases h0 : j = 0
    · subst h0
      simp -implicitDefEqProofs [hjn]
      exact ⟨k - 1, by omega, 1, by omega, by rw [hst, upTo_zero], by simpa using hw⟩
    · have hw2 : IntKind.i64.wrap ((j : Int) - 1) = ((j - 1 : Nat) : Int) := by rw [wrap_id (by omega) (by omega)]; omega
      have h2 : (0 : Int) < j := by omega
      have h2' : 0 < j := by omega
      have h3 : j - 1 < xs.length := by omega
      rw [upTo_at h0 hjn h3] at hst
      by_cases h4 : xs[j - 1] < xs[j]
      · have h4' : ¬ xs[j] ≤ xs[j - 1] := by omega
        simp -implicitDefEqProofs [h2, h2', hw2, h3, hjn, h4']
        exact ⟨k - 1, by omega, j + 1, by omega, by rw [hst]; simp [h4], by simp [hw]⟩
      · have e := areTags_no2 hjn (by rw [upTo_at h0 hjn h3]; simp [h4])
        have h4' : xs[j] ≤ xs[j - 1] := by omega
        simp -implicitDefEqProofs [h2, h2', hw2, h3, hjn, h4', e]
  · obtain rfl : j = xs.length := by omega
    have e : areTags xs = allIn xs 0 255 := by unfold areTags; rw [hr]; rfl
    simp -implicitDefEqProofs
    refine callQ_of (hN xs _ _ hl0) ?_
    simp -implicitDefEqProofs [e]

def isEndpoint (e : Endpoint) : Bool := areVers e.versions && (decide (e.tags.length ≤ 5) && (areTags e.tags && (!e.tags.any isReserved && (decide (e.path.length ≤ 4) && (e.path.all isBox && decide (InR e.cls 0 5))))))
abbrev IsEndpointS (R : Rel) : Prop := ∀ e : Endpoint, lnEndpoint e → R [arg (eEndpoint e)] [] (B (isEndpoint e)) []
theorem sIsEndpoint_b (D : Dn) (hI : InS (D gspec_l1In)) (hR : IsReservedS (D gspec_IsReserved)) (hX : IsBoxS (D gspec_IsBox)) (hA : AreVersionsS (D gspec_AreVersions)) : IsEndpointS (Body D sspec_IsEndpoint) := by
  intro e hl
  obtain ⟨hl1, hl2, hl3⟩ := hl
  have hl4 := hl3.1
  have hl2' := hl2
  unfold lnInts at hl2
  unfold maxLen at hl2 hl4
  simp -implicitDefEqProofs
  refine swp_loop (fun k s => ∃ j, j + k = e.tags.length ∧ allIn (e.tags.take j) 0 255 = true ∧ allTo (upTo e.tags) j = true ∧ (e.tags.take j).any isReserved = false ∧ s = ⟨[.undef, .ptr 0 0, .undef, I j, .undef, .undef, .undef, .undef, .undef], [.var ((eEndpoint e).map (roCell 1))]⟩) ?_ (e.tags.length) _ ⟨0, by simp, by simp [allIn], by simp, by simp, by simp⟩
  intro k s ⟨j, hj, hp, hr, hq, hs⟩
  subst hs
  by_cases hjn : j < e.tags.length
  · have hw : IntKind.i64.wrap ((j : Int) + 1) = (j + 1 : Nat) := by rw [wrap_id (by omega) (by omega)]; simp
    have hst := allTo_step (upTo e.tags) j
    rw [hr, Bool.true_and] at hst
    have hsq := any_step (p := isReserved) hjn
    rw [hq, Bool.false_or] at hsq
    simp -implicitDefEqProofs [hjn]
    refine callQ_of (hI _ _ _) ?_
    by_cases h1 : InR e.tags[j] 0 255
    rotate_left
    · have e0 : isEndpoint e = false := by unfold isEndpoint; rw [areTags_no1 hjn h1]; simp
      simp -implicitDefEqProofs [h1, e0]
    simp -implicitDefEqProofs [h1, hjn]
    refine callQ_of (hR _) ?_
    by_cases h5 : isReserved e.tags[j] = true
    · have e0 : isEndpoint e = false := by unfold isEndpoint; rw [any_here hjn h5]; simp
      simp -implicitDefEqProofs [h5, e0]
    have h5' : isReserved e.tags[j] = false := by simpa using h5
    by_cases h0 : j = 0
    · subst h0
      simp -implicitDefEqProofs [h1, h5']
      exact ⟨k - 1, by omega, 1, by omega, by rw [allIn_step hjn, hp]; simp [h1], by rw [hst, upTo_zero], by simpa using hsq.trans h5', by simpa using hw⟩
    · have hw2 : IntKind.i64.wrap ((j : Int) - 1) = ((j - 1 : Nat) : Int) := by rw [wrap_id (by omega) (by omega)]; omega
      have h2 : (0 : Int) < j := by omega
      have h2' : 0 < j := by omega
      have h3 : j - 1 < e.tags.length := by omega
      rw [upTo_at h0 hjn h3] at hst
      by_cases h4 : e.tags[j - 1] < e.tags[j]
      · have h4' : ¬ e.tags[j] ≤ e.tags[j - 1] := by omega
        simp -implicitDefEqProofs [h1, h5', h2, h2', hw2, h3, hjn, h4']
        exact ⟨k - 1, by omega, j + 1, by omega, by rw [allIn_step hjn, hp]; simp [h1], by rw [hst]; simp [h4], by simpa using hsq.trans h5', by simp [hw]⟩
      · have e0 : isEndpoint e = false := by unfold isEndpoint; rw [areTags_no2 hjn (by rw [upTo_at h0 hjn h3]; simp [h4])]; simp
        have h4' : e.tags[j] ≤ e.tags[j - 1] := by omega
        simp -implicitDefEqProofs [h1, h5', h2, h2', hw2, h3, hjn, h4', e0]
  obtain rfl : j = e.tags.length := by omega
  have et : areTags e.tags = true := by unfold areTags; rw [hr, allIn_all (by omega) hp]; rfl
  have er : e.tags.any isReserved = false := any_none (by omega) hq
  simp -implicitDefEqProofs
  refine swp_loop (fun k s => ∃ j, j + k = e.path.length ∧ (e.path.take j).all isBox = true ∧ s = ⟨[.undef, .ptr 0 0, .undef, .undef, I j, .undef, .undef, .undef, .undef], [.var ((eEndpoint e).map (roCell 1))]⟩) ?_ (e.path.length) _ ⟨0, by simp, by simp, by simp⟩
  intro k s ⟨j, hj, hb, hs⟩
  subst hs
  by_cases hjn : j < e.path.length
  · have hw : IntKind.i64.wrap ((j : Int) + 1) = (j + 1 : Nat) := by rw [wrap_id (by omega) (by omega)]; simp
    have hst := all_step (p := isBox) hjn
    rw [hb, Bool.true_and] at hst
    simp -implicitDefEqProofs [hjn]
    refine callQ_of (hX _ (hl3.2 j hjn)) ?_
    by_cases h1 : isBox e.path[j] = true
    · simp -implicitDefEqProofs [h1]
      exact ⟨k - 1, by omega, j + 1, by omega, by simpa using hst.trans h1, by simp [hw]⟩
    · have e0 : isEndpoint e = false := by unfold isEndpoint; rw [all_here hjn (by simpa using h1)]; simp
      simp -implicitDefEqProofs [h1, e0]
  have eb : e.path.all isBox = true := by rw [← all_all (j := j) (by omega), hb]
  simp -implicitDefEqProofs [hjn]
  refine callQ_of (hA _ hl1) ?_
  by_cases g1 : areVers e.versions = true
  rotate_left
  · simp -implicitDefEqProofs [g1, isEndpoint]
  by_cases g2 : e.tags.length ≤ 5
  rotate_left
  · have g2' : ¬ (e.tags.length : Int) ≤ 5 := by omega
    simp -implicitDefEqProofs [g1, g2, g2', isEndpoint]
  have g2' : (e.tags.length : Int) ≤ 5 := by omega
  by_cases g3 : e.path.length ≤ 4
  rotate_left
  · have g3' : ¬ (e.path.length : Int) ≤ 4 := by omega
    simp -implicitDefEqProofs [g1, g2, g2', g3, g3', isEndpoint]
  have g3' : (e.path.length : Int) ≤ 4 := by omega
  simp -implicitDefEqProofs [g1, g2', g3']
  refine callQ_of (hI _ _ _) ?_
  have ee : isEndpoint e = decide (InR e.cls 0 5) := by unfold isEndpoint; rw [et, er, eb]; simp [g1, g2, g3]
  simp -implicitDefEqProofs [ee]
abbrev IsEndpoint1S (R : Rel) : Prop := ∀ b : Box, lnBox b → R [arg (eBox b)] [] (B (!isBox b)) []
theorem IsEndpoint1_b (D : Dn) (hX : IsBoxS (D gimpl_IsBox)) : IsEndpoint1S (Body D simpl_IsEndpoint_1) := by
  intro b hb
  simp -implicitDefEqProofs
  refine callQ_of (hX b hb) ?_
  simp -implicitDefEqProofs
theorem any_not {α : Type} (p : α → Bool) (xs : List α) : (xs.any fun x => !p x) = !xs.all p := by rw [List.all_eq_not_any_not]; simp
theorem iIsEndpoint_b (D : Dn) (hA : AreVersionsS (D gimpl_AreVersions)) (hT : AreTagsS (D gimpl_areTags)) (hH : IsHardenedS (D gimpl_IsHardened)) (h1 : IsEndpoint1S (D gimpl_IsEndpoint_1)) (hC : ContainsFuncBoxS D (D gslices_ContainsFunc___impl_Box_impl_Box_)) (hI : InS (D gimpl_InRange)) : IsEndpointS (Body D simpl_IsEndpoint) := by
  intro e hl
  obtain ⟨hl1, hl2, hl3⟩ := hl
  simp -implicitDefEqProofs
  refine callQ_of (hA _ hl1) ?_
  by_cases g1 : areVers e.versions = true
  rotate_left
  · simp -implicitDefEqProofs [g1, isEndpoint]
  by_cases g2 : e.tags.length ≤ 5
  rotate_left
  · have g2' : ¬ (e.tags.length : Int) ≤ 5 := by omega
    simp -implicitDefEqProofs [g1, g2, g2', isEndpoint]
  have g2' : (e.tags.length : Int) ≤ 5 := by omega
  simp -implicitDefEqProofs [g1, g2']
  refine callQ_of (hT _ hl2) ?_
  by_cases g4 : areTags e.tags = true
  rotate_left
  · simp -implicitDefEqProofs [g4, isEndpoint]
  simp -implicitDefEqProofs [g4]
  refine callQ_of (hH _ hl2) ?_
  by_cases g5 : e.tags.any isReserved = true
  · have e0 : isEndpoint e = false := by unfold isEndpoint; rw [g5]; simp
    generalize e.tags.any isReserved = q at g5
    subst g5
    simp -implicitDefEqProofs [e0]
  have g5' : e.tags.any isReserved = false := by simpa using g5
  have ee : isEndpoint e = (decide (e.path.length ≤ 4) && (e.path.all isBox && decide (InR e.cls 0 5))) := by unfold isEndpoint; rw [g5', g1, g4]; simp [g2]
  rw [ee]
  generalize e.tags.any isReserved = q at g5'
  subst g5'
  by_cases g3 : e.path.length ≤ 4
  rotate_left
  · have g3' : ¬ (e.path.length : Int) ≤ 4 := by omega
    simp -implicitDefEqProofs [g3, g3']
  have g3' : (e.path.length : Int) ≤ 4 := by omega
  simp -implicitDefEqProofs [g3, g3']
  refine callQ_of (hC e.path gimpl_IsEndpoint_1 [] (fun b => !isBox b) hl3.1 capOk_nil (fun j hj => h1 e.path[j] (hl3.2 j hj))) ?_
  rw [any_not]
  generalize e.path.all isBox = q
  by_cases g6 : q = true
  rotate_left
  · simp -implicitDefEqProofs [g6]
  simp -implicitDefEqProofs [g6]
  refine callQ_of (hI _ _ _) ?_
  simp -implicitDefEqProofs

theorem ln_box {b : Box} (h : szBox b ≤ 4194304) : lnBox b := by
  unfold szBox at h
  exact ⟨by unfold lnInts maxLen; omega, by unfold lnInts maxLen; omega⟩
theorem ln_path {p : List Box} (h : sumF szBox p ≤ 4194304) : lnS lnBox p :=
  ⟨by have := size_len (f := szBox) (xs := p); unfold maxLen; omega, fun j hj => ln_box (by have := size_at (f := szBox) hj; omega)⟩
theorem ln_end {e : Endpoint} (h : szEndpoint e ≤ 4194304) : lnEndpoint e := by
  unfold szEndpoint at h
  exact ⟨by unfold lnInts maxLen; omega, by unfold lnInts maxLen; omega, ln_path (by omega)⟩
theorem world_end {w : World} (h : szWorld w ≤ 4194304) {n : Nat} (hn : n < w.ends.length) : szEndpoint w.ends[n] ≤ 4194304 := by
  have := size_at (f := szEndpoint) hn
  have := (world_szs h).2.2.1
  omega
theorem endp_vers {e : Endpoint} (h : szEndpoint e ≤ 4194304) : e.versions.length ≤ 4194304 := by unfold szEndpoint at h; omega
def bestFor (e : Endpoint) (s : List Int) : Int := if isEndpoint e = true then bestCommon s (leftOf e.versions (lostVersions e.path e.versions)) else 0
abbrev BestForS (R : Rel) : Prop := ∀ (e : Endpoint) (s : List Int), szEndpoint e ≤ 4194304 → s.length ≤ 4194304 → R [arg (eEndpoint e), .sl 1 1 s.length (ints s)] [] (I (bestFor e s)) []
theorem lost_len (path : List Box) (vs : List Int) : (lostVersions path vs).length ≤ vs.length := by
  unfold lostVersions
  split
  · exact List.length_filter_le _ _
  · simp
theorem left_len (a b : List Int) : (leftOf a b).length ≤ a.length := List.length_filter_le _ _
def bestNow (w : World) (i : Int) : Int := if InQ i 0 ((w.ends.length : Int) - 1) then (match w.ends[i.toNat]? with | some e => bestFor e w.server | none => 0) else 0
abbrev BestNowS (R : Rel) : Prop := ∀ (w : World) (i : Int), szWorld w ≤ 4194304 → R [arg (eWorld w), I i] [] (I (bestNow w i)) []
end Go.Eng.T

namespace Go.Eng.T
set_option maxRecDepth 20000
set_option maxHeartbeats 2000000
abbrev IndexFuncRowsS (D : Dn) (R : Rel) : Prop := ∀ (xs : List (List Int)) (g : Nat) (caps : List V) (p : List Int → Bool), xs.length ≤ maxLen → CapOk caps → (∀ (j : Nat) (h : j < xs.length), D g (.sl 1 1 xs[j].length (ints xs[j]) :: caps) [] (B (p xs[j])) []) → R [rowsA xs, .fn g caps] [] (I (idxP p xs 0)) []
theorem IndexFuncRows_b (D : Dn) : IndexFuncRowsS D (Body D sslices_IndexFunc_____int___int_) := by
  intro xs g caps p hl hc hp
  unfold maxLen at hl
  simp -implicitDefEqProofs
  refine swp_loop (fun k s => ∃ j, j + k = xs.length ∧ idxP p xs 0 = idxP p (xs.drop j) j ∧ s = ⟨[rowsA xs, .fn g caps, .undef, .undef, I xs.length, I j, .undef, .undef], []⟩) ?_ (xs.length) _ ⟨0, by simp, by simp, by simp⟩
  intro k s ⟨j, hj, hi, hs⟩
  subst hs
  by_cases hjn : j < xs.length
  · have hw : IntKind.i64.wrap ((j : Int) + 1) = (j + 1 : Nat) := by rw [wrap_id (by omega) (by omega)]; simp
    rw [idxP_drop hjn] at hi
    simp -implicitDefEqProofs [hjn, hc.1, hc.2.1]
    refine callQ_of (hp j hjn) ?_
    by_cases he : p xs[j] = true
    · rw [if_pos he] at hi
      simp -implicitDefEqProofs [he, hi]
    · rw [if_neg he] at hi
      simp -implicitDefEqProofs [he]
      exact ⟨k - 1, by omega, j + 1, by omega, by simpa using hi, by simp [hw]⟩
  · rw [idxP_end (by omega)] at hi
    simp -implicitDefEqProofs [hjn, hi]
abbrev ContainsFuncRowsS (D : Dn) (R : Rel) : Prop := ∀ (xs : List (List Int)) (g : Nat) (caps : List V) (p : List Int → Bool), xs.length ≤ maxLen → CapOk caps → (∀ (j : Nat) (h : j < xs.length), D g (.sl 1 1 xs[j].length (ints xs[j]) :: caps) [] (B (p xs[j])) []) → R [rowsA xs, .fn g caps] [] (B (xs.any p)) []
theorem ContainsFuncRows_b (D : Dn) (hI : IndexFuncRowsS D (D gslices_IndexFunc_____int___int_)) : ContainsFuncRowsS D (Body D sslices_ContainsFunc_____int___int_) := by
  intro xs g caps p hl hc hp
  simp -implicitDefEqProofs [hc.2.2]
  refine callQ_of (hI xs g caps p hl hc hp) ?_
  have e : decide (0 ≤ idxP p xs 0) = xs.any p := by rw [Bool.eq_iff_iff]; simp only [decide_eq_true_eq]; rw [idxP_ge (by omega)]
  simp -implicitDefEqProofs [e]
def reach (s l : List Int) : Bool := !decide (bestCommon s l = 0)
def allReach (s : List Int) (ls : List (List Int)) : Bool := areVers s && ls.all (reach s)
abbrev AllReachS (R : Rel) : Prop := ∀ (s : List Int) (ls : List (List Int)), s.length ≤ 4194304 → szRows ls ≤ 4194304 → R [.sl 1 1 s.length (ints s), rowsA ls] [] (B (allReach s ls)) []
theorem sAllReach_b (D : Dn) (hB : BestCommonS (D gspec_BestCommon)) (hA : AreVersionsS (D gspec_AreVersions)) : AllReachS (Body D sspec_AllReach) := by
  intro sv ls hs hl
  have hll := rows_len (xs := ls)
  simp -implicitDefEqProofs
  refine swp_loop (fun k s => ∃ j, j + k = ls.length ∧ (ls.take j).all (reach sv) = true ∧ s = ⟨[.sl 1 1 sv.length (ints sv), rowsA ls, .undef, I j, .undef, .undef], []⟩) ?_ (ls.length) _ ⟨0, by simp, by simp, by simp⟩
  intro k s ⟨j, hj, hp, hs⟩
  subst hs
  by_cases hjn : j < ls.length
  · have hw : IntKind.i64.wrap ((j : Int) + 1) = (j + 1 : Nat) := by rw [wrap_id (by omega) (by omega)]; simp
    have hst := all_step (p := reach sv) hjn
    rw [hp, Bool.true_and] at hst
    have hra := rows_at hjn
    simp -implicitDefEqProofs [hjn]
    refine callQ_of (hB sv _ hs (by omega)) ?_
    by_cases h1 : bestCommon sv ls[j] = 0
    · have e : allReach sv ls = false := by unfold allReach; rw [all_here hjn (by simp [reach, h1])]; simp
      simp -implicitDefEqProofs [h1, e, beqI]
    · simp -implicitDefEqProofs [h1, beqI]
      exact ⟨k - 1, by omega, j + 1, by omega, by simpa using hst.trans (show reach sv ls[j] = true by simp [reach, h1]), by simp [hw]⟩
  · have e : allReach sv ls = areVers sv := by unfold allReach; rw [← all_all (j := j) (by omega), hp]; simp
    simp -implicitDefEqProofs [hjn]
    refine callQ_of (hA sv (by unfold maxLen; omega)) ?_
    simp -implicitDefEqProofs [e]
abbrev AllReach1S (R : Rel) : Prop := ∀ (s l : List Int), s.length ≤ 4194304 → l.length ≤ 4194304 → R [.sl 1 1 l.length (ints l), .rptr 1 [.sl 0 1 s.length (ints s)] 0] [] (B (!reach s l)) []
theorem AllReach1_b (D : Dn) (hB : BestCommonS (D gimpl_BestCommon)) : AllReach1S (Body D simpl_AllReach_1) := by
  intro s l hs hl
  simp -implicitDefEqProofs
  refine callQ_of (hB s l hs hl) ?_
  simp -implicitDefEqProofs [reach, beqI]
theorem iAllReach_b (D : Dn) (hA : AreVersionsS (D gimpl_AreVersions)) (h1' : AllReach1S (D gimpl_AllReach_1)) (hC : ContainsFuncRowsS D (D gslices_ContainsFunc_____int___int_)) : AllReachS (Body D simpl_AllReach) := by
  intro s ls hs hl
  have hll := rows_len (xs := ls)
  simp -implicitDefEqProofs
  refine callQ_of (hA s (by unfold maxLen; omega)) ?_
  by_cases h1 : areVers s = true
  rotate_left
  · simp -implicitDefEqProofs [h1, allReach]
  simp -implicitDefEqProofs [h1]
  refine callQ_of (hC ls gimpl_AllReach_1 _ (fun l => !reach s l) (by unfold maxLen; omega) (capOk_ints capOk_nil) (fun j hj => h1' s ls[j] hs (by have := rows_at hj; omega))) ?_
  rw [any_not]
  generalize hq : ls.all (reach s) = q
  simp -implicitDefEqProofs [allReach, h1, hq]
def validKey (k : Int) : Bool := decide (InR k 1 2147483646)
abbrev ValidKeyS (R : Rel) : Prop := ∀ k : Int, R [I k] [] (B (validKey k)) []
theorem sValidKey_b (D : Dn) (hI : InS (D gspec_l1In)) : ValidKeyS (Body D sspec_IsValidKey) := by
  intro k
  simp -implicitDefEqProofs
  refine callQ_of (hI _ _ _) ?_
  simp -implicitDefEqProofs [validKey]
theorem iValidKey_b (D : Dn) (hI : InS (D gimpl_InRange)) : ValidKeyS (Body D simpl_IsValidKey) := by
  intro k
  simp -implicitDefEqProofs
  refine callQ_of (hI _ _ _) ?_
  simp -implicitDefEqProofs [validKey]
def isWorldA (w : World) : Bool := allReach w.server (listsOf w) && (areTags w.tags && validKey w.key)
def isWorldB (w : World) : Bool := isRollout w.rollout && (decide (w.rollout.version ∈ w.server) && (decide (InR w.least 1 100) && decide (InR w.percent 0 100)))
def isWorldC (w : World) : Bool := decide (w.stage.length ≤ 60) && (decide (w.log.length ≤ 60) && (decide (InR w.now 0 10000) && (decide (InR w.hurt 0 w.log.length) && decide (InR w.reached 0 w.rollout.stages.length))))
def isWorld (w : World) : Bool := isWorldA w && (decide (w.ends.length ≤ 6) && (w.ends.all isEndpoint && (isWorldB w && isWorldC w)))
abbrev IsWorldS (R : Rel) : Prop := ∀ w : World, szWorld w ≤ 4194304 → R [arg (eWorld w)] [] (B (isWorld w)) []
abbrev IsWorld1S (R : Rel) : Prop := ∀ e : Endpoint, szEndpoint e ≤ 4194304 → R [arg (eEndpoint e)] [] (B (!isEndpoint e)) []
theorem IsWorld1_b (D : Dn) (hE : IsEndpointS (D gimpl_IsEndpoint)) : IsWorld1S (Body D simpl_IsWorld_1) := by
  intro e h
  simp -implicitDefEqProofs
  refine callQ_of (hE e (ln_end h)) ?_
  simp -implicitDefEqProofs
theorem iIsWorld_b (D : Dn) (hL : ListsOfS (D gimpl_ListsOf)) (hA : AllReachS (D gimpl_AllReach)) (hT : AreTagsS (D gimpl_areTags)) (hK : ValidKeyS (D gimpl_IsValidKey)) (h1' : IsWorld1S (D gimpl_IsWorld_1)) (hC : ContainsFuncEndpointS D (D gslices_ContainsFunc___impl_Endpoint_impl_Endpoint_)) (hR : IsRolloutS (D gimpl_IsRollout)) (hH : HasS (D gslices_Contains___int_int_)) (hI : InS (D gimpl_InRange)) : IsWorldS (Body D simpl_IsWorld) := by
  intro w hsz
  have hs := world_szs hsz
  have he := world_ends hsz
  simp -implicitDefEqProofs
  refine callQ_of (hL w hsz) ?_
  simp -implicitDefEqProofs
  refine callQ_of (hA w.server (listsOf w) hs.1 (lists_sz hsz)) ?_
  by_cases a1 : allReach w.server (listsOf w) = true
  rotate_left
  · simp -implicitDefEqProofs [a1, isWorld, isWorldA]
  simp -implicitDefEqProofs [a1]
  refine callQ_of (hT w.tags (by unfold maxLen; omega)) ?_
  by_cases a2 : areTags w.tags = true
  rotate_left
  · simp -implicitDefEqProofs [a2, isWorld, isWorldA]
  simp -implicitDefEqProofs [a2]
  refine callQ_of (hK w.key) ?_
  by_cases a3 : validKey w.key = true
  rotate_left
  · simp -implicitDefEqProofs [a3, isWorld, isWorldA]
  by_cases e1 : w.ends.length ≤ 6
  rotate_left
  · have e1' : (6 : Int) < w.ends.length := by omega
    simp -implicitDefEqProofs [a3, e1', e1, isWorld]
  have e1' : ¬ (6 : Int) < w.ends.length := by omega
  simp -implicitDefEqProofs [a3, e1']
  refine callQ_of (hC w.ends gimpl_IsWorld_1 [] (fun e => !isEndpoint e) (by unfold maxLen; omega) capOk_nil (fun j hj => h1' w.ends[j] (world_end hsz hj))) ?_
  rw [any_not]
  generalize hq : w.ends.all isEndpoint = q
  by_cases e2 : q = true
  rotate_left
  · have e : isWorld w = false := by unfold isWorld; rw [hq]; simp [e2]
    simp -implicitDefEqProofs [e2, e]
  have hq' := hq.trans e2
  simp -implicitDefEqProofs [e2]
  refine callQ_of (hR w.rollout (world_roll hsz)) ?_
  by_cases b1 : isRollout w.rollout = true
  rotate_left
  · simp -implicitDefEqProofs [b1, isWorld, isWorldB]
  simp -implicitDefEqProofs [b1]
  refine callQ_of (hH w.server _ (by unfold maxLen; omega)) ?_
  by_cases b2 : w.rollout.version ∈ w.server
  rotate_left
  · simp -implicitDefEqProofs [b2, isWorld, isWorldB]
  simp -implicitDefEqProofs [b2]
  refine callQ_of (hI _ _ _) ?_
  by_cases b3 : InR w.least 1 100
  rotate_left
  · simp -implicitDefEqProofs [b3, isWorld, isWorldB]
  simp -implicitDefEqProofs [b3]
  refine callQ_of (hI _ _ _) ?_
  by_cases b4 : InR w.percent 0 100
  rotate_left
  · simp -implicitDefEqProofs [b4, isWorld, isWorldB]
  by_cases c1 : w.stage.length ≤ 60
  rotate_left
  · have c1' : ¬ (w.stage.length : Int) ≤ 60 := by omega
    simp -implicitDefEqProofs [b4, c1', c1, isWorld, isWorldC]
  have c1' : (w.stage.length : Int) ≤ 60 := by omega
  by_cases c2 : w.log.length ≤ 60
  rotate_left
  · have c2' : ¬ (w.log.length : Int) ≤ 60 := by omega
    simp -implicitDefEqProofs [b4, c1', c2', c2, isWorld, isWorldC]
  have c2' : (w.log.length : Int) ≤ 60 := by omega
  simp -implicitDefEqProofs [b4, c1', c2']
  refine callQ_of (hI _ _ _) ?_
  by_cases c3 : InR w.now 0 10000
  rotate_left
  · simp -implicitDefEqProofs [b4, c1', c2', c3, isWorld, isWorldC]
  simp -implicitDefEqProofs [b4, c1', c2', c3]
  refine callQ_of (hI _ _ _) ?_
  by_cases c4 : InR w.hurt 0 w.log.length
  rotate_left
  · simp -implicitDefEqProofs [b4, c1', c2', c3, c4, isWorld, isWorldC]
  simp -implicitDefEqProofs [b4, c1', c2', c3, c4]
  refine callQ_of (hI _ _ _) ?_
  have ec : isWorldC w = decide (InR w.reached 0 w.rollout.stages.length) := by unfold isWorldC; simp [c1, c2, c3, c4]
  have ee : isWorld w = isWorldC w := by unfold isWorld isWorldA isWorldB; rw [hq']; simp [a1, a2, a3, e1, b1, b2, b3, b4]
  simp -implicitDefEqProofs [ee, ec]
theorem sIsWorld_b (D : Dn) (hE : IsEndpointS (D gspec_IsEndpoint)) (hV : AreVersionsS (D gspec_AreVersions)) (hT : AreTagsS (D gspec_l32Tags)) (hK : ValidKeyS (D gspec_IsValidKey)) (hR : IsRolloutS (D gspec_IsRollout)) (hH : HasS (D gspec_l9Has)) (hL : ListsOfS (D gspec_ListsOf)) (hA : AllReachS (D gspec_AllReach)) (hI : InS (D gspec_l1In)) : IsWorldS (Body D sspec_IsWorld) := by
  intro w hsz
  have hs := world_szs hsz
  have he := world_ends hsz
  simp -implicitDefEqProofs
  refine swp_loop (fun k s => ∃ j, j + k = w.ends.length ∧ (w.ends.take j).all isEndpoint = true ∧ s = ⟨[.undef, .ptr 0 0, .undef, I j, .undef, .undef, .undef], [.var ((eWorld w).map (roCell 1)), .free]⟩) ?_ (w.ends.length) _ ⟨0, by simp, by simp, by simp⟩
  intro k s ⟨j, hj, hp, hs⟩
  subst hs
  by_cases hjn : j < w.ends.length
  · have hw : IntKind.i64.wrap ((j : Int) + 1) = (j + 1 : Nat) := by rw [wrap_id (by omega) (by omega)]; simp
    have hst := all_step (p := isEndpoint) hjn
    rw [hp, Bool.true_and] at hst
    simp -implicitDefEqProofs [hjn]
    refine callQ_of (hE w.ends[j] (ln_end (world_end hsz hjn))) ?_
    by_cases h1 : isEndpoint w.ends[j] = true
    · simp -implicitDefEqProofs [h1]
      exact ⟨k - 1, by omega, j + 1, by omega, by simpa using hst.trans h1, by simp [hw]⟩
    · have e : isWorld w = false := by unfold isWorld; rw [all_here hjn (by simpa using h1)]; simp
      simp -implicitDefEqProofs [h1, e]
  have hq' : w.ends.all isEndpoint = true := by rw [← all_all (j := j) (by omega), hp]
  simp -implicitDefEqProofs [hjn]
  refine callQ_of (hV w.server (by unfold maxLen; omega)) ?_
  by_cases v1 : areVers w.server = true
  rotate_left
  · simp -implicitDefEqProofs [v1, isWorld, isWorldA, allReach]
  simp -implicitDefEqProofs [v1]
  refine callQ_of (hT w.tags (by unfold maxLen; omega)) ?_
  by_cases a2 : areTags w.tags = true
  rotate_left
  · simp -implicitDefEqProofs [a2, isWorld, isWorldA]
  simp -implicitDefEqProofs [a2]
  refine callQ_of (hK w.key) ?_
  by_cases a3 : validKey w.key = true
  rotate_left
  · simp -implicitDefEqProofs [a3, isWorld, isWorldA]
  by_cases e1 : w.ends.length ≤ 6
  rotate_left
  · have e1' : (6 : Int) < w.ends.length := by omega
    simp -implicitDefEqProofs [a3, e1', e1, isWorld]
  have e1' : ¬ (6 : Int) < w.ends.length := by omega
  simp -implicitDefEqProofs [a3, e1']
  refine callQ_of (hR w.rollout (world_roll hsz)) ?_
  by_cases b1 : isRollout w.rollout = true
  rotate_left
  · simp -implicitDefEqProofs [b1, isWorld, isWorldB]
  simp -implicitDefEqProofs [b1]
  refine callQ_of (hH w.server _ (by unfold maxLen; omega)) ?_
  by_cases b2 : w.rollout.version ∈ w.server
  rotate_left
  · simp -implicitDefEqProofs [b2, isWorld, isWorldB]
  simp -implicitDefEqProofs [b2]
  refine callQ_of (hL w hsz) ?_
  simp -implicitDefEqProofs [b2]
  refine callQ_of (hA w.server (listsOf w) hs.1 (lists_sz hsz)) ?_
  by_cases a1 : allReach w.server (listsOf w) = true
  rotate_left
  · simp -implicitDefEqProofs [a1, isWorld, isWorldA]
  simp -implicitDefEqProofs [a1]
  refine callQ_of (hI _ _ _) ?_
  by_cases b3 : InR w.least 1 100
  rotate_left
  · simp -implicitDefEqProofs [b3, isWorld, isWorldB]
  simp -implicitDefEqProofs [b3]
  refine callQ_of (hI _ _ _) ?_
  by_cases b4 : InR w.percent 0 100
  rotate_left
  · simp -implicitDefEqProofs [b4, isWorld, isWorldB]
  by_cases c1 : w.stage.length ≤ 60
  rotate_left
  · have c1' : ¬ (w.stage.length : Int) ≤ 60 := by omega
    simp -implicitDefEqProofs [b4, c1', c1, isWorld, isWorldC]
  have c1' : (w.stage.length : Int) ≤ 60 := by omega
  by_cases c2 : w.log.length ≤ 60
  rotate_left
  · have c2' : ¬ (w.log.length : Int) ≤ 60 := by omega
    simp -implicitDefEqProofs [b4, c1', c2', c2, isWorld, isWorldC]
  have c2' : (w.log.length : Int) ≤ 60 := by omega
  simp -implicitDefEqProofs [b4, c1', c2']
  refine callQ_of (hI _ _ _) ?_
  by_cases c3 : InR w.now 0 10000
  rotate_left
  · simp -implicitDefEqProofs [b4, c1', c2', c3, isWorld, isWorldC]
  simp -implicitDefEqProofs [b4, c1', c2', c3]
  refine callQ_of (hI _ _ _) ?_
  by_cases c4 : InR w.hurt 0 w.log.length
  rotate_left
  · simp -implicitDefEqProofs [b4, c1', c2', c3, c4, isWorld, isWorldC]
  simp -implicitDefEqProofs [b4, c1', c2', c3, c4]
  refine callQ_of (hI _ _ _) ?_
  have ec : isWorldC w = decide (InR w.reached 0 w.rollout.stages.length) := by unfold isWorldC; simp [c1, c2, c3, c4]
  have ee : isWorld w = isWorldC w := by unfold isWorld isWorldA isWorldB; rw [hq']; simp [a1, a2, a3, e1, b1, b2, b3, b4]
  simp -implicitDefEqProofs [ee, ec]
def zeroWorld : World := ⟨[], [], 0, [], ⟨0, [], 0, false⟩, 0, 0, [], [], 0, 0, 0⟩
def firstWorld (s t : List Int) (es : List Endpoint) (r : Rollout) : World := ⟨s, t, 77, es, r, 4, 25, [], [], 0, 0, 0⟩
def newWorld (s t : List Int) (es : List Endpoint) (r : Rollout) : World × Bool := if isWorld (firstWorld s t es r) = true then (firstWorld s t es r, true) else (zeroWorld, false)
abbrev NewWorldS (R : Rel) : Prop := ∀ (s t : List Int) (es : List Endpoint) (r : Rollout), szWorld (firstWorld s t es r) ≤ 4194304 → R [.sl 1 1 s.length (ints s), .sl 1 1 t.length (ints t), .sl 1 4 es.length (es.flatMap eEndpoint), arg (eRollout r)] [] (.tup [.agg (eWorld (newWorld s t es r).1), B (newWorld s t es r).2]) []
theorem first_sz (s t : List Int) (es : List Endpoint) (r : Rollout) : szWorld (firstWorld s t es r) = s.length + t.length + sumF szEndpoint es + szRollout r := by
  simp [szWorld, firstWorld, sumF]
theorem new_sz (s t : List Int) (es : List Endpoint) (r : Rollout) : szWorld (newWorld s t es r).1 ≤ s.length + t.length + sumF szEndpoint es + szRollout r := by
  unfold newWorld
  split
  · rw [first_sz]; omega
  · simp [szWorld, zeroWorld, sumF, szRollout]
theorem sNewWorld_b (D : Dn) (hC : cpWorldS (D gspec_l32Copy)) (hW : IsWorldS (D gspec_IsWorld)) : NewWorldS (Body D sspec_NewWorld) := by
  intro s t es r hsz
  simp -implicitDefEqProofs
  refine callQ_of (hC (firstWorld s t es r) hsz) ?_
  simp -implicitDefEqProofs [firstWorld]
  refine callQ_of (hW (firstWorld s t es r) hsz) ?_
  generalize hq : isWorld (firstWorld s t es r) = q
  by_cases h1 : q = true
  · have e : newWorld s t es r = (firstWorld s t es r, true) := by unfold newWorld; rw [if_pos (hq.trans h1)]
    simp -implicitDefEqProofs [h1, e, firstWorld]
  · have e : newWorld s t es r = (zeroWorld, false) := by unfold newWorld; rw [if_neg (by rw [hq]; exact h1)]
    simp -implicitDefEqProofs [h1, e, zeroWorld]
theorem iNewWorld_b (D : Dn) (hC : cpWorldS (D gimpl_copyWorld)) (hW : IsWorldS (D gimpl_IsWorld)) : NewWorldS (Body D simpl_NewWorld) := by
  intro s t es r hsz
  simp -implicitDefEqProofs
  refine callQ_of (hC (firstWorld s t es r) hsz) ?_
  simp -implicitDefEqProofs [firstWorld]
  refine callQ_of (hW (firstWorld s t es r) hsz) ?_
  generalize hq : isWorld (firstWorld s t es r) = q
  by_cases h1 : q = true
  · have e : newWorld s t es r = (firstWorld s t es r, true) := by unfold newWorld; rw [if_pos (hq.trans h1)]
    simp -implicitDefEqProofs [h1, e, firstWorld]
  · have e : newWorld s t es r = (zeroWorld, false) := by unfold newWorld; rw [if_neg (by rw [hq]; exact h1)]
    simp -implicitDefEqProofs [h1, e, zeroWorld]
end Go.Eng.T

namespace Go.Eng.T
set_option maxRecDepth 20000
set_option maxHeartbeats 1000000
/-- how many stand before the first that is not less -/
def posV : List Int → Int → Nat
  | [], _ => 0
  | x :: r, v => if x < v then posV r v + 1 else 0
theorem posV_le : ∀ (l : List Int) (v : Int), posV l v ≤ l.length
  | [], _ => Nat.le_refl 0
  | x :: r, v => by
    have := posV_le r v
    simp only [posV, List.length_cons]
    split <;> omega
theorem posV_step {l : List Int} {v : Int} {j : Nat} (h : j < l.length) (hv : l[j] < v) : posV (l.drop j) v = posV (l.drop (j + 1)) v + 1 := by
  rw [List.drop_eq_getElem_cons h]
  simp only [posV, if_pos hv]
theorem posV_stop {l : List Int} {v : Int} {j : Nat} (h : j < l.length) (hv : ¬ l[j] < v) : posV (l.drop j) v = 0 := by
  rw [List.drop_eq_getElem_cons h]
  simp only [posV, if_neg hv]
theorem posV_end {l : List Int} {v : Int} {j : Nat} (h : l.length ≤ j) : posV (l.drop j) v = 0 := by rw [List.drop_eq_nil_of_le h]; rfl
def insV (l : List Int) (i : Nat) (v : Int) : List Int := l.take i ++ v :: l.drop i
theorem insV_len {l : List Int} {i : Nat} {v : Int} (h : i ≤ l.length) : (insV l i v).length = l.length + 1 := by simp [insV]; omega
def putV (l : List Int) (v : Int) : List Int := if l[posV l v]? = some v then l else insV l (posV l v) v
theorem putV_len (l : List Int) (v : Int) : (putV l v).length ≤ l.length + 1 := by
  unfold putV
  split
  · omega
  · rw [insV_len (posV_le l v)]; omega
abbrev l4PutS (R : Rel) : Prop := ∀ (l : List Int) (v : Int), l.length ≤ 4194304 → R [.sl 1 1 l.length (ints l), I v] [] (.sl 0 1 (putV l v).length (ints (putV l v))) []
abbrev withVersionS (R : Rel) : Prop := ∀ (l : List Int) (v : Int), l.length ≤ 4194304 → R [.arr 0, I v] [.arr 1 0 l.length (ints l)] (.sl 0 1 (putV l v).length (ints (putV l v))) [.dead]
abbrev InsertS (R : Rel) : Prop := ∀ (l : List Int) (i : Nat) (v : Int), l.length ≤ 4194304 → i ≤ l.length → R [.arr 0, I i, .arr 1] [.arr 1 0 l.length (ints l), .arr 1 0 1 (ints [v])] (.sl 0 1 (insV l i v).length (ints (insV l i v))) [.dead, .dead]
theorem l4Put_b (D : Dn) : l4PutS (Body D sspec_l4Put) := by
  intro l v hl
  simp -implicitDefEqProofs
  refine swp_loop (fun k s => ∃ j, j + k = l.length ∧ posV l v = j + posV (l.drop j) v ∧ s = ⟨[.sl 1 1 l.length (ints l), I v, .undef, I j, .undef, .undef], [.free, .free, .free, .free, .free, .free, .free]⟩) ?_ (l.length) _ ⟨0, by simp, by simp, by simp⟩
  intro k s ⟨j, hj, hp, hs⟩
  subst hs
  by_cases hjn : j < l.length
  · have hw : IntKind.i64.wrap ((j : Int) + 1) = (j + 1 : Nat) := by rw [wrap_id (by omega) (by omega)]; simp
    by_cases hv : l[j] < v
    · have hst := posV_step hjn hv
      simp -implicitDefEqProofs [hjn, hv]
      exact ⟨k - 1, by omega, j + 1, by omega, by omega, by simp [hw]⟩
    · have hst := posV_stop hjn hv
      have hpe : posV l v = j := by omega
      have b1 : l.length * 8 ≤ 1099511627776 := by omega
      have b2 : j * 8 ≤ 1099511627776 := by omega
      have b3 : (j + 1) * 8 ≤ 1099511627776 := by omega
      have b4 : (j + 1 + (l.length - j)) * 8 ≤ 1099511627776 := by omega
      have hjl : j ≤ l.length := by omega
      have hjl' : (j : Int) ≤ l.length := by omega
      have hmin : min j l.length = j := by omega
      have htk : List.take (l.length - j) (List.drop j l) = List.drop j l := List.take_of_length_le (by simp)
      by_cases he : l[j] = v
      · have e : putV l v = l := by unfold putV; rw [hpe, List.getElem?_eq_getElem hjn, he, if_pos rfl]
        rw [e]
        simp -implicitDefEqProofs [hjn, hv, he, b1]
      · have e : putV l v = l.take j ++ v :: l.drop j := by unfold putV insV; rw [hpe, List.getElem?_eq_getElem hjn, if_neg (by simpa using he)]
        have el : (putV l v).length = j + 1 + (l.length - j) := by rw [e]; simp; omega
        simp -implicitDefEqProofs [hjn, hv, he, hjl, hjl', hmin, b2, b3, b4]
        rw [el, e]
        simp [htk, ints_app]
  · have hst := posV_end (v := v) (l := l) (j := j) (by omega)
    have hpe : posV l v = j := by omega
    have b1 : l.length * 8 ≤ 1099511627776 := by omega
    have b2 : j * 8 ≤ 1099511627776 := by omega
    have b3 : (j + 1) * 8 ≤ 1099511627776 := by omega
    have b4 : (j + 1 + (l.length - j)) * 8 ≤ 1099511627776 := by omega
    have hjl : j ≤ l.length := by omega
    have hjl' : (j : Int) ≤ l.length := by omega
    have hmin : min j l.length = j := by omega
    have htk : List.take (l.length - j) (List.drop j l) = List.drop j l := List.take_of_length_le (by simp)
    have e : putV l v = l.take j ++ v :: l.drop j := by unfold putV insV; rw [hpe, List.getElem?_eq_none (by omega), if_neg (by simp)]
    have el : (putV l v).length = j + 1 + (l.length - j) := by rw [e]; simp; omega
    simp -implicitDefEqProofs [hjn, hjl, hjl', hmin, b2, b3, b4]
    rw [el, e]
    simp [htk, ints_app]
end Go.Eng.T

namespace Go.Eng.T
set_option maxRecDepth 20000
set_option maxHeartbeats 1000000
def modI (p q : Int) : Int := if InQ q 1 1000000000000 then (p.tmod q + q).tmod q else 0
abbrev ModS (R : Rel) : Prop := ∀ p q : Int, R [I p, I q] [] (I (modI p q)) []
theorem tmod_bd (p : Int) {q : Int} (h : 1 ≤ q) : -q < p.tmod q ∧ p.tmod q < q := by
  have h1 := Int.tmod_lt_of_pos p (show 0 < q by omega)
  have h2 := Int.lt_tmod_of_pos p (show 0 < q by omega)
  omega
theorem sMod_b (D : Dn) (hI : InS (D gspec_l1In)) : ModS (Body D sspec_Mod) := by
  intro p q
  simp -implicitDefEqProofs
  refine callQ_of (hI _ _ _) ?_
  by_cases h : InQ q 1 1000000000000
  rotate_left
  · simp -implicitDefEqProofs [h, modI]
  have h0 : ¬ q = 0 := by omega
  have hb := tmod_bd p (q := q) (by omega)
  have hw : IntKind.i64.wrap (p.tmod q + q) = p.tmod q + q := wrap_id (by omega) (by omega)
  have e : modI p q = (p.tmod q + q).tmod q := by unfold modI; rw [if_pos h]
  simp -implicitDefEqProofs [h, h0, hw, e]
theorem modI_bd (p : Int) {q : Int} (h : InQ q 1 1000000000000) : 0 ≤ modI p q ∧ modI p q < q := by
  unfold modI
  rw [if_pos h]
  have hb := tmod_bd p (q := q) (by omega)
  have h1 := Int.tmod_nonneg q (show 0 ≤ p.tmod q + q by omega)
  have h2 := Int.tmod_lt_of_pos (p.tmod q + q) (show 0 < q by omega)
  exact ⟨h1, h2⟩
def hashGo (s v : Int) : Int := (s * 1000003 + modI v 2147483647 + 13).tmod 2147483647
def hash (xs : List Int) : Int := xs.foldl hashGo 11
abbrev HashS (R : Rel) : Prop := ∀ xs : List Int, xs.length ≤ maxLen → R [.sl 1 1 xs.length (ints xs)] [] (I (hash xs)) []
theorem hashGo_bd {s v : Int} (h : 0 ≤ s) : 0 ≤ hashGo s v ∧ hashGo s v < 2147483647 := by
  have hm := modI_bd v (q := 2147483647) ⟨by omega, by omega⟩
  unfold hashGo
  exact ⟨Int.tmod_nonneg _ (by omega), Int.tmod_lt_of_pos _ (by omega)⟩
theorem fold_step {α : Type} {f : α → Int → α} {xs : List Int} {j : Nat} {a : α} (h : j < xs.length) : (xs.take (j + 1)).foldl f a = f ((xs.take j).foldl f a) xs[j] := by
  have e : xs.take (j + 1) = xs.take j ++ [xs[j]] := by simp
  rw [e, List.foldl_append]; rfl
theorem hash_bd : ∀ (xs : List Int) {a : Int}, 0 ≤ a → a < 2147483647 → 0 ≤ xs.foldl hashGo a ∧ xs.foldl hashGo a < 2147483647
  | [], a, h1, h2 => ⟨h1, h2⟩
  | x :: xs, a, h1, h2 => by
    have := hashGo_bd (s := a) (v := x) h1
    exact hash_bd xs this.1 this.2
theorem sHash_b (D : Dn) (hM : ModS (D gspec_Mod)) : HashS (Body D sspec_Hash) := by
  intro xs hl
  unfold maxLen at hl
  simp -implicitDefEqProofs
  refine swp_loop (fun k s => ∃ j, j + k = xs.length ∧ s = ⟨[.sl 1 1 xs.length (ints xs), .undef, I ((xs.take j).foldl hashGo 11), I j, .undef], []⟩) ?_ (xs.length) _ ⟨0, by simp, by simp⟩
  intro k s ⟨j, hj, hs⟩
  subst hs
  by_cases hjn : j < xs.length
  · have hw : IntKind.i64.wrap ((j : Int) + 1) = (j + 1 : Nat) := by rw [wrap_id (by omega) (by omega)]; simp
    have hst := fold_step (f := hashGo) (a := (11 : Int)) hjn
    have hb := hash_bd (xs.take j) (a := 11) (by omega) (by omega)
    generalize (xs.take j).foldl hashGo 11 = s at hst hb
    have hm := modI_bd xs[j] (q := 2147483647) ⟨by omega, by omega⟩
    have w1 : IntKind.i64.wrap (s * 1000003) = s * 1000003 := wrap_id (by omega) (by omega)
    have w2 : IntKind.i64.wrap (s * 1000003 + modI xs[j] 2147483647) = s * 1000003 + modI xs[j] 2147483647 := wrap_id (by omega) (by omega)
    have w3 : IntKind.i64.wrap (s * 1000003 + modI xs[j] 2147483647 + 13) = s * 1000003 + modI xs[j] 2147483647 + 13 := wrap_id (by omega) (by omega)
    simp -implicitDefEqProofs [hjn, w1]
    refine callQ_of (hM _ _) ?_
    simp -implicitDefEqProofs [w1, w2, w3]
    exact ⟨k - 1, by omega, j + 1, by omega, by rw [hst]; rfl, by simp [hw]⟩
  · have e : xs.take j = xs := List.take_of_length_le (by omega)
    simp -implicitDefEqProofs [hjn, e, hash]
def keyed (k : Int) (xs : List Int) : Int := hash (k :: xs ++ [k])
abbrev KeyedS (R : Rel) : Prop := ∀ (k : Int) (xs : List Int), xs.length ≤ 4194304 → R [I k, .sl 1 1 xs.length (ints xs)] [] (I (keyed k xs)) []
theorem ints_cons (a : Int) (xs : List Int) : V.sc (.int .i64 a) :: ints xs = ints (a :: xs) := rfl
theorem sKeyed_b (D : Dn) (hH : HashS (D gspec_Hash)) : KeyedS (Body D sspec_KeyedHash) := by
  intro k xs hl
  have b1 : (1 + xs.length) * 8 ≤ 1099511627776 := by omega
  have b2 : (1 + xs.length + 1) * 8 ≤ 1099511627776 := by omega
  have hlen : (k :: xs ++ [k]).length = 1 + xs.length + 1 := by simp; omega
  simp -implicitDefEqProofs [b1, b2]
  have hh := hH (k :: xs ++ [k]) (by unfold maxLen; omega)
  rw [hlen] at hh
  simp -implicitDefEqProofs [ints_cons] at hh
  simp -implicitDefEqProofs [ints_cons]
  refine callQ_of (hh) ?_
  simp -implicitDefEqProofs [keyed]
def pick (seed p n : Int) : Int := if n < 1 then 0 else modI (hash [seed, p]) n
abbrev PickS (R : Rel) : Prop := ∀ seed p n : Int, R [I seed, I p, I n] [] (I (pick seed p n)) []
theorem sPick_b (D : Dn) (hH : HashS (D gspec_Hash)) (hM : ModS (D gspec_Mod)) : PickS (Body D sspec_PickOf) := by
  intro seed p n
  by_cases h : n < 1
  · simp -implicitDefEqProofs [h, pick]
  simp -implicitDefEqProofs [h]
  refine callQ_of (hH [seed, p] (by unfold maxLen; simp)) ?_
  simp -implicitDefEqProofs
  refine callQ_of (hM _ _) ?_
  simp -implicitDefEqProofs [pick, h]
theorem pick_bd (seed p : Int) {n : Int} (h : InQ n 1 1000000000000) : 0 ≤ pick seed p n ∧ pick seed p n < n := by
  unfold pick
  rw [if_neg (by omega)]
  exact modI_bd _ h
def greaseTag (seed : Int) : Int := 16 * pick seed 0 16 + 10
abbrev GreaseTagS (R : Rel) : Prop := ∀ seed : Int, R [I seed] [] (I (greaseTag seed)) []
theorem sGreaseTag_b (D : Dn) (hP : PickS (D gspec_PickOf)) : GreaseTagS (Body D sspec_GreaseTag) := by
  intro seed
  simp -implicitDefEqProofs
  refine callQ_of (hP _ _ _) ?_
  have hb := pick_bd seed 0 (n := 16) ⟨by omega, by omega⟩
  have w1 : IntKind.i64.wrap (16 * pick seed 0 16) = 16 * pick seed 0 16 := wrap_id (by omega) (by omega)
  have w2 : IntKind.i64.wrap (16 * pick seed 0 16 + 10) = 16 * pick seed 0 16 + 10 := wrap_id (by omega) (by omega)
  simp -implicitDefEqProofs [w1, w2, greaseTag]
def isTrans (ls : List (List Int)) : Bool := decide (ls.length ≤ 12) && ls.all fun l => allIn l 0 255
abbrev IsTransS (R : Rel) : Prop := ∀ ls : List (List Int), szRows ls ≤ 4194304 → R [rowsA ls] [] (B (isTrans ls)) []
theorem sIsTrans_b (D : Dn) (hB : l9ByteS (D gspec_l9Byte)) : IsTransS (Body D sspec_IsTranscript) := by
  intro ls hl
  have hll := rows_len (xs := ls)
  simp -implicitDefEqProofs
  refine swp_loop (fun k s => ∃ j, j + k = ls.length ∧ (ls.take j).all (fun l => allIn l 0 255) = true ∧ s = ⟨[rowsA ls, .undef, I j, .undef, .undef], []⟩) ?_ (ls.length) _ ⟨0, by simp, by simp, by simp⟩
  intro k s ⟨j, hj, hp, hs⟩
  subst hs
  by_cases hjn : j < ls.length
  · have hw : IntKind.i64.wrap ((j : Int) + 1) = (j + 1 : Nat) := by rw [wrap_id (by omega) (by omega)]; simp
    have hst := all_step (p := fun l => allIn l 0 255) hjn
    rw [hp, Bool.true_and] at hst
    have hra := rows_at hjn
    simp -implicitDefEqProofs [hjn]
    refine callQ_of (hB _ (by unfold maxLen; omega)) ?_
    by_cases h1 : allIn ls[j] 0 255 = true
    · simp -implicitDefEqProofs [h1]
      exact ⟨k - 1, by omega, j + 1, by omega, by simpa using hst.trans h1, by simp [hw]⟩
    · have e : isTrans ls = false := by unfold isTrans; rw [all_here hjn (by simpa using h1)]; simp
      simp -implicitDefEqProofs [h1, e]
  · have e : isTrans ls = decide (ls.length ≤ 12) := by unfold isTrans; rw [← all_all (j := j) (by omega), hp]; simp
    by_cases h5 : ls.length ≤ 12
    · have h5' : (ls.length : Int) ≤ 12 := by omega
      simp -implicitDefEqProofs [hjn, e, h5, h5']
    · have h5' : ¬ (ls.length : Int) ≤ 12 := by omega
      simp -implicitDefEqProofs [hjn, e, h5, h5']
abbrev IsTrans1S (R : Rel) : Prop := ∀ l : List Int, l.length ≤ maxLen → R [.sl 1 1 l.length (ints l)] [] (B (!allIn l 0 255)) []
def transGo (x : Int) (b : List Int) : Int := hash (x :: (b.length : Int) :: b)
def transHash (ls : List (List Int)) : Int := if isTrans ls = true then ls.foldl transGo 1 else 0
abbrev TransHashS (R : Rel) : Prop := ∀ ls : List (List Int), szRows ls ≤ 4194304 → R [rowsA ls] [] (I (transHash ls)) []
theorem foldR_step {α β : Type} {f : α → β → α} {xs : List β} {j : Nat} {a : α} (h : j < xs.length) : (xs.take (j + 1)).foldl f a = f ((xs.take j).foldl f a) xs[j] := by
  have e : xs.take (j + 1) = xs.take j ++ [xs[j]] := by simp
  rw [e, List.foldl_append]; rfl
theorem sTransHash_b (D : Dn) (hT : IsTransS (D gspec_IsTranscript)) (hH : HashS (D gspec_Hash)) : TransHashS (Body D sspec_TranscriptHash) := by
  intro ls hl
  have hll := rows_len (xs := ls)
  simp -implicitDefEqProofs
  refine callQ_of (hT ls hl) ?_
  by_cases h1 : isTrans ls = true
  rotate_left
  · simp -implicitDefEqProofs [h1, transHash]
  simp -implicitDefEqProofs [h1]
  refine swp_loop (fun k s => ∃ j o0 o1, j + k = ls.length ∧ s = ⟨[rowsA ls, .undef, I ((ls.take j).foldl transGo 1), I j, .undef, .undef], [o0, o1]⟩) ?_ (ls.length) _ ⟨0, .free, .free, by simp, by simp⟩
  intro k s ⟨j, o0, o1, hj, hs⟩
  subst hs
  by_cases hjn : j < ls.length
  · have hw : IntKind.i64.wrap ((j : Int) + 1) = (j + 1 : Nat) := by rw [wrap_id (by omega) (by omega)]; simp
    have hst := foldR_step (f := transGo) (a := (1 : Int)) hjn
    have hra := rows_at hjn
    have b1 : (2 + ls[j].length) * 8 ≤ 1099511627776 := by omega
    generalize (ls.take j).foldl transGo 1 = x at hst
    have hh := hH (x :: (ls[j].length : Int) :: ls[j]) (by unfold maxLen; simp; omega)
    have hlen : (x :: (ls[j].length : Int) :: ls[j]).length = 2 + ls[j].length := by simp; omega
    rw [hlen] at hh
    simp only [← ints_cons] at hh
    simp -implicitDefEqProofs [hjn, b1]
    refine callQ_of (hh) ?_
    simp -implicitDefEqProofs
    exact ⟨k - 1, by omega, j + 1, by omega, by rw [hst]; rfl, by simp [hw]⟩
  · have e : ls.take j = ls := List.take_of_length_le (by omega)
    have e2 : transHash ls = ls.foldl transGo 1 := by unfold transHash; rw [if_pos h1]
    simp -implicitDefEqProofs [hjn, e, e2]
def finishOf (k : Int) (ls : List (List Int)) (side : Int) : Int := if validKey k && (isTrans ls && decide (InQ side 0 1)) then keyed k [side, transHash ls] else 0
abbrev FinishS (R : Rel) : Prop := ∀ (k : Int) (ls : List (List Int)) (side : Int), szRows ls ≤ 4194304 → R [I k, rowsA ls, I side] [] (I (finishOf k ls side)) []
theorem sFinish_b (D : Dn) (hV : ValidKeyS (D gspec_IsValidKey)) (hT : IsTransS (D gspec_IsTranscript)) (hI : InS (D gspec_l1In)) (hH : TransHashS (D gspec_TranscriptHash)) (hK : KeyedS (D gspec_KeyedHash)) : FinishS (Body D sspec_FinishOf) := by
  intro k ls side hl
  simp -implicitDefEqProofs
  refine callQ_of (hV k) ?_
  by_cases h1 : validKey k = true
  rotate_left
  · simp -implicitDefEqProofs [h1, finishOf]
  simp -implicitDefEqProofs [h1]
  refine callQ_of (hT ls hl) ?_
  by_cases h2 : isTrans ls = true
  rotate_left
  · simp -implicitDefEqProofs [h2, finishOf]
  simp -implicitDefEqProofs [h2]
  refine callQ_of (hI _ _ _) ?_
  by_cases h3 : InQ side 0 1
  rotate_left
  · simp -implicitDefEqProofs [h3, finishOf]
  simp -implicitDefEqProofs [h3]
  refine callQ_of (hH ls hl) ?_
  simp -implicitDefEqProofs
  refine callQ_of (hK k [side, transHash ls] (by simp)) ?_
  simp -implicitDefEqProofs [finishOf, h1, h2, h3]
def checksOut (k : Int) (ls : List (List Int)) (side f : Int) : Bool := !decide (f = 0) && decide (f = finishOf k ls side)
abbrev ChecksOutS (R : Rel) : Prop := ∀ (k : Int) (ls : List (List Int)) (side f : Int), szRows ls ≤ 4194304 → R [I k, rowsA ls, I side, I f] [] (B (checksOut k ls side f)) []
end Go.Eng.T

namespace Go.Eng.T
set_option maxRecDepth 20000
set_option maxHeartbeats 1000000
theorem exts_len6 {l : List Ext} (h : areExts l = true) : l.length ≤ 6 := by
  unfold areExts at h
  simp only [Bool.and_eq_true, decide_eq_true_eq] at h
  exact h.2
theorem exts_ok {l : List Ext} (h : areExts l = true) {j : Nat} (hj : j < l.length) : newTag l j = true := by
  unfold areExts at h
  simp only [Bool.and_eq_true] at h
  exact allTo_iff.1 h.1 j hj
theorem exts_body4 {l : List Ext} (h : areExts l = true) {j : Nat} (hj : j < l.length) : l[j].body.length ≤ 4 := by
  have := exts_ok h hj
  rw [newTag_at hj] at this
  unfold okExt at this
  simp only [Bool.and_eq_true, decide_eq_true_eq] at this
  exact this.1.2.1
def encE (x : Ext) : List Int := x.tag :: (x.body.length : Int) :: x.body
def encTo (l : List Ext) (j : Nat) : List Int := (l.length : Int) :: (l.take j).flatMap encE
theorem encTo_step {l : List Ext} {j : Nat} (h : j < l.length) : encTo l (j + 1) = encTo l j ++ ([l[j].tag, (l[j].body.length : Int)] ++ l[j].body) := by
  have e : l.take (j + 1) = l.take j ++ [l[j]] := by simp
  unfold encTo
  rw [e, List.flatMap_append]
  simp [encE]
theorem encTo_len {l : List Ext} (h : areExts l = true) : ∀ j, j ≤ l.length → (encTo l j).length ≤ 1 + 6 * j
  | 0, _ => by simp [encTo]
  | j + 1, hj => by
    have ih := encTo_len h j (by omega)
    have hb := exts_body4 h (j := j) (by omega)
    rw [encTo_step (by omega)]
    simp only [List.length_append, List.length_cons, List.length_nil]
    omega
def encExts (l : List Ext) : List Int × Bool := if areExts l = true then (encTo l l.length, true) else ([], false)
abbrev EncodeExtsS (R : Rel) : Prop := ∀ l : List Ext, exB l → R [.sl 1 2 l.length (l.flatMap eExt)] [] (.tup [.sl 0 1 (encExts l).1.length (ints (encExts l).1), B (encExts l).2]) []
theorem sEncodeExts_b (D : Dn) (hA : AreExtsS (D gspec_AreExts)) : EncodeExtsS (Body D sspec_EncodeExts) := by
  intro l hl
  have hll := hl.1
  simp -implicitDefEqProofs
  refine callQ_of (hA l hl) ?_
  by_cases h1 : areExts l = true
  rotate_left
  · have e : encExts l = ([], false) := by unfold encExts; rw [if_neg h1]
    simp -implicitDefEqProofs [h1, e]
  simp -implicitDefEqProofs [h1]
  refine swp_loop (fun k s => ∃ j o2 o3 o4, j + k = l.length ∧ s = ⟨[.sl 1 2 l.length (l.flatMap eExt), .undef, .undef, .arr 5, I j, .undef, .undef], [.free, .free, o2, o3, o4, .arr 1 0 (encTo l j).length (ints (encTo l j))]⟩) ?_ (l.length) _ ⟨0, .free, .free, .free, by simp, by simp [encTo, ints]⟩
  intro k s ⟨j, o2, o3, o4, hj, hs⟩
  subst hs
  by_cases hjn : j < l.length
  · have hw : IntKind.i64.wrap ((j : Int) + 1) = (j + 1 : Nat) := by rw [wrap_id (by omega) (by omega)]; simp
    have hst := encTo_step hjn
    have hle := encTo_len h1 j (by omega)
    have h6 := exts_len6 h1
    have hb4 := exts_body4 h1 hjn
    have b1 : ((encTo l j).length + 2) * 8 ≤ 1099511627776 := by omega
    have b2 : ((encTo l j).length + 2 + l[j].body.length) * 8 ≤ 1099511627776 := by omega
    simp -implicitDefEqProofs [hjn, b1, b2]
    exact ⟨k - 1, by omega, j + 1, by omega, by simp [hw], by rw [hst]; simp; omega, by rw [hst]; simp [ints]⟩
  · obtain rfl : j = l.length := by omega
    have e : encExts l = (encTo l l.length, true) := by unfold encExts; rw [if_pos h1]
    simp -implicitDefEqProofs [e]
theorem encExts_len (l : List Ext) : (encExts l).1.length ≤ 37 := by
  unfold encExts
  split
  · rename_i h
    have := encTo_len h l.length (Nat.le_refl _)
    have := exts_len6 h
    dsimp only; omega
  · simp
def helloBytes (h : Hello) : List Int := if isHello h = true then ((h.versions.length : Int) :: h.versions) ++ (encExts h.exts).1 else []
abbrev HelloBytesS (R : Rel) : Prop := ∀ h : Hello, hB h → R [arg (eHello h)] [] (.sl 0 1 (helloBytes h).length (ints (helloBytes h))) []
theorem hello_ver {h : Hello} (hh : isHello h = true) : areVers h.versions = true := by unfold isHello at hh; simp only [Bool.and_eq_true] at hh; exact hh.1
theorem hello_ext {h : Hello} (hh : isHello h = true) : areExts h.exts = true := by unfold isHello at hh; simp only [Bool.and_eq_true] at hh; exact hh.2
theorem helloBytes_len {h : Hello} (hh : hB h) : (helloBytes h).length ≤ h.versions.length + 38 := by
  unfold helloBytes
  have := encExts_len h.exts
  split
  · simp only [List.length_append, List.length_cons]; omega
  · simp
theorem sHelloBytes_b (D : Dn) (hI : IsHelloS (D gspec_IsHello)) (hE : EncodeExtsS (D gspec_EncodeExts)) : HelloBytesS (Body D sspec_HelloBytes) := by
  intro h hh
  have hv := hh.1
  simp -implicitDefEqProofs
  refine callQ_of (hI h hh) ?_
  by_cases h1 : isHello h = true
  rotate_left
  · simp -implicitDefEqProofs [h1, helloBytes]
  have hl := encExts_len h.exts
  have e : helloBytes h = ((h.versions.length : Int) :: h.versions) ++ (encExts h.exts).1 := by unfold helloBytes; rw [if_pos h1]
  rw [e]
  simp -implicitDefEqProofs [h1]
  refine callQ_of (hE h.exts hh.2) ?_
  generalize (encExts h.exts).1 = r at hl
  have b1 : (1 + h.versions.length) * 8 ≤ 1099511627776 := by omega
  have b2 : (1 + h.versions.length + r.length) * 8 ≤ 1099511627776 := by omega
  have el : h.versions.length + r.length + 1 = 1 + h.versions.length + r.length := by omega
  simp -implicitDefEqProofs [b1, b2, ints_cons, ints_app, el]
def isAnswer (a : Answer) : Bool := decide (InV a.version 1 9) && areExts a.exts
def answerBytes (a : Answer) : List Int := if isAnswer a = true then a.version :: (encExts a.exts).1 else []
abbrev IsAnswerS (R : Rel) : Prop := ∀ a : Answer, exB a.exts → R [arg (eAnswer a)] [] (B (isAnswer a)) []
theorem sIsAnswer_b (D : Dn) (hI : InS (D gspec_l1In)) (hE : AreExtsS (D gspec_AreExts)) : IsAnswerS (Body D sspec_IsAnswer) := by
  intro a ha
  simp -implicitDefEqProofs
  refine callQ_of (hI _ _ _) ?_
  by_cases h1 : InV a.version 1 9
  rotate_left
  · simp -implicitDefEqProofs [h1, isAnswer]
  simp -implicitDefEqProofs [h1]
  refine callQ_of (hE _ ha) ?_
  simp -implicitDefEqProofs [isAnswer, h1]
abbrev AnswerBytesS (R : Rel) : Prop := ∀ a : Answer, exB a.exts → R [arg (eAnswer a)] [] (.sl 0 1 (answerBytes a).length (ints (answerBytes a))) []
theorem answerBytes_len (a : Answer) : (answerBytes a).length ≤ 38 := by
  unfold answerBytes
  have := encExts_len a.exts
  split
  · simp only [List.length_cons]; omega
  · simp
theorem sAnswerBytes_b (D : Dn) (hI : IsAnswerS (D gspec_IsAnswer)) (hE : EncodeExtsS (D gspec_EncodeExts)) : AnswerBytesS (Body D sspec_AnswerBytes) := by
  intro a ha
  simp -implicitDefEqProofs
  refine callQ_of (hI a ha) ?_
  by_cases h1 : isAnswer a = true
  rotate_left
  · have e : answerBytes a = [] := by unfold answerBytes; rw [if_neg h1]
    simp -implicitDefEqProofs [h1, e]
  have hl := encExts_len a.exts
  have e : answerBytes a = a.version :: (encExts a.exts).1 := by unfold answerBytes; rw [if_pos h1]
  rw [e]
  simp -implicitDefEqProofs [h1]
  refine callQ_of (hE a.exts ha) ?_
  generalize (encExts a.exts).1 = r at hl
  have b2 : (1 + r.length) * 8 ≤ 1099511627776 := by omega
  have el : r.length + 1 = 1 + r.length := by omega
  simp -implicitDefEqProofs [b2, ints_cons, el]
def fitX (h : Hello) (x : Ext) : Bool := decide (x.tag ∈ tagsOf h.exts) && !isReserved x.tag
def fitsHello (h : Hello) (a : Answer) : Bool := isHello h && (isAnswer a && (decide (a.version ∈ h.versions) && a.exts.all (fitX h)))
abbrev FitsHelloS (R : Rel) : Prop := ∀ (h : Hello) (a : Answer), hB h → exB a.exts → R [arg (eHello h), arg (eAnswer a)] [] (B (fitsHello h a)) []
theorem idxP_neg {α : Type} {p : α → Bool} {xs : List α} {i : Int} (h : 0 ≤ i) : (idxP p xs i < 0) = ¬ (xs.any p = true) := by
  have := idxP_ge (p := p) (xs := xs) h
  rw [← this]
  exact propext ⟨fun h => by omega, fun h => by omega⟩
theorem any_tag (l : List Ext) (t : Int) : l.any (hasTag t) = decide (t ∈ tagsOf l) := by
  rw [Bool.eq_iff_iff]
  simp only [List.any_eq_true, decide_eq_true_eq, tagsOf, List.mem_map, hasTag]
theorem extOf_neg (l : List Ext) (t : Int) : (extOf l t < 0) = ¬ (t ∈ tagsOf l) := by
  unfold extOf
  rw [idxP_neg (by omega), any_tag]
  simp
theorem sFitsHello_b (D : Dn) (hX : ExtOfS (D gspec_ExtOf)) (hR : IsReservedS (D gspec_IsReserved)) (hI : IsHelloS (D gspec_IsHello)) (hA : IsAnswerS (D gspec_IsAnswer)) (hH : HasS (D gspec_l9Has)) : FitsHelloS (Body D sspec_FitsHello) := by
  intro h a hh ha
  have hal := ha.1
  have hxl := hh.2.1
  have hvl := hh.1
  simp -implicitDefEqProofs
  refine swp_loop (fun k s => ∃ j, j + k = a.exts.length ∧ (a.exts.take j).all (fitX h) = true ∧ s = ⟨[.undef, .undef, .ptr 0 0, .ptr 1 0, .undef, I j, .undef, .undef], [.var ((eHello h).map (roCell 1)), .var ((eAnswer a).map (roCell 1))]⟩) ?_ (a.exts.length) _ ⟨0, by simp, by simp, by simp⟩
  intro k s ⟨j, hj, hp, hs⟩
  subst hs
  by_cases hjn : j < a.exts.length
  · have hw : IntKind.i64.wrap ((j : Int) + 1) = (j + 1 : Nat) := by rw [wrap_id (by omega) (by omega)]; simp
    have hst := all_step (p := fitX h) hjn
    rw [hp, Bool.true_and] at hst
    simp -implicitDefEqProofs [hjn]
    refine callQ_of (hX h.exts _ (by unfold maxLen; omega)) ?_
    by_cases h1 : a.exts[j].tag ∈ tagsOf h.exts
    rotate_left
    · have e : fitsHello h a = false := by unfold fitsHello; rw [all_here hjn (by simp [fitX, h1])]; simp
      have h1' : extOf h.exts a.exts[j].tag < 0 := by rw [extOf_neg]; exact h1
      simp -implicitDefEqProofs [h1', e]
    have h1' : ¬ extOf h.exts a.exts[j].tag < 0 := by rw [extOf_neg]; simpa using h1
    simp -implicitDefEqProofs [h1', hjn]
    refine callQ_of (hR _) ?_
    by_cases h2 : isReserved a.exts[j].tag = true
    · have e : fitsHello h a = false := by unfold fitsHello; rw [all_here hjn (by simp [fitX, h2])]; simp
      simp -implicitDefEqProofs [h2, e]
    · simp -implicitDefEqProofs [h2]
      exact ⟨k - 1, by omega, j + 1, by omega, by simpa using hst.trans (show fitX h a.exts[j] = true by simp [fitX, h1, h2]), by simp [hw]⟩
  · have e : a.exts.all (fitX h) = true := by rw [← all_all (j := j) (by omega), hp]
    simp -implicitDefEqProofs [hjn]
    refine callQ_of (hI h hh) ?_
    by_cases g1 : isHello h = true
    rotate_left
    · simp -implicitDefEqProofs [g1, fitsHello]
    simp -implicitDefEqProofs [g1]
    refine callQ_of (hA a ha) ?_
    by_cases g2 : isAnswer a = true
    rotate_left
    · simp -implicitDefEqProofs [g2, fitsHello]
    simp -implicitDefEqProofs [g2]
    refine callQ_of (hH _ _ (by unfold maxLen; omega)) ?_
    have e2 : fitsHello h a = decide (a.version ∈ h.versions) := by unfold fitsHello; rw [e, g1, g2]; simp
    simp -implicitDefEqProofs [e2]
abbrev HasGreaseS (R : Rel) : Prop := ∀ l : List Ext, l.length ≤ 4194304 → R [.sl 1 2 l.length (l.flatMap eExt)] [] (B ((tagsOf l).any isReserved)) []
theorem fit_all (h : Hello) (a : Answer) : a.exts.all (fitX h) = (decide (leftOf (tagsOf a.exts) (tagsOf h.exts) = []) && !(tagsOf a.exts).any isReserved) := by
  have h1 : decide (leftOf (tagsOf a.exts) (tagsOf h.exts) = []) = a.exts.all fun x => decide (x.tag ∈ tagsOf h.exts) := by
    rw [Bool.eq_iff_iff, decide_eq_true_eq, List.all_eq_true]
    unfold leftOf
    rw [List.filter_eq_nil_iff]
    constructor
    · intro hp x hx
      have := hp x.tag (List.mem_map.2 ⟨x, hx, rfl⟩)
      simpa using this
    · intro hp v hv
      obtain ⟨x, hx, rfl⟩ := List.mem_map.1 hv
      simpa using hp x hx
  have h2 : (!(tagsOf a.exts).any isReserved) = a.exts.all fun x => !isReserved x.tag := by
    unfold tagsOf
    rw [List.any_map, List.all_eq_not_any_not]
    simp [Function.comp_def]
  rw [h1, h2]
  generalize a.exts = l
  induction l with
  | nil => rfl
  | cons x r ih =>
    simp only [List.all_cons, ih, fitX]
    generalize decide (x.tag ∈ tagsOf h.exts) = p1
    generalize isReserved x.tag = p2
    cases p1 <;> cases p2 <;> simp
def chooseAnswer (vs tags : List Int) (h : Hello) : Answer × Bool := if isHello h && !decide (bestCommon vs h.versions = 0) then (⟨bestCommon vs h.versions, stripG (knownOf h.exts tags)⟩, true) else (⟨0, []⟩, false)
abbrev ChooseS (R : Rel) : Prop := ∀ (vs tags : List Int) (h : Hello), vs.length ≤ 4194304 → tags.length ≤ 4194304 → hB h → R [.sl 1 1 vs.length (ints vs), .sl 1 1 tags.length (ints tags), arg (eHello h)] [] (.tup [.agg (eAnswer (chooseAnswer vs tags h).1), B (chooseAnswer vs tags h).2]) []
theorem sChoose_b (D : Dn) (hB' : BestCommonS (D gspec_BestCommon)) (hI : IsHelloS (D gspec_IsHello)) (hK : KnownOfS (D gspec_KnownOf)) (hS : StripGreaseS (D gspec_StripGrease)) : ChooseS (Body D sspec_ChooseAnswer) := by
  intro vs tags h hv ht hh
  simp -implicitDefEqProofs
  refine callQ_of (hB' vs h.versions hv hh.1) ?_
  simp -implicitDefEqProofs
  refine callQ_of (hI h hh) ?_
  by_cases h1 : isHello h = true
  rotate_left
  · simp -implicitDefEqProofs [h1, chooseAnswer]
  by_cases h2 : bestCommon vs h.versions = 0
  · simp -implicitDefEqProofs [h1, h2, chooseAnswer]
  have e : chooseAnswer vs tags h = (⟨bestCommon vs h.versions, stripG (knownOf h.exts tags)⟩, true) := by unfold chooseAnswer; rw [if_pos (by simp [h1, h2])]
  simp -implicitDefEqProofs [h1, h2]
  refine callQ_of (hK h.exts tags hh.2 (by unfold maxLen; omega)) ?_
  simp -implicitDefEqProofs
  refine callQ_of (hS (knownOf h.exts tags) (exB_kept hh.2 _)) ?_
  simp -implicitDefEqProofs [e]
theorem choose_exB {vs tags : List Int} {h : Hello} (hh : hB h) : exB (chooseAnswer vs tags h).1.exts := by
  unfold chooseAnswer
  split
  · show exB (stripG (knownOf h.exts tags))
    unfold stripG knownOf
    exact exB_kept (exB_kept hh.2 _) _
  · exact exB_nil
end Go.Eng.T

namespace Go.Eng.T
def slaws_big_r0 : Reg := { id := 0, ops := [{ op := .mv (.con (.sc (.bool false))) }], clr := [1] }
def slaws_big_r1 : Reg := { id := 1, ops := [{ op := .mv (.slot 0) },{ op := .len false (.loc 0) },{ op := .bin .gtr (.loc 1) (.con (.sc (.int .i64 1048576))) },{ op := .mv (.loc 2) }], sets := [(1, 3)], clr := [0] }
def slaws_big_b : SC := .seq (.reg slaws_big_r0) (.seq (.reg slaws_big_r1) (.ret))
def slaws_big : SFn := { nslots := 2, nobjs := 0, params := [0], ngiven := 0, bor := false, takes := [], body := slaws_big_b, results := [.slot 1] }
def slaws_big_t : List Tmp := [0, 2]
attribute [simp] slaws_big_r0 slaws_big_r1 slaws_big_b slaws_big
def simpl_EndVersions_r0 : Reg := { id := 0, ops := [{ op := .box 0 (.slot 0) },{ op := .mv (.con (.nil 1)) }], sets := [(2, 0)], clr := [0, 3] }
def simpl_EndVersions_r1 : Reg := { id := 1, ops := [{ op := .load (some 15) (.slot 2) },{ op := .mv (.slot 1) },{ op := .call 117 [(false, .loc 0), (false, .loc 1)] [] },{ op := .un .not (.loc 2) }], sets := [(4, 3)] }
def simpl_EndVersions_r2 : Reg := { id := 2, ops := [{ op := .mv (.con (.nil 1)) }], sets := [(3, 0)], clr := [1, 2] }
def simpl_EndVersions_r3 : Reg := { id := 3, ops := [{ op := .buildSlice 1 1 0 [] },{ op := .fieldAddr (.slot 2) 3 },{ op := .load none (.loc 1) },{ op := .mv (.slot 1) },{ op := .indexAddr 4 (.loc 2) (.loc 3) },{ op := .fieldAddr (.loc 4) 0 },{ op := .load none (.loc 5) },{ op := .append 2 1 8 false (.loc 0) (.loc 6) },{ op := .mv (.loc 7) }], sets := [(3, 8)], clr := [1, 2] }
def simpl_EndVersions_b : SC := .seq (.reg simpl_EndVersions_r0) (.seq (.seq (.reg simpl_EndVersions_r1) (.cond 4 (.seq (.reg simpl_EndVersions_r2) (.ret)) (.skip))) (.seq (.reg simpl_EndVersions_r3) (.ret)))
def simpl_EndVersions : SFn := { nslots := 5, nobjs := 3, params := [0, 1], ngiven := 0, bor := false, takes := [], body := simpl_EndVersions_b, results := [.slot 3] }
def simpl_EndVersions_t : List Tmp := [0, 1, 2, 4, 8]
attribute [simp] simpl_EndVersions_r0 simpl_EndVersions_r1 simpl_EndVersions_r2 simpl_EndVersions_r3 simpl_EndVersions_b simpl_EndVersions
def slaws_FnWorlds_r0 : Reg := { id := 0, ops := [{ op := .mv (.con (.sc (.bool false))) }], clr := [1] }
def slaws_FnWorlds_r1 : Reg := { id := 1, ops := [{ op := .mv (.slot 0) },{ op := .call 460 [(false, .loc 0)] [] }], sets := [(13, 1)] }
def slaws_FnWorlds_r2 : Reg := { id := 2, ops := [{ op := .mv (.con (.sc (.bool true))) }], sets := [(1, 0)], clr := [0] }
def slaws_FnWorlds_r3 : Reg := { id := 3, ops := [{ op := .mv (.slot 0) },{ op := .call 496 [(false, .loc 0)] [0, 1, 2, 3] },{ op := .mv (.loc 1) },{ op := .extract (.loc 2) 0 },{ op := .extract (.loc 2) 1 },{ op := .extract (.loc 2) 2 },{ op := .extract (.loc 2) 3 },{ op := .alloc 4 [.sc (.int .i64 0), .nil 1, .sc (.int .i64 0), .sc (.bool false)] },{ op := .mv (.loc 3) },{ op := .mv (.loc 4) },{ op := .mv (.loc 5) },{ op := .store 4 (.loc 7) (.loc 6) }], sets := [(2, 8), (3, 9), (4, 10), (5, 7)] }
def slaws_FnWorlds_r4 : Reg := { id := 4, ops := [{ op := .mv (.slot 2) },{ op := .mv (.slot 3) },{ op := .mv (.slot 4) },{ op := .load (some 4) (.slot 5) },{ op := .call 116 [(false, .loc 0), (false, .loc 1), (false, .loc 2), (false, .loc 3)] [5, 6, 7, 8, 9, 10] },{ op := .mv (.loc 4) },{ op := .extract (.loc 5) 0 },{ op := .extract (.loc 5) 1 },{ op := .alloc 11 [.nil 1, .nil 1, .sc (.int .i64 0), .nil 4, .sc (.int .i64 0), .nil 1, .sc (.int .i64 0), .sc (.bool false), .sc (.int .i64 0), .sc (.int .i64 0), .nil 5, .nil 8, .sc (.int .i64 0), .sc (.int .i64 0), .sc (.int .i64 0)] },{ op := .store 15 (.loc 8) (.loc 6) },{ op := .mv (.loc 7) }], sets := [(6, 8), (7, 10)], clr := [3, 5] }
def slaws_FnWorlds_r5 : Reg := { id := 5, ops := [{ op := .mv (.slot 7) },{ op := .mv (.loc 0) },{ op := .load (some 15) (.slot 6), guard := some (1, true) },{ op := .call 184 [(false, .loc 2)] [], guard := some (1, true) },{ op := .un .not (.loc 3), guard := some (1, true) },{ op := .mv (.loc 4), guard := some (1, true) },{ op := .mv (.slot 2), guard := some (5, false) },{ op := .load (some 15) (.slot 6), guard := some (5, false) },{ op := .call 123 [(false, .loc 7)] [12], guard := some (5, false) },{ op := .call 234 [(false, .loc 6), (false, .loc 8)] [], guard := some (5, false) },{ op := .un .not (.loc 9), guard := some (5, false) },{ op := .pick (.loc 5) (.con (.sc (.bool true))) (.loc 10), guard := some (1, true) },{ op := .mv (.loc 11), guard := some (1, true) },{ op := .load (some 15) (.slot 6), guard := some (12, false) },{ op := .call 123 [(false, .loc 13)] [13], guard := some (12, false) },{ op := .len false (.loc 14), guard := some (12, false) },{ op := .mv (.slot 4), guard := some (12, false) },{ op := .len false (.loc 16), guard := some (12, false) },{ op := .bin .neq (.loc 15) (.loc 17), guard := some (12, false) },{ op := .pick (.loc 12) (.con (.sc (.bool true))) (.loc 18), guard := some (1, true) },{ op := .pick (.loc 1) (.loc 19) (.con (.sc (.bool false))) }], sets := [(14, 20)], clr := [2, 4, 6, 7] }
def slaws_FnWorlds_r6 : Reg := { id := 6, ops := [{ op := .mv (.con (.sc (.bool false))) }], sets := [(1, 0)], clr := [0] }
def slaws_FnWorlds_r7 : Reg := { id := 7, ops := [{ op := .mv (.slot 0) },{ op := .call 497 [(false, .loc 0)] [14, 15, 16, 17, 18, 19] },{ op := .mv (.loc 1) },{ op := .extract (.loc 2) 0 },{ op := .extract (.loc 2) 1 },{ op := .alloc 20 [.nil 1, .nil 1, .sc (.int .i64 0), .nil 4, .sc (.int .i64 0), .nil 1, .sc (.int .i64 0), .sc (.bool false), .sc (.int .i64 0), .sc (.int .i64 0), .nil 5, .nil 8, .sc (.int .i64 0), .sc (.int .i64 0), .sc (.int .i64 0)] },{ op := .store 15 (.loc 5) (.loc 3) },{ op := .mv (.loc 4) }], sets := [(8, 5), (9, 7)] }
def slaws_FnWorlds_r8 : Reg := { id := 8, ops := [{ op := .load (some 15) (.slot 8) },{ op := .mv (.slot 9) },{ op := .call 470 [(false, .loc 0), (false, .loc 1)] [21] },{ op := .mv (.loc 2) }], sets := [(10, 3)] }
def slaws_FnWorlds_r9 : Reg := { id := 9, ops := [{ op := .mv (.slot 9) },{ op := .bin .geq (.loc 0) (.con (.sc (.int .i64 0))) },{ op := .mv (.loc 1) },{ op := .mv (.slot 9), guard := some (2, true) },{ op := .fieldAddr (.slot 8) 3, guard := some (2, true) },{ op := .load none (.loc 4), guard := some (2, true) },{ op := .len false (.loc 5), guard := some (2, true) },{ op := .bin .lss (.loc 3) (.loc 6), guard := some (2, true) },{ op := .pick (.loc 2) (.loc 7) (.con (.sc (.bool false))) },{ op := .mv (.loc 8) },{ op := .mv (.slot 10), guard := some (9, true) },{ op := .fieldAddr (.slot 8) 3, guard := some (9, true) },{ op := .load none (.loc 11), guard := some (9, true) },{ op := .mv (.slot 9), guard := some (9, true) },{ op := .indexAddr 4 (.loc 12) (.loc 13), guard := some (9, true) },{ op := .fieldAddr (.loc 14) 0, guard := some (9, true) },{ op := .load none (.loc 15), guard := some (9, true) },{ op := .call 498 [(false, .loc 10), (false, .loc 16)] [], guard := some (9, true) },{ op := .un .not (.loc 17), guard := some (9, true) },{ op := .pick (.loc 9) (.loc 18) (.con (.sc (.bool false))) }], sets := [(15, 19)], clr := [8, 9, 10] }
def slaws_FnWorlds_r10 : Reg := { id := 10, ops := [{ op := .mv (.con (.sc (.bool false))) }], sets := [(1, 0)], clr := [0] }
def slaws_FnWorlds_r11 : Reg := { id := 11, ops := [{ op := .mv (.slot 0) },{ op := .call 499 [(false, .loc 0)] [22, 23, 24, 25, 26, 27, 28, 29, 30, 31, 32, 33] },{ op := .mv (.loc 1) },{ op := .extract (.loc 2) 0 },{ op := .extract (.loc 2) 1 },{ op := .alloc 34 [.nil 1, .nil 1, .sc (.int .i64 0), .nil 4, .sc (.int .i64 0), .nil 1, .sc (.int .i64 0), .sc (.bool false), .sc (.int .i64 0), .sc (.int .i64 0), .nil 5, .nil 8, .sc (.int .i64 0), .sc (.int .i64 0), .sc (.int .i64 0)] },{ op := .alloc 35 [.nil 1, .nil 1, .sc (.int .i64 0), .nil 4, .sc (.int .i64 0), .nil 1, .sc (.int .i64 0), .sc (.bool false), .sc (.int .i64 0), .sc (.int .i64 0), .nil 5, .nil 8, .sc (.int .i64 0), .sc (.int .i64 0), .sc (.int .i64 0)] },{ op := .store 15 (.loc 5) (.loc 3) },{ op := .store 15 (.loc 6) (.loc 4) }], sets := [(11, 5), (12, 6)], clr := [0] }
def slaws_FnWorlds_r12 : Reg := { id := 12, draw := true, ops := [{ op := .load (some 15) (.slot 11), tau := some [34], om := [] },{ op := .load (some 15) (.slot 12), tau := some [35], om := [] },{ op := .call 500 [(false, .loc 0), (false, .loc 1)] [], tau := some [22, 23, 24, 25, 26, 27, 28, 29, 30, 31, 32, 33], om := [] },{ op := .load (some 15) (.slot 12), tau := some [35], om := [] },{ op := .load (some 15) (.slot 11), tau := some [34], om := [] },{ op := .call 500 [(false, .loc 3), (false, .loc 4)] [], tau := some [22, 23, 24, 25, 26, 27, 28, 29, 30, 31, 32, 33], om := [] },{ op := .beq false (.loc 2) (.loc 5), tau := some [], om := [] },{ op := .mv (.loc 6), tau := some [], om := [] },{ op := .load (some 15) (.slot 11), guard := some (7, true), tau := some [34], om := [] },{ op := .load (some 15) (.slot 11), guard := some (7, true), tau := some [34], om := [] },{ op := .call 500 [(false, .loc 8), (false, .loc 9)] [], guard := some (7, true), tau := some [22, 23, 24, 25, 26, 27], om := [] },{ op := .pick (.loc 7) (.loc 10) (.con (.sc (.bool false))), tau := some [], om := [] },{ op := .mv (.loc 11), tau := some [], om := [] }], sets := [(1, 12)], clr := [11, 12] }
def slaws_FnWorlds_b : SC := .seq (.reg slaws_FnWorlds_r0) (.seq (.seq (.reg slaws_FnWorlds_r1) (.cond 13 (.seq (.reg slaws_FnWorlds_r2) (.ret)) (.skip))) (.seq (.reg slaws_FnWorlds_r3) (.seq (.reg slaws_FnWorlds_r4) (.seq (.seq (.reg slaws_FnWorlds_r5) (.cond 14 (.seq (.reg slaws_FnWorlds_r6) (.ret)) (.skip))) (.seq (.reg slaws_FnWorlds_r7) (.seq (.reg slaws_FnWorlds_r8) (.seq (.seq (.reg slaws_FnWorlds_r9) (.cond 15 (.seq (.reg slaws_FnWorlds_r10) (.ret)) (.skip))) (.seq (.reg slaws_FnWorlds_r11) (.seq (.reg slaws_FnWorlds_r12) (.ret))))))))))
def slaws_FnWorlds : SFn := { nslots := 16, nobjs := 36, params := [0], ngiven := 0, bor := true, takes := [], body := slaws_FnWorlds_b, results := [.slot 1] }
def slaws_FnWorlds_t : List Tmp := [0, 2, 3, 4, 5, 6, 7, 8, 9, 10, 11, 12, 13, 15, 51, 79]
attribute [simp] slaws_FnWorlds_r0 slaws_FnWorlds_r1 slaws_FnWorlds_r2 slaws_FnWorlds_r3 slaws_FnWorlds_r4 slaws_FnWorlds_r5 slaws_FnWorlds_r6 slaws_FnWorlds_r7 slaws_FnWorlds_r8 slaws_FnWorlds_r9 slaws_FnWorlds_r10 slaws_FnWorlds_r11 slaws_FnWorlds_r12 slaws_FnWorlds_b slaws_FnWorlds
def simpl_EqualInts_r0 : Reg := { id := 0, ops := [{ op := .mv (.con (.sc (.bool false))) }], clr := [2] }
def simpl_EqualInts_r1 : Reg := { id := 1, ops := [{ op := .mv (.slot 0) },{ op := .mv (.slot 1) },{ op := .call 357 [(false, .loc 0), (false, .loc 1)] [] },{ op := .mv (.loc 2) }], sets := [(2, 3)], clr := [0, 1] }
def simpl_EqualInts_b : SC := .seq (.reg simpl_EqualInts_r0) (.seq (.reg simpl_EqualInts_r1) (.ret))
def simpl_EqualInts : SFn := { nslots := 3, nobjs := 0, params := [0, 1], ngiven := 0, bor := false, takes := [], body := simpl_EqualInts_b, results := [.slot 2] }
def simpl_EqualInts_t : List Tmp := [0, 1, 4]
attribute [simp] simpl_EqualInts_r0 simpl_EqualInts_r1 simpl_EqualInts_b simpl_EqualInts
def sslices_EqualFunc___impl_Endpoint___impl_Endpoint_impl_Endpoint_impl_Endpoint__r0 : Reg := { id := 0, ops := [{ op := .mv (.con (.sc (.bool false))) }], clr := [3] }
def sslices_EqualFunc___impl_Endpoint___impl_Endpoint_impl_Endpoint_impl_Endpoint__r1 : Reg := { id := 1, ops := [{ op := .mv (.slot 0) },{ op := .len false (.loc 0) },{ op := .mv (.slot 1) },{ op := .len false (.loc 2) },{ op := .bin .neq (.loc 1) (.loc 3) }], sets := [(7, 4)] }
def sslices_EqualFunc___impl_Endpoint___impl_Endpoint_impl_Endpoint_impl_Endpoint__r2 : Reg := { id := 2, ops := [{ op := .mv (.con (.sc (.bool false))) }], sets := [(3, 0)], clr := [0, 1, 2] }
def sslices_EqualFunc___impl_Endpoint___impl_Endpoint_impl_Endpoint_impl_Endpoint__r3 : Reg := { id := 3, ops := [{ op := .mv (.slot 0) },{ op := .len false (.loc 0) },{ op := .mv (.con (.sc (.int .i64 0))) }], sets := [(8, 0), (9, 1), (10, 2)], clr := [0] }
def sslices_EqualFunc___impl_Endpoint___impl_Endpoint_impl_Endpoint_impl_Endpoint__r4 : Reg := { id := 4, ops := [{ op := .bin .lss (.slot 10) (.slot 9) }], sets := [(11, 0)] }
def sslices_EqualFunc___impl_Endpoint___impl_Endpoint_impl_Endpoint_impl_Endpoint__r5 : Reg := { id := 5, fresh := [0], ops := [{ op := .mv (.slot 10) },{ op := .indexAddr 4 (.slot 8) (.slot 10) },{ op := .load (some 4) (.loc 1) },{ op := .alloc 0 [.nil 1, .nil 1, .nil 4, .sc (.int .i64 0)] },{ op := .mv (.loc 0) },{ op := .store 4 (.loc 3) (.loc 2) }], sets := [(4, 4), (5, 3)] }
def sslices_EqualFunc___impl_Endpoint___impl_Endpoint_impl_Endpoint_impl_Endpoint__r6 : Reg := { id := 6, fresh := [1], ops := [{ op := .mv (.slot 1) },{ op := .mv (.slot 4) },{ op := .indexAddr 4 (.loc 0) (.loc 1) },{ op := .load (some 4) (.loc 2) },{ op := .alloc 1 [.nil 1, .nil 1, .nil 4, .sc (.int .i64 0)] },{ op := .store 4 (.loc 4) (.loc 3) }], sets := [(6, 4)], clr := [4] }
def sslices_EqualFunc___impl_Endpoint___impl_Endpoint_impl_Endpoint_impl_Endpoint__r7 : Reg := { id := 7, ops := [{ op := .mv (.slot 2) },{ op := .load (some 4) (.slot 5) },{ op := .load (some 4) (.slot 6) },{ op := .callv (.loc 0) [(false, .loc 1), (false, .loc 2)] [] },{ op := .un .not (.loc 3) }], sets := [(12, 4)], clr := [5, 6] }
def sslices_EqualFunc___impl_Endpoint___impl_Endpoint_impl_Endpoint_impl_Endpoint__r8 : Reg := { id := 8, ops := [{ op := .mv (.con (.sc (.bool false))) }], sets := [(3, 0)], clr := [1, 2, 8, 9, 10] }
def sslices_EqualFunc___impl_Endpoint___impl_Endpoint_impl_Endpoint_impl_Endpoint__r9 : Reg := { id := 9, ops := [{ op := .bin .add (.slot 10) (.con (.sc (.int .i64 1))) },{ op := .mv (.loc 0) }], sets := [(10, 1)] }
def sslices_EqualFunc___impl_Endpoint___impl_Endpoint_impl_Endpoint_impl_Endpoint__r10 : Reg := { id := 10, ops := [{ op := .mv (.con (.sc (.bool true))) }], sets := [(3, 0)], clr := [1, 2, 8, 9, 10] }
def sslices_EqualFunc___impl_Endpoint___impl_Endpoint_impl_Endpoint_impl_Endpoint__b : SC := .seq (.reg sslices_EqualFunc___impl_Endpoint___impl_Endpoint_impl_Endpoint_impl_Endpoint__r0) (.seq (.seq (.reg sslices_EqualFunc___impl_Endpoint___impl_Endpoint_impl_Endpoint_impl_Endpoint__r1) (.cond 7 (.seq (.reg sslices_EqualFunc___impl_Endpoint___impl_Endpoint_impl_Endpoint_impl_Endpoint__r2) (.ret)) (.skip))) (.seq (.seq (.reg sslices_EqualFunc___impl_Endpoint___impl_Endpoint_impl_Endpoint_impl_Endpoint__r3) (.block 0 (.loop (.seq (.reg sslices_EqualFunc___impl_Endpoint___impl_Endpoint_impl_Endpoint_impl_Endpoint__r4) (.seq (.cond 11 (.skip) (.exit 0)) (.seq (.block 1 (.seq (.reg sslices_EqualFunc___impl_Endpoint___impl_Endpoint_impl_Endpoint_impl_Endpoint__r5) (.seq (.reg sslices_EqualFunc___impl_Endpoint___impl_Endpoint_impl_Endpoint_impl_Endpoint__r6) (.seq (.reg sslices_EqualFunc___impl_Endpoint___impl_Endpoint_impl_Endpoint_impl_Endpoint__r7) (.cond 12 (.seq (.reg sslices_EqualFunc___impl_Endpoint___impl_Endpoint_impl_Endpoint_impl_Endpoint__r8) (.ret)) (.skip)))))) (.reg sslices_EqualFunc___impl_Endpoint___impl_Endpoint_impl_Endpoint_impl_Endpoint__r9))))))) (.seq (.reg sslices_EqualFunc___impl_Endpoint___impl_Endpoint_impl_Endpoint_impl_Endpoint__r10) (.ret))))
def sslices_EqualFunc___impl_Endpoint___impl_Endpoint_impl_Endpoint_impl_Endpoint_ : SFn := { nslots := 13, nobjs := 2, params := [0, 1, 2], ngiven := 0, bor := false, takes := [], body := sslices_EqualFunc___impl_Endpoint___impl_Endpoint_impl_Endpoint_impl_Endpoint__b, results := [.slot 3] }
def sslices_EqualFunc___impl_Endpoint___impl_Endpoint_impl_Endpoint_impl_Endpoint__t : List Tmp := [0, 1, 2, 6, 7, 8, 9, 14, 15, 16, 17, 18, 30]
attribute [simp] sslices_EqualFunc___impl_Endpoint___impl_Endpoint_impl_Endpoint_impl_Endpoint__r0 sslices_EqualFunc___impl_Endpoint___impl_Endpoint_impl_Endpoint_impl_Endpoint__r1 sslices_EqualFunc___impl_Endpoint___impl_Endpoint_impl_Endpoint_impl_Endpoint__r2 sslices_EqualFunc___impl_Endpoint___impl_Endpoint_impl_Endpoint_impl_Endpoint__r3 sslices_EqualFunc___impl_Endpoint___impl_Endpoint_impl_Endpoint_impl_Endpoint__r4 sslices_EqualFunc___impl_Endpoint___impl_Endpoint_impl_Endpoint_impl_Endpoint__r5 sslices_EqualFunc___impl_Endpoint___impl_Endpoint_impl_Endpoint_impl_Endpoint__r6 sslices_EqualFunc___impl_Endpoint___impl_Endpoint_impl_Endpoint_impl_Endpoint__r7 sslices_EqualFunc___impl_Endpoint___impl_Endpoint_impl_Endpoint_impl_Endpoint__r8 sslices_EqualFunc___impl_Endpoint___impl_Endpoint_impl_Endpoint_impl_Endpoint__r9 sslices_EqualFunc___impl_Endpoint___impl_Endpoint_impl_Endpoint_impl_Endpoint__r10 sslices_EqualFunc___impl_Endpoint___impl_Endpoint_impl_Endpoint_impl_Endpoint__b sslices_EqualFunc___impl_Endpoint___impl_Endpoint_impl_Endpoint_impl_Endpoint_
def simpl_EqualEndpoints_r0 : Reg := { id := 0, ops := [{ op := .box 0 (.slot 0) },{ op := .box 1 (.slot 1) },{ op := .mv (.con (.sc (.bool false))) }], sets := [(2, 0), (3, 1)], clr := [0, 1, 4] }
def simpl_EqualEndpoints_r1 : Reg := { id := 1, ops := [{ op := .fieldAddr (.slot 2) 0 },{ op := .load none (.loc 0) },{ op := .fieldAddr (.slot 3) 0 },{ op := .load none (.loc 2) },{ op := .call 357 [(false, .loc 1), (false, .loc 3)] [] },{ op := .mv (.loc 4) },{ op := .fieldAddr (.slot 2) 1, guard := some (5, true) },{ op := .load none (.loc 6), guard := some (5, true) },{ op := .fieldAddr (.slot 3) 1, guard := some (5, true) },{ op := .load none (.loc 8), guard := some (5, true) },{ op := .call 357 [(false, .loc 7), (false, .loc 9)] [], guard := some (5, true) },{ op := .pick (.loc 5) (.loc 10) (.con (.sc (.bool false))) },{ op := .mv (.loc 11) },{ op := .fieldAddr (.slot 2) 2, guard := some (12, true) },{ op := .load none (.loc 13), guard := some (12, true) },{ op := .fieldAddr (.slot 3) 2, guard := some (12, true) },{ op := .load none (.loc 15), guard := some (12, true) },{ op := .call 504 [(false, .loc 14), (false, .loc 16), (false, .con (.fn 503 []))] [], guard := some (12, true) },{ op := .pick (.loc 12) (.loc 17) (.con (.sc (.bool false))) },{ op := .mv (.loc 18) },{ op := .fieldAddr (.slot 2) 3, guard := some (19, true) },{ op := .load none (.loc 20), guard := some (19, true) },{ op := .fieldAddr (.slot 3) 3, guard := some (19, true) },{ op := .load none (.loc 22), guard := some (19, true) },{ op := .bin .eql (.loc 21) (.loc 23), guard := some (19, true) },{ op := .pick (.loc 19) (.loc 24) (.con (.sc (.bool false))) },{ op := .mv (.loc 25) }], sets := [(4, 26)], clr := [2, 3] }
def simpl_EqualEndpoints_b : SC := .seq (.reg simpl_EqualEndpoints_r0) (.seq (.reg simpl_EqualEndpoints_r1) (.ret))
def simpl_EqualEndpoints : SFn := { nslots := 5, nobjs := 2, params := [0, 1], ngiven := 0, bor := false, takes := [], body := simpl_EqualEndpoints_b, results := [.slot 4] }
def simpl_EqualEndpoints_t : List Tmp := [0, 1, 2, 3, 4]
attribute [simp] simpl_EqualEndpoints_r0 simpl_EqualEndpoints_r1 simpl_EqualEndpoints_b simpl_EqualEndpoints
def simpl_EqualRollouts_r0 : Reg := { id := 0, ops := [{ op := .box 0 (.slot 0) },{ op := .box 1 (.slot 1) },{ op := .mv (.con (.sc (.bool false))) }], sets := [(2, 0), (3, 1)], clr := [0, 1, 4] }
def simpl_EqualRollouts_r1 : Reg := { id := 1, ops := [{ op := .fieldAddr (.slot 2) 0 },{ op := .load none (.loc 0) },{ op := .fieldAddr (.slot 3) 0 },{ op := .load none (.loc 2) },{ op := .bin .eql (.loc 1) (.loc 3) },{ op := .mv (.loc 4) },{ op := .fieldAddr (.slot 2) 1, guard := some (5, true) },{ op := .load none (.loc 6), guard := some (5, true) },{ op := .fieldAddr (.slot 3) 1, guard := some (5, true) },{ op := .load none (.loc 8), guard := some (5, true) },{ op := .call 357 [(false, .loc 7), (false, .loc 9)] [], guard := some (5, true) },{ op := .pick (.loc 5) (.loc 10) (.con (.sc (.bool false))) },{ op := .mv (.loc 11) },{ op := .fieldAddr (.slot 2) 2, guard := some (12, true) },{ op := .load none (.loc 13), guard := some (12, true) },{ op := .fieldAddr (.slot 3) 2, guard := some (12, true) },{ op := .load none (.loc 15), guard := some (12, true) },{ op := .bin .eql (.loc 14) (.loc 16), guard := some (12, true) },{ op := .pick (.loc 12) (.loc 17) (.con (.sc (.bool false))) },{ op := .mv (.loc 18) },{ op := .fieldAddr (.slot 2) 3, guard := some (19, true) },{ op := .load none (.loc 20), guard := some (19, true) },{ op := .fieldAddr (.slot 3) 3, guard := some (19, true) },{ op := .load none (.loc 22), guard := some (19, true) },{ op := .beq false (.loc 21) (.loc 23), guard := some (19, true) },{ op := .pick (.loc 19) (.loc 24) (.con (.sc (.bool false))) },{ op := .mv (.loc 25) }], sets := [(4, 26)], clr := [2, 3] }
def simpl_EqualRollouts_b : SC := .seq (.reg simpl_EqualRollouts_r0) (.seq (.reg simpl_EqualRollouts_r1) (.ret))
def simpl_EqualRollouts : SFn := { nslots := 5, nobjs := 2, params := [0, 1], ngiven := 0, bor := false, takes := [], body := simpl_EqualRollouts_b, results := [.slot 4] }
def simpl_EqualRollouts_t : List Tmp := [0, 1, 2, 3, 4]
attribute [simp] simpl_EqualRollouts_r0 simpl_EqualRollouts_r1 simpl_EqualRollouts_b simpl_EqualRollouts
def sslices_EqualFunc___impl_Dialed___impl_Dialed_impl_Dialed_impl_Dialed__r0 : Reg := { id := 0, ops := [{ op := .mv (.con (.sc (.bool false))) }], clr := [3] }
def sslices_EqualFunc___impl_Dialed___impl_Dialed_impl_Dialed_impl_Dialed__r1 : Reg := { id := 1, ops := [{ op := .mv (.slot 0) },{ op := .len false (.loc 0) },{ op := .mv (.slot 1) },{ op := .len false (.loc 2) },{ op := .bin .neq (.loc 1) (.loc 3) }], sets := [(7, 4)] }
def sslices_EqualFunc___impl_Dialed___impl_Dialed_impl_Dialed_impl_Dialed__r2 : Reg := { id := 2, ops := [{ op := .mv (.con (.sc (.bool false))) }], sets := [(3, 0)], clr := [0, 1, 2] }
def sslices_EqualFunc___impl_Dialed___impl_Dialed_impl_Dialed_impl_Dialed__r3 : Reg := { id := 3, ops := [{ op := .mv (.slot 0) },{ op := .len false (.loc 0) },{ op := .mv (.con (.sc (.int .i64 0))) }], sets := [(8, 0), (9, 1), (10, 2)], clr := [0] }
def sslices_EqualFunc___impl_Dialed___impl_Dialed_impl_Dialed_impl_Dialed__r4 : Reg := { id := 4, ops := [{ op := .bin .lss (.slot 10) (.slot 9) }], sets := [(11, 0)] }
def sslices_EqualFunc___impl_Dialed___impl_Dialed_impl_Dialed_impl_Dialed__r5 : Reg := { id := 5, fresh := [0], ops := [{ op := .mv (.slot 10) },{ op := .indexAddr 5 (.slot 8) (.slot 10) },{ op := .load (some 5) (.loc 1) },{ op := .alloc 0 [.sc (.bool false), .sc (.int .i64 0), .nil 1, .sc (.int .i64 0), .nil 1] },{ op := .mv (.loc 0) },{ op := .store 5 (.loc 3) (.loc 2) }], sets := [(4, 4), (5, 3)] }
def sslices_EqualFunc___impl_Dialed___impl_Dialed_impl_Dialed_impl_Dialed__r6 : Reg := { id := 6, fresh := [1], ops := [{ op := .mv (.slot 1) },{ op := .mv (.slot 4) },{ op := .indexAddr 5 (.loc 0) (.loc 1) },{ op := .load (some 5) (.loc 2) },{ op := .alloc 1 [.sc (.bool false), .sc (.int .i64 0), .nil 1, .sc (.int .i64 0), .nil 1] },{ op := .store 5 (.loc 4) (.loc 3) }], sets := [(6, 4)], clr := [4] }
def sslices_EqualFunc___impl_Dialed___impl_Dialed_impl_Dialed_impl_Dialed__r7 : Reg := { id := 7, ops := [{ op := .mv (.slot 2) },{ op := .load (some 5) (.slot 5) },{ op := .load (some 5) (.slot 6) },{ op := .callv (.loc 0) [(false, .loc 1), (false, .loc 2)] [] },{ op := .un .not (.loc 3) }], sets := [(12, 4)], clr := [5, 6] }
def sslices_EqualFunc___impl_Dialed___impl_Dialed_impl_Dialed_impl_Dialed__r8 : Reg := { id := 8, ops := [{ op := .mv (.con (.sc (.bool false))) }], sets := [(3, 0)], clr := [1, 2, 8, 9, 10] }
def sslices_EqualFunc___impl_Dialed___impl_Dialed_impl_Dialed_impl_Dialed__r9 : Reg := { id := 9, ops := [{ op := .bin .add (.slot 10) (.con (.sc (.int .i64 1))) },{ op := .mv (.loc 0) }], sets := [(10, 1)] }
def sslices_EqualFunc___impl_Dialed___impl_Dialed_impl_Dialed_impl_Dialed__r10 : Reg := { id := 10, ops := [{ op := .mv (.con (.sc (.bool true))) }], sets := [(3, 0)], clr := [1, 2, 8, 9, 10] }
def sslices_EqualFunc___impl_Dialed___impl_Dialed_impl_Dialed_impl_Dialed__b : SC := .seq (.reg sslices_EqualFunc___impl_Dialed___impl_Dialed_impl_Dialed_impl_Dialed__r0) (.seq (.seq (.reg sslices_EqualFunc___impl_Dialed___impl_Dialed_impl_Dialed_impl_Dialed__r1) (.cond 7 (.seq (.reg sslices_EqualFunc___impl_Dialed___impl_Dialed_impl_Dialed_impl_Dialed__r2) (.ret)) (.skip))) (.seq (.seq (.reg sslices_EqualFunc___impl_Dialed___impl_Dialed_impl_Dialed_impl_Dialed__r3) (.block 0 (.loop (.seq (.reg sslices_EqualFunc___impl_Dialed___impl_Dialed_impl_Dialed_impl_Dialed__r4) (.seq (.cond 11 (.skip) (.exit 0)) (.seq (.block 1 (.seq (.reg sslices_EqualFunc___impl_Dialed___impl_Dialed_impl_Dialed_impl_Dialed__r5) (.seq (.reg sslices_EqualFunc___impl_Dialed___impl_Dialed_impl_Dialed_impl_Dialed__r6) (.seq (.reg sslices_EqualFunc___impl_Dialed___impl_Dialed_impl_Dialed_impl_Dialed__r7) (.cond 12 (.seq (.reg sslices_EqualFunc___impl_Dialed___impl_Dialed_impl_Dialed_impl_Dialed__r8) (.ret)) (.skip)))))) (.reg sslices_EqualFunc___impl_Dialed___impl_Dialed_impl_Dialed_impl_Dialed__r9))))))) (.seq (.reg sslices_EqualFunc___impl_Dialed___impl_Dialed_impl_Dialed_impl_Dialed__r10) (.ret))))
def sslices_EqualFunc___impl_Dialed___impl_Dialed_impl_Dialed_impl_Dialed_ : SFn := { nslots := 13, nobjs := 2, params := [0, 1, 2], ngiven := 0, bor := false, takes := [], body := sslices_EqualFunc___impl_Dialed___impl_Dialed_impl_Dialed_impl_Dialed__b, results := [.slot 3] }
def sslices_EqualFunc___impl_Dialed___impl_Dialed_impl_Dialed_impl_Dialed__t : List Tmp := [0, 1, 2, 6, 7, 8, 9, 14, 15, 16, 17, 18, 30]
attribute [simp] sslices_EqualFunc___impl_Dialed___impl_Dialed_impl_Dialed_impl_Dialed__r0 sslices_EqualFunc___impl_Dialed___impl_Dialed_impl_Dialed_impl_Dialed__r1 sslices_EqualFunc___impl_Dialed___impl_Dialed_impl_Dialed_impl_Dialed__r2 sslices_EqualFunc___impl_Dialed___impl_Dialed_impl_Dialed_impl_Dialed__r3 sslices_EqualFunc___impl_Dialed___impl_Dialed_impl_Dialed_impl_Dialed__r4 sslices_EqualFunc___impl_Dialed___impl_Dialed_impl_Dialed_impl_Dialed__r5 sslices_EqualFunc___impl_Dialed___impl_Dialed_impl_Dialed_impl_Dialed__r6 sslices_EqualFunc___impl_Dialed___impl_Dialed_impl_Dialed_impl_Dialed__r7 sslices_EqualFunc___impl_Dialed___impl_Dialed_impl_Dialed_impl_Dialed__r8 sslices_EqualFunc___impl_Dialed___impl_Dialed_impl_Dialed_impl_Dialed__r9 sslices_EqualFunc___impl_Dialed___impl_Dialed_impl_Dialed_impl_Dialed__r10 sslices_EqualFunc___impl_Dialed___impl_Dialed_impl_Dialed_impl_Dialed__b sslices_EqualFunc___impl_Dialed___impl_Dialed_impl_Dialed_impl_Dialed_
def simpl_EqualDialed_r0 : Reg := { id := 0, ops := [{ op := .box 0 (.slot 0) },{ op := .box 1 (.slot 1) },{ op := .mv (.con (.sc (.bool false))) }], sets := [(2, 0), (3, 1)], clr := [0, 1, 4] }
def simpl_EqualDialed_r1 : Reg := { id := 1, ops := [{ op := .fieldAddr (.slot 2) 0 },{ op := .load (some 3) (.loc 0) },{ op := .fieldAddr (.slot 3) 0 },{ op := .load (some 3) (.loc 2) },{ op := .call 508 [(false, .loc 1), (false, .loc 3)] [] },{ op := .mv (.loc 4) },{ op := .fieldAddr (.slot 2) 3, guard := some (5, true) },{ op := .load none (.loc 6), guard := some (5, true) },{ op := .fieldAddr (.slot 3) 3, guard := some (5, true) },{ op := .load none (.loc 8), guard := some (5, true) },{ op := .bin .eql (.loc 7) (.loc 9), guard := some (5, true) },{ op := .pick (.loc 5) (.loc 10) (.con (.sc (.bool false))) },{ op := .mv (.loc 11) },{ op := .fieldAddr (.slot 2) 4, guard := some (12, true) },{ op := .load none (.loc 13), guard := some (12, true) },{ op := .fieldAddr (.slot 3) 4, guard := some (12, true) },{ op := .load none (.loc 15), guard := some (12, true) },{ op := .call 357 [(false, .loc 14), (false, .loc 16)] [], guard := some (12, true) },{ op := .pick (.loc 12) (.loc 17) (.con (.sc (.bool false))) },{ op := .mv (.loc 18) }], sets := [(4, 19)], clr := [2, 3] }
def simpl_EqualDialed_b : SC := .seq (.reg simpl_EqualDialed_r0) (.seq (.reg simpl_EqualDialed_r1) (.ret))
def simpl_EqualDialed : SFn := { nslots := 5, nobjs := 2, params := [0, 1], ngiven := 0, bor := false, takes := [], body := simpl_EqualDialed_b, results := [.slot 4] }
def simpl_EqualDialed_t : List Tmp := [0, 1, 2, 3, 4]
attribute [simp] simpl_EqualDialed_r0 simpl_EqualDialed_r1 simpl_EqualDialed_b simpl_EqualDialed
def sslices_EqualFunc___impl_Logged___impl_Logged_impl_Logged_impl_Logged__r0 : Reg := { id := 0, ops := [{ op := .mv (.con (.sc (.bool false))) }], clr := [3] }
def sslices_EqualFunc___impl_Logged___impl_Logged_impl_Logged_impl_Logged__r1 : Reg := { id := 1, ops := [{ op := .mv (.slot 0) },{ op := .len false (.loc 0) },{ op := .mv (.slot 1) },{ op := .len false (.loc 2) },{ op := .bin .neq (.loc 1) (.loc 3) }], sets := [(7, 4)] }
def sslices_EqualFunc___impl_Logged___impl_Logged_impl_Logged_impl_Logged__r2 : Reg := { id := 2, ops := [{ op := .mv (.con (.sc (.bool false))) }], sets := [(3, 0)], clr := [0, 1, 2] }
def sslices_EqualFunc___impl_Logged___impl_Logged_impl_Logged_impl_Logged__r3 : Reg := { id := 3, ops := [{ op := .mv (.slot 0) },{ op := .len false (.loc 0) },{ op := .mv (.con (.sc (.int .i64 0))) }], sets := [(8, 0), (9, 1), (10, 2)], clr := [0] }
def sslices_EqualFunc___impl_Logged___impl_Logged_impl_Logged_impl_Logged__r4 : Reg := { id := 4, ops := [{ op := .bin .lss (.slot 10) (.slot 9) }], sets := [(11, 0)] }
def sslices_EqualFunc___impl_Logged___impl_Logged_impl_Logged_impl_Logged__r5 : Reg := { id := 5, fresh := [0], ops := [{ op := .mv (.slot 10) },{ op := .indexAddr 8 (.slot 8) (.slot 10) },{ op := .load (some 8) (.loc 1) },{ op := .alloc 0 [.sc (.int .i64 0), .sc (.int .i64 0), .sc (.bool false), .sc (.bool false), .sc (.int .i64 0), .nil 1, .sc (.int .i64 0), .nil 1] },{ op := .mv (.loc 0) },{ op := .store 8 (.loc 3) (.loc 2) }], sets := [(4, 4), (5, 3)] }
def sslices_EqualFunc___impl_Logged___impl_Logged_impl_Logged_impl_Logged__r6 : Reg := { id := 6, fresh := [1], ops := [{ op := .mv (.slot 1) },{ op := .mv (.slot 4) },{ op := .indexAddr 8 (.loc 0) (.loc 1) },{ op := .load (some 8) (.loc 2) },{ op := .alloc 1 [.sc (.int .i64 0), .sc (.int .i64 0), .sc (.bool false), .sc (.bool false), .sc (.int .i64 0), .nil 1, .sc (.int .i64 0), .nil 1] },{ op := .store 8 (.loc 4) (.loc 3) }], sets := [(6, 4)], clr := [4] }
def sslices_EqualFunc___impl_Logged___impl_Logged_impl_Logged_impl_Logged__r7 : Reg := { id := 7, ops := [{ op := .mv (.slot 2) },{ op := .load (some 8) (.slot 5) },{ op := .load (some 8) (.slot 6) },{ op := .callv (.loc 0) [(false, .loc 1), (false, .loc 2)] [] },{ op := .un .not (.loc 3) }], sets := [(12, 4)], clr := [5, 6] }
def sslices_EqualFunc___impl_Logged___impl_Logged_impl_Logged_impl_Logged__r8 : Reg := { id := 8, ops := [{ op := .mv (.con (.sc (.bool false))) }], sets := [(3, 0)], clr := [1, 2, 8, 9, 10] }
def sslices_EqualFunc___impl_Logged___impl_Logged_impl_Logged_impl_Logged__r9 : Reg := { id := 9, ops := [{ op := .bin .add (.slot 10) (.con (.sc (.int .i64 1))) },{ op := .mv (.loc 0) }], sets := [(10, 1)] }
def sslices_EqualFunc___impl_Logged___impl_Logged_impl_Logged_impl_Logged__r10 : Reg := { id := 10, ops := [{ op := .mv (.con (.sc (.bool true))) }], sets := [(3, 0)], clr := [1, 2, 8, 9, 10] }
def sslices_EqualFunc___impl_Logged___impl_Logged_impl_Logged_impl_Logged__b : SC := .seq (.reg sslices_EqualFunc___impl_Logged___impl_Logged_impl_Logged_impl_Logged__r0) (.seq (.seq (.reg sslices_EqualFunc___impl_Logged___impl_Logged_impl_Logged_impl_Logged__r1) (.cond 7 (.seq (.reg sslices_EqualFunc___impl_Logged___impl_Logged_impl_Logged_impl_Logged__r2) (.ret)) (.skip))) (.seq (.seq (.reg sslices_EqualFunc___impl_Logged___impl_Logged_impl_Logged_impl_Logged__r3) (.block 0 (.loop (.seq (.reg sslices_EqualFunc___impl_Logged___impl_Logged_impl_Logged_impl_Logged__r4) (.seq (.cond 11 (.skip) (.exit 0)) (.seq (.block 1 (.seq (.reg sslices_EqualFunc___impl_Logged___impl_Logged_impl_Logged_impl_Logged__r5) (.seq (.reg sslices_EqualFunc___impl_Logged___impl_Logged_impl_Logged_impl_Logged__r6) (.seq (.reg sslices_EqualFunc___impl_Logged___impl_Logged_impl_Logged_impl_Logged__r7) (.cond 12 (.seq (.reg sslices_EqualFunc___impl_Logged___impl_Logged_impl_Logged_impl_Logged__r8) (.ret)) (.skip)))))) (.reg sslices_EqualFunc___impl_Logged___impl_Logged_impl_Logged_impl_Logged__r9))))))) (.seq (.reg sslices_EqualFunc___impl_Logged___impl_Logged_impl_Logged_impl_Logged__r10) (.ret))))
def sslices_EqualFunc___impl_Logged___impl_Logged_impl_Logged_impl_Logged_ : SFn := { nslots := 13, nobjs := 2, params := [0, 1, 2], ngiven := 0, bor := false, takes := [], body := sslices_EqualFunc___impl_Logged___impl_Logged_impl_Logged_impl_Logged__b, results := [.slot 3] }
def sslices_EqualFunc___impl_Logged___impl_Logged_impl_Logged_impl_Logged__t : List Tmp := [0, 1, 2, 6, 7, 8, 9, 14, 15, 16, 17, 18, 30]
attribute [simp] sslices_EqualFunc___impl_Logged___impl_Logged_impl_Logged_impl_Logged__r0 sslices_EqualFunc___impl_Logged___impl_Logged_impl_Logged_impl_Logged__r1 sslices_EqualFunc___impl_Logged___impl_Logged_impl_Logged_impl_Logged__r2 sslices_EqualFunc___impl_Logged___impl_Logged_impl_Logged_impl_Logged__r3 sslices_EqualFunc___impl_Logged___impl_Logged_impl_Logged_impl_Logged__r4 sslices_EqualFunc___impl_Logged___impl_Logged_impl_Logged_impl_Logged__r5 sslices_EqualFunc___impl_Logged___impl_Logged_impl_Logged_impl_Logged__r6 sslices_EqualFunc___impl_Logged___impl_Logged_impl_Logged_impl_Logged__r7 sslices_EqualFunc___impl_Logged___impl_Logged_impl_Logged_impl_Logged__r8 sslices_EqualFunc___impl_Logged___impl_Logged_impl_Logged_impl_Logged__r9 sslices_EqualFunc___impl_Logged___impl_Logged_impl_Logged_impl_Logged__r10 sslices_EqualFunc___impl_Logged___impl_Logged_impl_Logged_impl_Logged__b sslices_EqualFunc___impl_Logged___impl_Logged_impl_Logged_impl_Logged_
def simpl_equalLogged_r0 : Reg := { id := 0, ops := [{ op := .box 0 (.slot 0) },{ op := .box 1 (.slot 1) },{ op := .mv (.con (.sc (.bool false))) }], sets := [(2, 0), (3, 1)], clr := [0, 1, 4] }
def simpl_equalLogged_r1 : Reg := { id := 1, ops := [{ op := .fieldAddr (.slot 2) 0 },{ op := .load none (.loc 0) },{ op := .fieldAddr (.slot 3) 0 },{ op := .load none (.loc 2) },{ op := .bin .eql (.loc 1) (.loc 3) },{ op := .mv (.loc 4) },{ op := .fieldAddr (.slot 2) 1, guard := some (5, true) },{ op := .load none (.loc 6), guard := some (5, true) },{ op := .fieldAddr (.slot 3) 1, guard := some (5, true) },{ op := .load none (.loc 8), guard := some (5, true) },{ op := .bin .eql (.loc 7) (.loc 9), guard := some (5, true) },{ op := .pick (.loc 5) (.loc 10) (.con (.sc (.bool false))) },{ op := .mv (.loc 11) },{ op := .fieldAddr (.slot 2) 2, guard := some (12, true) },{ op := .load none (.loc 13), guard := some (12, true) },{ op := .fieldAddr (.slot 3) 2, guard := some (12, true) },{ op := .load none (.loc 15), guard := some (12, true) },{ op := .beq false (.loc 14) (.loc 16), guard := some (12, true) },{ op := .pick (.loc 12) (.loc 17) (.con (.sc (.bool false))) },{ op := .mv (.loc 18) },{ op := .fieldAddr (.slot 2) 3, guard := some (19, true) },{ op := .load (some 5) (.loc 20), guard := some (19, true) },{ op := .fieldAddr (.slot 3) 3, guard := some (19, true) },{ op := .load (some 5) (.loc 22), guard := some (19, true) },{ op := .call 507 [(false, .loc 21), (false, .loc 23)] [], guard := some (19, true) },{ op := .pick (.loc 19) (.loc 24) (.con (.sc (.bool false))) },{ op := .mv (.loc 25) }], sets := [(4, 26)], clr := [2, 3] }
def simpl_equalLogged_b : SC := .seq (.reg simpl_equalLogged_r0) (.seq (.reg simpl_equalLogged_r1) (.ret))
def simpl_equalLogged : SFn := { nslots := 5, nobjs := 2, params := [0, 1], ngiven := 0, bor := false, takes := [], body := simpl_equalLogged_b, results := [.slot 4] }
def simpl_equalLogged_t : List Tmp := [0, 1, 2, 3, 4]
attribute [simp] simpl_equalLogged_r0 simpl_equalLogged_r1 simpl_equalLogged_b simpl_equalLogged
def sslices_EqualFunc___impl_Box___impl_Box_impl_Box_impl_Box__r0 : Reg := { id := 0, ops := [{ op := .mv (.con (.sc (.bool false))) }], clr := [3] }
def sslices_EqualFunc___impl_Box___impl_Box_impl_Box_impl_Box__r1 : Reg := { id := 1, ops := [{ op := .mv (.slot 0) },{ op := .len false (.loc 0) },{ op := .mv (.slot 1) },{ op := .len false (.loc 2) },{ op := .bin .neq (.loc 1) (.loc 3) }], sets := [(7, 4)] }
def sslices_EqualFunc___impl_Box___impl_Box_impl_Box_impl_Box__r2 : Reg := { id := 2, ops := [{ op := .mv (.con (.sc (.bool false))) }], sets := [(3, 0)], clr := [0, 1, 2] }
def sslices_EqualFunc___impl_Box___impl_Box_impl_Box_impl_Box__r3 : Reg := { id := 3, ops := [{ op := .mv (.slot 0) },{ op := .len false (.loc 0) },{ op := .mv (.con (.sc (.int .i64 0))) }], sets := [(8, 0), (9, 1), (10, 2)], clr := [0] }
def sslices_EqualFunc___impl_Box___impl_Box_impl_Box_impl_Box__r4 : Reg := { id := 4, ops := [{ op := .bin .lss (.slot 10) (.slot 9) }], sets := [(11, 0)] }
def sslices_EqualFunc___impl_Box___impl_Box_impl_Box_impl_Box__r5 : Reg := { id := 5, fresh := [0], ops := [{ op := .mv (.slot 10) },{ op := .indexAddr 4 (.slot 8) (.slot 10) },{ op := .load (some 4) (.loc 1) },{ op := .alloc 0 [.sc (.int .i64 0), .nil 1, .nil 1, .sc (.bool false)] },{ op := .mv (.loc 0) },{ op := .store 4 (.loc 3) (.loc 2) }], sets := [(4, 4), (5, 3)] }
def sslices_EqualFunc___impl_Box___impl_Box_impl_Box_impl_Box__r6 : Reg := { id := 6, fresh := [1], ops := [{ op := .mv (.slot 1) },{ op := .mv (.slot 4) },{ op := .indexAddr 4 (.loc 0) (.loc 1) },{ op := .load (some 4) (.loc 2) },{ op := .alloc 1 [.sc (.int .i64 0), .nil 1, .nil 1, .sc (.bool false)] },{ op := .store 4 (.loc 4) (.loc 3) }], sets := [(6, 4)], clr := [4] }
def sslices_EqualFunc___impl_Box___impl_Box_impl_Box_impl_Box__r7 : Reg := { id := 7, ops := [{ op := .mv (.slot 2) },{ op := .load (some 4) (.slot 5) },{ op := .load (some 4) (.slot 6) },{ op := .callv (.loc 0) [(false, .loc 1), (false, .loc 2)] [] },{ op := .un .not (.loc 3) }], sets := [(12, 4)], clr := [5, 6] }
def sslices_EqualFunc___impl_Box___impl_Box_impl_Box_impl_Box__r8 : Reg := { id := 8, ops := [{ op := .mv (.con (.sc (.bool false))) }], sets := [(3, 0)], clr := [1, 2, 8, 9, 10] }
def sslices_EqualFunc___impl_Box___impl_Box_impl_Box_impl_Box__r9 : Reg := { id := 9, ops := [{ op := .bin .add (.slot 10) (.con (.sc (.int .i64 1))) },{ op := .mv (.loc 0) }], sets := [(10, 1)] }
def sslices_EqualFunc___impl_Box___impl_Box_impl_Box_impl_Box__r10 : Reg := { id := 10, ops := [{ op := .mv (.con (.sc (.bool true))) }], sets := [(3, 0)], clr := [1, 2, 8, 9, 10] }
def sslices_EqualFunc___impl_Box___impl_Box_impl_Box_impl_Box__b : SC := .seq (.reg sslices_EqualFunc___impl_Box___impl_Box_impl_Box_impl_Box__r0) (.seq (.seq (.reg sslices_EqualFunc___impl_Box___impl_Box_impl_Box_impl_Box__r1) (.cond 7 (.seq (.reg sslices_EqualFunc___impl_Box___impl_Box_impl_Box_impl_Box__r2) (.ret)) (.skip))) (.seq (.seq (.reg sslices_EqualFunc___impl_Box___impl_Box_impl_Box_impl_Box__r3) (.block 0 (.loop (.seq (.reg sslices_EqualFunc___impl_Box___impl_Box_impl_Box_impl_Box__r4) (.seq (.cond 11 (.skip) (.exit 0)) (.seq (.block 1 (.seq (.reg sslices_EqualFunc___impl_Box___impl_Box_impl_Box_impl_Box__r5) (.seq (.reg sslices_EqualFunc___impl_Box___impl_Box_impl_Box_impl_Box__r6) (.seq (.reg sslices_EqualFunc___impl_Box___impl_Box_impl_Box_impl_Box__r7) (.cond 12 (.seq (.reg sslices_EqualFunc___impl_Box___impl_Box_impl_Box_impl_Box__r8) (.ret)) (.skip)))))) (.reg sslices_EqualFunc___impl_Box___impl_Box_impl_Box_impl_Box__r9))))))) (.seq (.reg sslices_EqualFunc___impl_Box___impl_Box_impl_Box_impl_Box__r10) (.ret))))
def sslices_EqualFunc___impl_Box___impl_Box_impl_Box_impl_Box_ : SFn := { nslots := 13, nobjs := 2, params := [0, 1, 2], ngiven := 0, bor := false, takes := [], body := sslices_EqualFunc___impl_Box___impl_Box_impl_Box_impl_Box__b, results := [.slot 3] }
def sslices_EqualFunc___impl_Box___impl_Box_impl_Box_impl_Box__t : List Tmp := [0, 1, 2, 6, 7, 8, 9, 14, 15, 16, 17, 18, 30]
attribute [simp] sslices_EqualFunc___impl_Box___impl_Box_impl_Box_impl_Box__r0 sslices_EqualFunc___impl_Box___impl_Box_impl_Box_impl_Box__r1 sslices_EqualFunc___impl_Box___impl_Box_impl_Box_impl_Box__r2 sslices_EqualFunc___impl_Box___impl_Box_impl_Box_impl_Box__r3 sslices_EqualFunc___impl_Box___impl_Box_impl_Box_impl_Box__r4 sslices_EqualFunc___impl_Box___impl_Box_impl_Box_impl_Box__r5 sslices_EqualFunc___impl_Box___impl_Box_impl_Box_impl_Box__r6 sslices_EqualFunc___impl_Box___impl_Box_impl_Box_impl_Box__r7 sslices_EqualFunc___impl_Box___impl_Box_impl_Box_impl_Box__r8 sslices_EqualFunc___impl_Box___impl_Box_impl_Box_impl_Box__r9 sslices_EqualFunc___impl_Box___impl_Box_impl_Box_impl_Box__r10 sslices_EqualFunc___impl_Box___impl_Box_impl_Box_impl_Box__b sslices_EqualFunc___impl_Box___impl_Box_impl_Box_impl_Box_
def simpl_EqualBoxes_r0 : Reg := { id := 0, ops := [{ op := .box 0 (.slot 0) },{ op := .box 1 (.slot 1) },{ op := .mv (.con (.sc (.bool false))) }], sets := [(2, 0), (3, 1)], clr := [0, 1, 4] }
def simpl_EqualBoxes_r1 : Reg := { id := 1, ops := [{ op := .fieldAddr (.slot 2) 0 },{ op := .load none (.loc 0) },{ op := .fieldAddr (.slot 3) 0 },{ op := .load none (.loc 2) },{ op := .bin .eql (.loc 1) (.loc 3) },{ op := .mv (.loc 4) },{ op := .fieldAddr (.slot 2) 1, guard := some (5, true) },{ op := .load none (.loc 6), guard := some (5, true) },{ op := .fieldAddr (.slot 3) 1, guard := some (5, true) },{ op := .load none (.loc 8), guard := some (5, true) },{ op := .call 357 [(false, .loc 7), (false, .loc 9)] [], guard := some (5, true) },{ op := .pick (.loc 5) (.loc 10) (.con (.sc (.bool false))) },{ op := .mv (.loc 11) },{ op := .fieldAddr (.slot 2) 2, guard := some (12, true) },{ op := .load none (.loc 13), guard := some (12, true) },{ op := .fieldAddr (.slot 3) 2, guard := some (12, true) },{ op := .load none (.loc 15), guard := some (12, true) },{ op := .call 357 [(false, .loc 14), (false, .loc 16)] [], guard := some (12, true) },{ op := .pick (.loc 12) (.loc 17) (.con (.sc (.bool false))) },{ op := .mv (.loc 18) },{ op := .fieldAddr (.slot 2) 3, guard := some (19, true) },{ op := .load none (.loc 20), guard := some (19, true) },{ op := .fieldAddr (.slot 3) 3, guard := some (19, true) },{ op := .load none (.loc 22), guard := some (19, true) },{ op := .beq false (.loc 21) (.loc 23), guard := some (19, true) },{ op := .pick (.loc 19) (.loc 24) (.con (.sc (.bool false))) },{ op := .mv (.loc 25) }], sets := [(4, 26)], clr := [2, 3] }
def simpl_EqualBoxes_b : SC := .seq (.reg simpl_EqualBoxes_r0) (.seq (.reg simpl_EqualBoxes_r1) (.ret))
def simpl_EqualBoxes : SFn := { nslots := 5, nobjs := 2, params := [0, 1], ngiven := 0, bor := false, takes := [], body := simpl_EqualBoxes_b, results := [.slot 4] }
def simpl_EqualBoxes_t : List Tmp := [0, 1, 2, 3, 4]
attribute [simp] simpl_EqualBoxes_r0 simpl_EqualBoxes_r1 simpl_EqualBoxes_b simpl_EqualBoxes
def simpl_EqualDeals_r0 : Reg := { id := 0, ops := [{ op := .box 0 (.slot 0) },{ op := .box 1 (.slot 1) },{ op := .mv (.con (.sc (.bool false))) }], sets := [(2, 0), (3, 1)], clr := [0, 1, 4] }
def simpl_EqualDeals_r1 : Reg := { id := 1, ops := [{ op := .fieldAddr (.slot 2) 0 },{ op := .load none (.loc 0) },{ op := .fieldAddr (.slot 3) 0 },{ op := .load none (.loc 2) },{ op := .beq false (.loc 1) (.loc 3) },{ op := .mv (.loc 4) },{ op := .fieldAddr (.slot 2) 1, guard := some (5, true) },{ op := .load none (.loc 6), guard := some (5, true) },{ op := .fieldAddr (.slot 3) 1, guard := some (5, true) },{ op := .load none (.loc 8), guard := some (5, true) },{ op := .bin .eql (.loc 7) (.loc 9), guard := some (5, true) },{ op := .pick (.loc 5) (.loc 10) (.con (.sc (.bool false))) },{ op := .mv (.loc 11) },{ op := .fieldAddr (.slot 2) 2, guard := some (12, true) },{ op := .load none (.loc 13), guard := some (12, true) },{ op := .fieldAddr (.slot 3) 2, guard := some (12, true) },{ op := .load none (.loc 15), guard := some (12, true) },{ op := .call 357 [(false, .loc 14), (false, .loc 16)] [], guard := some (12, true) },{ op := .pick (.loc 12) (.loc 17) (.con (.sc (.bool false))) },{ op := .mv (.loc 18) }], sets := [(4, 19)], clr := [2, 3] }
def simpl_EqualDeals_b : SC := .seq (.reg simpl_EqualDeals_r0) (.seq (.reg simpl_EqualDeals_r1) (.ret))
def simpl_EqualDeals : SFn := { nslots := 5, nobjs := 2, params := [0, 1], ngiven := 0, bor := false, takes := [], body := simpl_EqualDeals_b, results := [.slot 4] }
def simpl_EqualDeals_t : List Tmp := [0, 1, 2, 3, 4]
attribute [simp] simpl_EqualDeals_r0 simpl_EqualDeals_r1 simpl_EqualDeals_b simpl_EqualDeals
end Go.Eng.T

