/- Own work: part 49 of the proof of FnWorlds. -/
import Derived.Test.YtncobgjmochecabGreatEngAR
set_option linter.unusedSimpArgs false
set_option linter.unusedVariables false
namespace Go.Eng.T
set_option maxRecDepth 20000
set_option maxHeartbeats 1000000
structure Cur where
  bs : List Int
  i : Nat
  h : Int
def u8s (bs : List Int) : List V := bs.map fun b => .sc (.int .u8 b)
abbrev eCur (c : Cur) : List V := [.sl 3 1 c.bs.length (u8s c.bs), .sc (.int .i64 c.i), .sc (.int .i64 c.h)]
def curOk (c : Cur) : Prop := c.bs.length ≤ 1048576 ∧ (∀ b, b ∈ c.bs → 0 ≤ b ∧ b ≤ 255) ∧ c.i ≤ c.bs.length
def Draw (R : Rel) (args : List V) (c : Cur) {α : Type} (P : α → Prop) (res : α → V) : Prop := ∃ a c', P a ∧ curOk c' ∧ R (.ptr 0 0 :: args) [.var (eCur c)] (res a) [.var (eCur c')]
theorem draw_b {D : Dn} {f : SFn} {args : List V} {c : Cur} {α : Type} {P : α → Prop} {res : α → V} (h : ∀ Q : V → List O → Prop, (∀ a c', P a → curOk c' → Q (res a) [.var (eCur c')]) → BodyE D f (.ptr 0 0 :: args) [.var (eCur c)] Q) :
    Draw (Body D f) args c P res := by
  obtain ⟨v, o, ⟨a, c', h1, h2, rfl, rfl⟩, h3⟩ := body_ex (P := fun v o => ∃ a c', P a ∧ curOk c' ∧ v = res a ∧ o = [.var (eCur c')]) (fun Q hQ => h Q (fun a c' h1 h2 => hQ _ _ ⟨a, c', h1, h2, rfl, rfl⟩))
  exact ⟨a, c', h1, h2, h3⟩
@[simp high] theorem u8s_at {bs : List Int} {j : Nat} (h : j < bs.length) : (u8s bs)[j]? = some (.sc (.int .u8 bs[j])) := by simp [u8s, h]
@[simp high] theorem u8s_len (bs : List Int) : (u8s bs).length = bs.length := by simp [u8s]
@[simp] theorem u8s_ro (bs : List Int) (fl : Nat) : (u8s bs).map (roCell fl) = u8s bs := by simp [u8s, roCell]
abbrev l1ByteS (R : Rel) : Prop := ∀ c : Cur, curOk c → Draw R [] c (fun x : Int => 0 ≤ x ∧ x ≤ 255) (fun x => I x)
theorem and255 (n : Nat) : ∃ x : Nat, x ≤ 255 ∧ IntKind.i64.wrap ((n &&& 255 % 2 ^ IntKind.i64.bits : Nat) : Int) = x := by
  have e : (255 % 2 ^ IntKind.i64.bits : Nat) = 255 := by decide
  rw [e]
  have h : n &&& 255 ≤ 255 := Nat.and_le_right
  exact ⟨n &&& 255, h, wrap_id (by omega) (by omega)⟩
theorem l1Byte_b (D : Dn) : l1ByteS (Body D sspec_l1Byte) := by
  intro c hc
  refine draw_b (fun Q hQ => ?_)
  have h1 := hc.1
  by_cases h : c.i < c.bs.length
  · have hw : IntKind.i64.wrap ((c.i : Int) + 1) = (c.i + 1 : Nat) := by rw [wrap_id (by omega) (by omega)]; simp
    simp -implicitDefEqProofs [h, outO, plainCells]
    generalize IntKind.i64.wrap (IntKind.i64.wrap (c.h * 6364136223846793005) + 1442695040888963407) = h'
    generalize Int.toNat _ = n1
    obtain ⟨x, hx, e⟩ := and255 n1
    rw [e, hw]
    exact hQ x ⟨c.bs, c.i + 1, h'⟩ ⟨by omega, by omega⟩ ⟨hc.1, hc.2.1, h⟩
  · simp -implicitDefEqProofs [h, outO, plainCells]
    generalize IntKind.i64.wrap (IntKind.i64.wrap (c.h * 6364136223846793005) + 1442695040888963407) = h'
    generalize Int.toNat _ = n1
    obtain ⟨x, hx, e⟩ := and255 n1
    rw [e]
    exact hQ x ⟨c.bs, c.i, h'⟩ ⟨by omega, by omega⟩ ⟨hc.1, hc.2.1, hc.2.2⟩
abbrev l1BelowS (R : Rel) : Prop := ∀ (c : Cur) (n : Int), curOk c → n ≤ 1000000000 → Draw R [I n] c (fun x : Int => 0 ≤ x ∧ (n ≤ 0 → x = 0) ∧ (0 < n → x < n)) (fun x => I x)
theorem tmodB {x n : Int} (h : 0 ≤ x) (hn : 0 < n) : 0 ≤ x.tmod n ∧ x.tmod n < n := ⟨Int.tmod_nonneg n h, Int.tmod_lt_of_pos x hn⟩
theorem l1Below_b (D : Dn) (hB : l1ByteS (D gspec_l1Byte)) : l1BelowS (Body D sspec_l1Below) := by
  intro c n hc hn
  refine draw_b (fun Q hQ => ?_)
  by_cases h0 : n ≤ 0
  · simp -implicitDefEqProofs [h0, outO, plainCells]
    exact hQ 0 c ⟨by omega, fun _ => rfl, fun h => by omega⟩ hc
  have hne : ¬ n = 0 := by omega
  by_cases h1 : n ≤ 256
  · simp -implicitDefEqProofs [h0, h1]
    obtain ⟨x, c1, hx, hc1, px⟩ := hB c hc
    simp -implicitDefEqProofs [eCur] at px
    refine callQ_of (px) ?_
    simp -implicitDefEqProofs [h0, hne, outO, plainCells]
    have := tmodB (n := n) hx.1 (by omega)
    exact hQ _ c1 ⟨this.1, fun h => absurd h h0, fun _ => this.2⟩ hc1
  · simp -implicitDefEqProofs [h0, h1]
    obtain ⟨x, c1, hx, hc1, px⟩ := hB c hc
    simp -implicitDefEqProofs [eCur] at px
    refine callQ_of (px) ?_
    simp -implicitDefEqProofs [h0]
    obtain ⟨y, c2, hy, hc2, py⟩ := hB c1 hc1
    simp -implicitDefEqProofs [eCur] at py
    refine callQ_of (py) ?_
    simp -implicitDefEqProofs [h0]
    obtain ⟨z, c3, hz, hc3, pz⟩ := hB c2 hc2
    simp -implicitDefEqProofs [eCur] at pz
    refine callQ_of (pz) ?_
    simp -implicitDefEqProofs [h0, hne, outO, plainCells]
    have w1 : IntKind.i64.wrap (x * 65536) = x * 65536 := wrap_id (by omega) (by omega)
    have w2 : IntKind.i64.wrap (y * 256) = y * 256 := wrap_id (by omega) (by omega)
    have w3 : IntKind.i64.wrap (x * 65536 + y * 256) = x * 65536 + y * 256 := wrap_id (by omega) (by omega)
    have w4 : IntKind.i64.wrap (x * 65536 + y * 256 + z) = x * 65536 + y * 256 + z := wrap_id (by omega) (by omega)
    rw [w1, w2, w3, w4]
    have := tmodB (x := x * 65536 + y * 256 + z) (n := n) (by omega) (by omega)
    exact hQ _ c3 ⟨this.1, fun h => absurd h h0, fun _ => this.2⟩ hc3
abbrev l1OnceS (R : Rel) : Prop := ∀ (c : Cur) (n : Int), curOk c → n ≤ 1000000000 → Draw R [I n] c (fun _ : Bool => True) (fun b => B b)
theorem l1Once_b (D : Dn) (hB : l1BelowS (D gspec_l1Below)) : l1OnceS (Body D sspec_l1Once) := by
  intro c n hc hn
  refine draw_b (fun Q hQ => ?_)
  simp -implicitDefEqProofs
  obtain ⟨x, c1, hx, hc1, px⟩ := hB c n hc hn
  simp -implicitDefEqProofs [eCur] at px
  refine callQ_of (px) ?_
  simp -implicitDefEqProofs [outO, plainCells]
  exact hQ _ c1 trivial hc1
abbrev l1IntS (R : Rel) : Prop := ∀ (c : Cur) (xs : List Int), curOk c → 0 < xs.length → xs.length ≤ 1000000 → Draw R [.sl 1 1 xs.length (ints xs)] c (fun x : Int => x ∈ xs) (fun x => I x)
theorem l1Int_b (D : Dn) (hB : l1BelowS (D gspec_l1Below)) : l1IntS (Body D sspec_l1Int) := by
  intro c xs hc h0 hl
  refine draw_b (fun Q hQ => ?_)
  simp -implicitDefEqProofs
  obtain ⟨x, c1, hx, hc1, px⟩ := hB c xs.length hc (by omega)
  simp -implicitDefEqProofs [eCur] at px
  refine callQ_of (px) ?_
  obtain ⟨n, rfl⟩ : ∃ n : Nat, x = n := ⟨x.toNat, by omega⟩
  have hn : n < xs.length := by have := hx.2.2 (by omega); omega
  simp -implicitDefEqProofs [hn, outO, plainCells]
  exact hQ _ c1 (List.getElem_mem hn) hc1
abbrev l1NewS (R : Rel) : Prop := ∀ bs : List Int, bs.length ≤ 1048576 → (∀ b, b ∈ bs → 0 ≤ b ∧ b ≤ 255) → ∃ c : Cur, curOk c ∧ R [.sl 3 1 bs.length (u8s bs)] [] (.rptr 0 (eCur c) 0) []
theorem l1New_b (D : Dn) : l1NewS (Body D sspec_l1New) := by
  intro bs hl hb
  obtain ⟨v, o, ⟨c, h1, rfl, rfl⟩, h3⟩ := body_ex (P := fun v o => ∃ c : Cur, curOk c ∧ v = .rptr 0 (eCur c) 0 ∧ o = []) (D := D) (f := sspec_l1New) (args := [.sl 3 1 bs.length (u8s bs)]) (given := []) (fun Q hQ => by
    simp -implicitDefEqProofs
    obtain ⟨h0, hh0⟩ : ∃ h0, h0 = IntKind.i64.wrap (193017 + (bs.length : Int)) := ⟨_, rfl⟩
    rw [← hh0]
    refine swp_loop (fun k s => ∃ j h, j + k = min bs.length 4000 ∧ s = ⟨[.sl 3 1 bs.length (u8s bs), .undef, I h, I j, .undef], [.free]⟩) ?_ (min bs.length 4000) _ ⟨0, h0, by simp, by simp⟩
    intro k s ⟨j, h, hj, hs⟩
    subst hs
    by_cases hjn : j < bs.length
    · by_cases hj4 : j < 4000
      · have hw : IntKind.i64.wrap ((j : Int) + 1) = (j + 1 : Nat) := by rw [wrap_id (by omega) (by omega)]; simp
        have hj4' : (j : Int) < 4000 := by omega
        simp -implicitDefEqProofs [hjn, hj4, hj4']
        refine ⟨k - 1, by omega, j + 1, by omega, ?_⟩
        simp [hw]
      · have hj4' : ¬ (j : Int) < 4000 := by omega
        simp -implicitDefEqProofs [hjn, hj4, hj4']
        exact hQ _ _ ⟨⟨bs, 0, h⟩, ⟨hl, hb, Nat.zero_le _⟩, rfl, rfl⟩
    · simp -implicitDefEqProofs [hjn]
      exact hQ _ _ ⟨⟨bs, 0, h⟩, ⟨hl, hb, Nat.zero_le _⟩, rfl, rfl⟩)
  exact ⟨c, h1, h3⟩
end Go.Eng.T

namespace Go.Eng.T
set_option maxRecDepth 20000
set_option maxHeartbeats 1000000
theorem up_at {l : List Int} (h : Up l) {i j : Nat} (hij : i < j) (hj : j < l.length) : l[i] < l[j] := List.pairwise_iff_getElem.1 h i j (by omega) hj hij
theorem vers_of {l : List Int} (h : Up l) (h1 : ∀ x, x ∈ l → 1 ≤ x ∧ x ≤ 9) (h0 : 0 < l.length) : areVers l = true := by
  unfold areVers
  simp only [Bool.and_eq_true, decide_eq_true_eq]
  refine ⟨?_, h0⟩
  unfold risesV
  rw [List.all_eq_true]
  intro i hi
  have hi := List.mem_range.1 hi
  rw [getDV hi]
  have := h1 _ (List.getElem_mem hi)
  simp only [Bool.and_eq_true, Bool.or_eq_true, decide_eq_true_eq]
  refine ⟨⟨by omega, by omega⟩, ?_⟩
  by_cases hz : i = 0
  · exact .inl hz
  · right
    rw [getDV (by omega : i - 1 < l.length)]
    exact up_at h (by omega) hi
theorem stages_of {l : List Int} (h : Up l) (h1 : ∀ x, x ∈ l → 1 ≤ x ∧ x ≤ 100) : risesF l l.length = true := by
  unfold risesF
  rw [List.all_eq_true]
  intro i hi
  have hi := List.mem_range.1 hi
  rw [getD_at hi]
  have := h1 _ (List.getElem_mem hi)
  simp only [Bool.and_eq_true, Bool.or_eq_true, decide_eq_true_eq]
  refine ⟨⟨by omega, by omega⟩, ?_⟩
  by_cases hz : i = 0
  · exact .inl hz
  · right
    rw [getD_at (by omega : i - 1 < l.length)]
    exact up_at h (by omega) hi
theorem allIn_of {l : List Int} {a b : Int} (h1 : ∀ x, x ∈ l → a ≤ x ∧ x ≤ b) : allIn l a b = true := by
  unfold allIn
  rw [List.all_eq_true]
  intro x hx
  have := h1 x hx
  simpa using this
theorem tags_of {l : List Int} (h : Up l) (h1 : ∀ x, x ∈ l → 0 ≤ x ∧ x ≤ 255) : areTags l = true := by
  unfold areTags
  simp only [Bool.and_eq_true]
  refine ⟨?_, allIn_of h1⟩
  rw [allTo_iff]
  intro i hi
  by_cases hz : i = 0
  · subst hz; exact upTo_zero l
  · rw [upTo_at hz hi (by omega)]
    simpa using up_at h (by omega) hi
def VP (l : List Int) (b : Int) (m : Nat) : Prop := Up l ∧ (∀ x, x ∈ l → 1 ≤ x ∧ x ≤ b) ∧ l.length ≤ m
theorem vp_put {l : List Int} {b : Int} {m : Nat} {v : Int} (h : VP l b m) (hv : 1 ≤ v ∧ v ≤ b) : VP (putV l v) b (m + 1) := by
  refine ⟨putV_up v h.1, ?_, Nat.le_trans (putV_len l v) (by have := h.2.2; omega)⟩
  intro x hx
  rcases (putV_mem l v x).1 hx with hx | rfl
  · exact h.2.1 x hx
  · exact hv
theorem vp_mono {l : List Int} {b : Int} {m m' : Nat} (h : VP l b m) (hm : m ≤ m') : VP l b m' := ⟨h.1, h.2.1, by have := h.2.2; omega⟩
theorem vp_nil (b : Int) : VP [] b 0 := ⟨List.Pairwise.nil, by simp, by simp⟩
theorem vp_one {b v : Int} (hv : 1 ≤ v ∧ v ≤ b) : VP [v] b 1 := ⟨by simp, by simpa using hv, by simp⟩
theorem put_pos (l : List Int) (v : Int) : 0 < (putV l v).length := List.length_pos_of_mem ((putV_mem l v v).2 (.inr rfl))
abbrev l12DrawS (R : Rel) : Prop := ∀ c : Cur, curOk c → Draw R [] c (fun l : List Int => VP l 6 4 ∧ 0 < l.length) (fun l => .sl 0 1 l.length (ints l))
theorem l12Draw_b (D : Dn) (hB : l1BelowS (D gspec_l1Below)) (hP : l4PutS (D gspec_l4Put)) : l12DrawS (Body D sspec_l12Draw) := by
  intro c hc
  refine draw_b (fun Q hQ => ?_)
  simp -implicitDefEqProofs
  obtain ⟨x, c1, hx, hc1, px⟩ := hB c 4 hc (by omega)
  simp -implicitDefEqProofs [eCur, ints] at px
  refine callQ_of (px) ?_
  have hx4 := hx.2.2 (by omega)
  have w1 : IntKind.i64.wrap (1 + x) = 1 + x := wrap_id (by omega) (by omega)
  simp -implicitDefEqProofs [w1]
  obtain ⟨y, c2, hy, hc2, py⟩ := hB c1 4 hc1 (by omega)
  simp -implicitDefEqProofs [eCur, ints] at py
  refine callQ_of (py) ?_
  have hy4 := hy.2.2 (by omega)
  obtain ⟨n, rfl⟩ : ∃ n : Nat, y = n := ⟨y.toNat, by omega⟩
  simp -implicitDefEqProofs
  obtain ⟨LI, hLI⟩ : ∃ LI : Nat → St → Prop, LI = fun k s => ∃ j cc l o2, j + k = n ∧ curOk cc ∧ VP l 6 (1 + j) ∧ 0 < l.length ∧ s = ⟨[.ptr 0 0, .undef, .arr 3, I k, .undef], [.var (eCur cc), .free, o2, .arr 1 0 l.length (ints l)]⟩ := ⟨_, rfl⟩
  refine swp_loop LI ?_ (n) _ (by rw [hLI]; exact ⟨0, c2, [1+x], .free, by simp, hc2, vp_one (by omega), by simp, by simp [ints]⟩)
  intro k s hs
  rw [hLI] at hs
  obtain ⟨j, cc, l, o2, hj, hcc, hl, hl0, hs⟩ := hs
  subst hs
  by_cases hk : 0 < k
  · have hwk : IntKind.i64.wrap ((k : Int) - 1) = (k - 1 : Nat) := by rw [wrap_id (by omega) (by omega)]; omega
    simp -implicitDefEqProofs [hk]
    obtain ⟨z, c3, hz, hc3, pz⟩ := hB cc 6 hcc (by omega)
    simp -implicitDefEqProofs [eCur, ints] at pz
    refine callQ_of (pz) ?_
    have hz4 := hz.2.2 (by omega)
    have w2 : IntKind.i64.wrap (1 + z) = 1 + z := wrap_id (by omega) (by omega)
    simp -implicitDefEqProofs [w2]
    refine callQ_of (hP l (1 + z) (by have := hl.2.2; omega)) ?_
    simp -implicitDefEqProofs [hwk]
    refine ⟨k - 1, by omega, ?_⟩
    rw [hLI]
    exact ⟨j + 1, c3, putV l (1 + z), .free, by omega, hc3, vp_put hl (by omega), put_pos _ _, rfl⟩
  · have hk0 : k = 0 := by omega
    subst hk0
    simp -implicitDefEqProofs [outO, plainCells]
    exact hQ l cc ⟨vp_mono hl (by omega), hl0⟩ hcc
abbrev l12AnyS (R : Rel) : Prop := ∀ c : Cur, curOk c → Draw R [] c (fun l : List Int => l.length ≤ 5) (fun l => .sl 0 1 l.length (ints l))
theorem l12Any_b (D : Dn) (hB : l1BelowS (D gspec_l1Below)) (hI : l1IntS (D gspec_l1Int)) (hP : l12DrawS (D gspec_l12Draw)) : l12AnyS (Body D sspec_l12Any) := by
  intro c hc
  refine draw_b (fun Q hQ => ?_)
  simp -implicitDefEqProofs
  obtain ⟨l, c1, hl, hc1, pl⟩ := hP c hc
  simp -implicitDefEqProofs [eCur, ints] at pl
  refine callQ_of (pl) ?_
  obtain ⟨hv, hl0⟩ := hl
  have hl4 := hv.2.2
  simp -implicitDefEqProofs
  obtain ⟨x, c2, hx, hc2, px⟩ := hB c1 9 hc1 (by omega)
  simp -implicitDefEqProofs [eCur, ints] at px
  refine callQ_of (px) ?_
  by_cases g0 : x = 0
  · simp -implicitDefEqProofs [g0]
    obtain ⟨y, c3, hy, hc3, py⟩ := hI c2 [0, -1, 9, 10] hc2 (by simp) (by simp)
    simp -implicitDefEqProofs [eCur, ints] at py
    refine callQ_of (py) ?_
    simp -implicitDefEqProofs [hl0, outO, plainCells]
    have := hQ (l.set 0 y) c3 (by simp; omega) hc3
    simpa [ints, List.map_set] using this
  by_cases g1 : x = 1
  · have hb : (l.length + 1) * 8 ≤ 1099511627776 := by omega
    simp -implicitDefEqProofs [g1, hl0, hb, outO, plainCells]
    have := hQ (l ++ [l[0]]) c2 (by simp; omega) hc2
    simpa [ints] using this
  by_cases g2 : x = 2
  · simp -implicitDefEqProofs [g2, outO, plainCells]
    exact hQ [] c2 (by simp) hc2
  simp -implicitDefEqProofs [g0, g1, g2, outO, plainCells]
  exact hQ l c2 (by omega) hc2
abbrev l17TagsS (R : Rel) : Prop := ∀ c : Cur, curOk c → Draw R [] c (fun l : List Int => VP l 200 4) (fun l => .sl 0 1 l.length (ints l))
theorem mem6 {x : Int} (h : x ∈ [1, 2, 3, 10, 40, (200 : Int)]) : 1 ≤ x ∧ x ≤ 200 := by simp at h; omega
theorem l17Tags_b (D : Dn) (hB : l1BelowS (D gspec_l1Below)) (hI : l1IntS (D gspec_l1Int)) (hP : l4PutS (D gspec_l4Put)) : l17TagsS (Body D sspec_l17Tags) := by
  intro c hc
  refine draw_b (fun Q hQ => ?_)
  simp -implicitDefEqProofs
  obtain ⟨y, c2, hy, hc2, py⟩ := hB c 5 hc (by omega)
  simp -implicitDefEqProofs [eCur, ints] at py
  refine callQ_of (py) ?_
  have hy4 := hy.2.2 (by omega)
  obtain ⟨n, rfl⟩ : ∃ n : Nat, y = n := ⟨y.toNat, by omega⟩
  simp -implicitDefEqProofs
  obtain ⟨LI, hLI⟩ : ∃ LI : Nat → St → Prop, LI = fun k s => ∃ j cc l o2, j + k = n ∧ curOk cc ∧ VP l 200 j ∧ s = ⟨[.ptr 0 0, .undef, .arr 4, I k, .undef], [.var (eCur cc), .free, o2, .free, .arr 1 0 l.length (ints l)]⟩ := ⟨_, rfl⟩
  refine swp_loop LI ?_ (n) _ (by rw [hLI]; exact ⟨0, c2, [], .free, by simp, hc2, vp_nil _, by simp [ints]⟩)
  intro k s hs
  rw [hLI] at hs
  obtain ⟨j, cc, l, o2, hj, hcc, hl, hs⟩ := hs
  subst hs
  by_cases hk : 0 < k
  · have hwk : IntKind.i64.wrap ((k : Int) - 1) = (k - 1 : Nat) := by rw [wrap_id (by omega) (by omega)]; omega
    simp -implicitDefEqProofs [hk]
    obtain ⟨z, c3, hz, hc3, pz⟩ := hI cc [1, 2, 3, 10, 40, 200] hcc (by simp) (by simp)
    simp -implicitDefEqProofs [eCur, ints] at pz
    refine callQ_of (pz) ?_
    simp -implicitDefEqProofs
    refine callQ_of (hP l z (by have := hl.2.2; omega)) ?_
    simp -implicitDefEqProofs [hwk]
    refine ⟨k - 1, by omega, ?_⟩
    rw [hLI]
    exact ⟨j + 1, c3, putV l z, _, by omega, hc3, vp_put hl (mem6 hz), rfl⟩
  · have hk0 : k = 0 := by omega
    subst hk0
    simp -implicitDefEqProofs [outO, plainCells]
    exact hQ l cc (vp_mono hl (by omega)) hcc
end Go.Eng.T

namespace Go.Eng.T
set_option maxRecDepth 20000
set_option maxHeartbeats 1000000
def BoxOk (b : Box) : Prop := isBox b = true ∧ b.drops.length ≤ 4 ∧ b.strips.length ≤ 4
theorem box_of {b : Box} (h0 : 0 ≤ b.limit ∧ b.limit ≤ 9) (h1 : VP b.drops 200 4) (h2 : VP b.strips 200 4) : BoxOk b := by
  refine ⟨?_, h1.2.2, h2.2.2⟩
  unfold isBox
  rw [allIn_of (fun x hx => by have := h1.2.1 x hx; omega), allIn_of (fun x hx => by have := h2.2.1 x hx; omega)]
  have := h1.2.2
  have := h2.2.2
  simp only [Bool.and_eq_true, decide_eq_true_eq]
  exact ⟨⟨⟨⟨⟨by omega, by omega⟩, by omega⟩, by omega⟩, trivial⟩, trivial⟩
abbrev l19DrawS (R : Rel) : Prop := ∀ c : Cur, curOk c → Draw R [] c BoxOk (fun b => .agg (eBox b))
theorem l19Draw_b (D : Dn) (hB : l1BelowS (D gspec_l1Below)) (hT : l17TagsS (D gspec_l17Tags)) : l19DrawS (Body D sspec_l19Draw) := by
  intro c hc
  refine draw_b (fun Q hQ => ?_)
  have hn := vp_mono (vp_nil 200) (show 0 ≤ 4 by omega)
  simp -implicitDefEqProofs
  obtain ⟨x, c1, hx, hc1, px⟩ := hB c 7 hc (by omega)
  simp -implicitDefEqProofs [eCur, ints] at px
  refine callQ_of (px) ?_
  by_cases g0 : x = 0
  · simp -implicitDefEqProofs [g0]
    obtain ⟨y, c2, hy, hc2, py⟩ := hB c1 6 hc1 (by omega)
    simp -implicitDefEqProofs [eCur, ints] at py
    refine callQ_of (py) ?_
    have hy6 := hy.2.2 (by omega)
    have w1 : IntKind.i64.wrap (1 + y) = 1 + y := wrap_id (by omega) (by omega)
    simp -implicitDefEqProofs [w1, outO, plainCells]
    exact hQ ⟨1 + y, [], [], false⟩ c2 (box_of (by dsimp only; omega) hn hn) hc2
  by_cases g1 : x = 1
  · simp -implicitDefEqProofs [g1]
    obtain ⟨t, c2, ht, hc2, pt⟩ := hT c1 hc1
    simp -implicitDefEqProofs [eCur, ints] at pt
    refine callQ_of (pt) ?_
    simp -implicitDefEqProofs [outO, plainCells]
    exact hQ ⟨0, t, [], false⟩ c2 (box_of (by dsimp only; omega) ht hn) hc2
  by_cases g2 : x = 2
  · simp -implicitDefEqProofs [g2]
    obtain ⟨t, c2, ht, hc2, pt⟩ := hT c1 hc1
    simp -implicitDefEqProofs [eCur, ints] at pt
    refine callQ_of (pt) ?_
    simp -implicitDefEqProofs [outO, plainCells]
    exact hQ ⟨0, [], t, false⟩ c2 (box_of (by dsimp only; omega) hn ht) hc2
  by_cases g3 : x = 3
  · simp -implicitDefEqProofs [g3, outO, plainCells]
    exact hQ ⟨0, [], [], true⟩ c1 (box_of (by dsimp only; omega) hn hn) hc1
  simp -implicitDefEqProofs [g0, g1, g2, g3, outO, plainCells]
  exact hQ ⟨0, [], [], false⟩ c1 (box_of (by dsimp only; omega) hn hn) hc1
def BoxSm (b : Box) : Prop := b.drops.length ≤ 7 ∧ b.strips.length ≤ 7
abbrev l19AnyS (R : Rel) : Prop := ∀ c : Cur, curOk c → Draw R [] c BoxSm (fun b => .agg (eBox b))
theorem l19Any_b (D : Dn) (hB : l1BelowS (D gspec_l1Below)) (hI : l1IntS (D gspec_l1Int)) (hT : l19DrawS (D gspec_l19Draw)) : l19AnyS (Body D sspec_l19Any) := by
  intro c hc
  refine draw_b (fun Q hQ => ?_)
  simp -implicitDefEqProofs
  obtain ⟨b, c1, hb, hc1, pb⟩ := hT c hc
  simp -implicitDefEqProofs [eCur, ints] at pb
  refine callQ_of (pb) ?_
  obtain ⟨_, hd, hs⟩ := hb
  obtain ⟨lim, drops, strips, lists⟩ := b
  dsimp only at hd hs
  simp -implicitDefEqProofs
  obtain ⟨x, c2, hx, hc2, px⟩ := hB c1 12 hc1 (by omega)
  simp -implicitDefEqProofs [eCur, ints] at px
  refine callQ_of (px) ?_
  by_cases g0 : x = 0
  · simp -implicitDefEqProofs [g0]
    obtain ⟨y, c3, hy, hc3, py⟩ := hI c2 [-1, 9, 10] hc2 (by simp) (by simp)
    simp -implicitDefEqProofs [eCur, ints] at py
    refine callQ_of (py) ?_
    simp -implicitDefEqProofs [outO, plainCells]
    exact hQ ⟨y, drops, strips, lists⟩ c3 ⟨by dsimp only; omega, by dsimp only; omega⟩ hc3
  by_cases g1 : x = 1
  · simp -implicitDefEqProofs [g1]
    obtain ⟨y, c3, hy, hc3, py⟩ := hI c2 [-1, 255, 256] hc2 (by simp) (by simp)
    simp -implicitDefEqProofs [eCur, ints] at py
    refine callQ_of (py) ?_
    simp -implicitDefEqProofs [outO, plainCells]
    exact hQ ⟨lim, [y], strips, lists⟩ c3 ⟨by simp, by dsimp only; omega⟩ hc3
  by_cases g2 : x = 2
  · simp -implicitDefEqProofs [g2, outO, plainCells]
    exact hQ ⟨lim, drops, [1, 2, 3, 4, 5, 6, 7], lists⟩ c2 ⟨by dsimp only; omega, by simp⟩ hc2
  simp -implicitDefEqProofs [g0, g1, g2, outO, plainCells]
  exact hQ ⟨lim, drops, strips, lists⟩ c2 ⟨by dsimp only; omega, by dsimp only; omega⟩ hc2
def PathOk (l : List Box) (m : Nat) : Prop := l.length ≤ m ∧ ∀ b, b ∈ l → BoxOk b
abbrev l19PathS (R : Rel) : Prop := ∀ c : Cur, curOk c → Draw R [] c (fun l : List Box => PathOk l 3) (fun l => .sl 0 4 l.length (l.flatMap eBox))
theorem path_add {l : List Box} {m : Nat} {b : Box} (h : PathOk l m) (hb : BoxOk b) : PathOk (l ++ [b]) (m + 1) := by
  refine ⟨by have := h.1; simp; omega, ?_⟩
  intro x hx
  rcases List.mem_append.1 hx with hx | hx
  · exact h.2 x hx
  · simp at hx; subst hx; exact hb
theorem l19Path_b (D : Dn) (hB : l1BelowS (D gspec_l1Below)) (hT : l19DrawS (D gspec_l19Draw)) : l19PathS (Body D sspec_l19Path) := by
  intro c hc
  refine draw_b (fun Q hQ => ?_)
  simp -implicitDefEqProofs
  obtain ⟨y, c2, hy, hc2, py⟩ := hB c 4 hc (by omega)
  simp -implicitDefEqProofs [eCur, ints] at py
  refine callQ_of (py) ?_
  have hy4 := hy.2.2 (by omega)
  obtain ⟨n, rfl⟩ : ∃ n : Nat, y = n := ⟨y.toNat, by omega⟩
  simp -implicitDefEqProofs
  obtain ⟨LI, hLI⟩ : ∃ LI : Nat → St → Prop, LI = fun k s => ∃ j cc l o2 o3 o4, j + k = n ∧ curOk cc ∧ PathOk l j ∧ s = ⟨[.ptr 0 0, .undef, .arr 6, I k, .undef], [.var (eCur cc), .free, o2, o3, o4, .free, .arr 4 0 l.length (l.flatMap eBox)]⟩ := ⟨_, rfl⟩
  refine swp_loop LI ?_ (n) _ (by rw [hLI]; exact ⟨0, c2, [], .free, .free, .free, by simp, hc2, ⟨by simp, by simp⟩, by simp⟩)
  intro k s hs
  rw [hLI] at hs
  obtain ⟨j, cc, l, o2, o3, o4, hj, hcc, hl, hs⟩ := hs
  subst hs
  by_cases hk : 0 < k
  · have hwk : IntKind.i64.wrap ((k : Int) - 1) = (k - 1 : Nat) := by rw [wrap_id (by omega) (by omega)]; omega
    have hll := hl.1
    have hb1 : (l.length + 1) * 64 ≤ 1099511627776 := by omega
    simp -implicitDefEqProofs [hk]
    obtain ⟨b, c3, hb, hc3, pb⟩ := hT cc hcc
    simp -implicitDefEqProofs [eCur, ints] at pb
    refine callQ_of (pb) ?_
    simp -implicitDefEqProofs [hb1, hwk]
    refine ⟨k - 1, by omega, ?_⟩
    rw [hLI]
    exact ⟨j + 1, c3, l ++ [b], .dead, .dead, .dead, by omega, hc3, path_add hl hb, by simp [eBox, ints]⟩
  · have hk0 : k = 0 := by omega
    subst hk0
    simp -implicitDefEqProofs [outO, plainCells]
    exact hQ l cc ⟨by have := hl.1; omega, hl.2⟩ hcc
def StOk (s : List Int) : Prop := VP s 100 3 ∧ 0 < s.length ∧ s.getD (s.length - 1) 0 = 100
def RollOk (r : Rollout) : Prop := StOk r.stages ∧ (1 ≤ r.version ∧ r.version ≤ 6)
abbrev l26DrawS (R : Rel) : Prop := ∀ c : Cur, curOk c → Draw R [] c RollOk (fun r => .agg (eRollout r))
theorem st_of {l : List Int} (h : VP l 90 2) : StOk (l ++ [100]) := by
  obtain ⟨h1, h2, h3⟩ := h
  refine ⟨⟨?_, ?_, by simp; omega⟩, by simp, by simp⟩
  · refine List.pairwise_append.2 ⟨h1, by simp, ?_⟩
    intro x hx y hy
    simp at hy
    have := h2 x hx
    omega
  · intro x hx
    rcases List.mem_append.1 hx with hx | hx
    · have := h2 x hx; omega
    · simp at hx; omega
theorem l26Draw_b (D : Dn) (hB : l1BelowS (D gspec_l1Below)) (hP : l4PutS (D gspec_l4Put)) : l26DrawS (Body D sspec_l26Draw) := by
  intro c hc
  refine draw_b (fun Q hQ => ?_)
  simp -implicitDefEqProofs
  obtain ⟨x, c1, hx, hc1, px⟩ := hB c 6 hc (by omega)
  simp -implicitDefEqProofs [eCur, ints] at px
  refine callQ_of (px) ?_
  have hx6 := hx.2.2 (by omega)
  have w1 : IntKind.i64.wrap (1 + x) = 1 + x := wrap_id (by omega) (by omega)
  simp -implicitDefEqProofs [w1]
  obtain ⟨y, c2, hy, hc2, py⟩ := hB c1 3 hc1 (by omega)
  simp -implicitDefEqProofs [eCur, ints] at py
  refine callQ_of (py) ?_
  have hy3 := hy.2.2 (by omega)
  obtain ⟨n, rfl⟩ : ∃ n : Nat, y = n := ⟨y.toNat, by omega⟩
  simp -implicitDefEqProofs
  obtain ⟨LI, hLI⟩ : ∃ LI : Nat → St → Prop, LI = fun k s => ∃ j cc l o3, j + k = n ∧ curOk cc ∧ VP l 90 j ∧ s = ⟨[.ptr 0 0, .ptr 1 0, .ptr 2 0, I k, .undef], [.var (eCur cc), .var [I 0, .nil 1, I 0, B false], .var [I (1 + x), .arr 6, I 0, B false], o3, .free, .free, .arr 1 0 l.length (ints l)]⟩ := ⟨_, rfl⟩
  refine swp_loop LI ?_ (n) _ (by rw [hLI]; exact ⟨0, c2, [], .free, by simp, hc2, vp_nil _, by simp [ints]⟩)
  intro k s hs
  rw [hLI] at hs
  obtain ⟨j, cc, l, o3, hj, hcc, hl, hs⟩ := hs
  subst hs
  by_cases hk : 0 < k
  · have hwk : IntKind.i64.wrap ((k : Int) - 1) = (k - 1 : Nat) := by rw [wrap_id (by omega) (by omega)]; omega
    simp -implicitDefEqProofs [hk]
    obtain ⟨z, c3, hz, hc3, pz⟩ := hB cc 90 hcc (by omega)
    simp -implicitDefEqProofs [eCur, ints] at pz
    refine callQ_of (pz) ?_
    have hz4 := hz.2.2 (by omega)
    have w2 : IntKind.i64.wrap (1 + z) = 1 + z := wrap_id (by omega) (by omega)
    simp -implicitDefEqProofs [w2]
    refine callQ_of (hP l (1 + z) (by have := hl.2.2; omega)) ?_
    simp -implicitDefEqProofs [hwk]
    refine ⟨k - 1, by omega, ?_⟩
    rw [hLI]
    exact ⟨j + 1, c3, putV l (1 + z), _, by omega, hc3, vp_put hl (by omega), rfl⟩
  · have hk0 : k = 0 := by omega
    subst hk0
    have hll := hl.2.2
    have hb1 : (l.length + 1) * 8 ≤ 1099511627776 := by omega
    simp -implicitDefEqProofs [hb1]
    have hst := st_of (vp_mono hl (by omega))
    obtain ⟨z, c3, hz, hc3, pz⟩ := hB cc (l.length + 1) hcc (by omega)
    simp -implicitDefEqProofs [eCur, ints] at pz
    refine callQ_of (pz) ?_
    simp -implicitDefEqProofs [outO, plainCells]
    have := hQ ⟨1 + x, l ++ [100], z, false⟩ c3 ⟨hst, by dsimp only; omega⟩ hc3
    simpa [ints, eRollout] using this
abbrev l26AnyS (R : Rel) : Prop := ∀ c : Cur, curOk c → Draw R [] c (fun r : Rollout => r.stages.length ≤ 3) (fun r => .agg (eRollout r))
theorem l26Any_b (D : Dn) (hB : l1BelowS (D gspec_l1Below)) (hI : l1IntS (D gspec_l1Int)) (hT : l26DrawS (D gspec_l26Draw)) : l26AnyS (Body D sspec_l26Any) := by
  intro c hc
  refine draw_b (fun Q hQ => ?_)
  simp -implicitDefEqProofs
  obtain ⟨r, c1, hr, hc1, pr⟩ := hT c hc
  simp -implicitDefEqProofs [eCur, ints] at pr
  refine callQ_of (pr) ?_
  obtain ⟨ver, st, pos, off⟩ := r
  obtain ⟨⟨⟨_, _, hl⟩, hl0, _⟩, _⟩ := hr
  dsimp only at hl hl0
  simp -implicitDefEqProofs
  obtain ⟨x, c2, hx, hc2, px⟩ := hB c1 10 hc1 (by omega)
  simp -implicitDefEqProofs [eCur, ints] at px
  refine callQ_of (px) ?_
  by_cases g0 : x = 0
  · simp -implicitDefEqProofs [g0]
    obtain ⟨y, c3, hy, hc3, py⟩ := hI c2 [0, 9, 10] hc2 (by simp) (by simp)
    simp -implicitDefEqProofs [eCur, ints] at py
    refine callQ_of (py) ?_
    simp -implicitDefEqProofs [outO, plainCells]
    exact hQ ⟨y, st, pos, off⟩ c3 hl hc3
  by_cases g1 : x = 1
  · simp -implicitDefEqProofs [g1]
    obtain ⟨y, c3, hy, hc3, py⟩ := hI c2 [0, 101, 100] hc2 (by simp) (by simp)
    simp -implicitDefEqProofs [eCur, ints] at py
    refine callQ_of (py) ?_
    simp -implicitDefEqProofs [hl0, outO, plainCells]
    have := hQ ⟨ver, st.set 0 y, pos, off⟩ c3 (by simpa using hl) hc3
    simpa [ints, eRollout, List.map_set] using this
  by_cases g2 : x = 2
  · simp -implicitDefEqProofs [g2]
    obtain ⟨y, c3, hy, hc3, py⟩ := hI c2 [-1, st.length, 9223372036854775807] hc2 (by simp) (by simp)
    simp -implicitDefEqProofs [eCur, ints] at py
    refine callQ_of (py) ?_
    simp -implicitDefEqProofs [outO, plainCells]
    exact hQ ⟨ver, st, y, off⟩ c3 hl hc3
  by_cases g3 : x = 3
  · simp -implicitDefEqProofs [g3, outO, plainCells]
    exact hQ ⟨ver, st, pos, true⟩ c2 hl hc2
  by_cases g4 : x = 4
  · simp -implicitDefEqProofs [g4, outO, plainCells]
    exact hQ ⟨ver, [], pos, off⟩ c2 (by simp) hc2
  simp -implicitDefEqProofs [g0, g1, g2, g3, g4, outO, plainCells]
  exact hQ ⟨ver, st, pos, off⟩ c2 hl hc2
end Go.Eng.T

namespace Go.Eng.T
set_option maxRecDepth 20000
set_option maxHeartbeats 1000000
def TagOk (l : List Int) (m : Nat) : Prop := Up l ∧ (∀ x, x ∈ l → x ∈ [1, 2, 3, 40, (200 : Int)]) ∧ l.length ≤ m
theorem tag_put {l : List Int} {m : Nat} {v : Int} (h : TagOk l m) (hv : v ∈ [1, 2, 3, 40, (200 : Int)]) : TagOk (putV l v) (m + 1) := by
  refine ⟨putV_up v h.1, ?_, Nat.le_trans (putV_len l v) (by have := h.2.2; omega)⟩
  intro x hx
  rcases (putV_mem l v x).1 hx with hx | rfl
  · exact h.2.1 x hx
  · exact hv
structure EndOk (e : Endpoint) : Prop where
  vers : VP e.versions 6 4
  pos : 0 < e.versions.length
  tags : TagOk e.tags 3
  path : PathOk e.path 3
  cls : 0 ≤ e.cls ∧ e.cls ≤ 5
theorem mem5 {x : Int} (h : x ∈ [1, 2, 3, 40, (200 : Int)]) : (0 ≤ x ∧ x ≤ 255) ∧ isReserved x = false := by
  simp at h
  rcases h with rfl | rfl | rfl | rfl | rfl <;> exact ⟨by omega, by decide⟩
theorem end_ok {e : Endpoint} (h : EndOk e) : isEndpoint e = true := by
  unfold isEndpoint
  rw [vers_of h.vers.1 (fun x hx => by have := h.vers.2.1 x hx; omega) h.pos, tags_of h.tags.1 (fun x hx => (mem5 (h.tags.2.1 x hx)).1)]
  have h1 : e.tags.any isReserved = false := by
    rw [List.any_eq_false]
    intro x hx
    rw [(mem5 (h.tags.2.1 x hx)).2]
    simp
  have h2 : e.path.all isBox = true := List.all_eq_true.2 fun b hb => (h.path.2 b hb).1
  rw [h1, h2]
  have := h.tags.2.2
  have := h.path.1
  have := h.cls
  simp only [Bool.true_and, Bool.and_true, Bool.not_false, Bool.and_eq_true, decide_eq_true_eq]
  exact ⟨by omega, by omega, by omega, by omega⟩
abbrev l31DrawS (R : Rel) : Prop := ∀ c : Cur, curOk c → Draw R [] c EndOk (fun e => .agg (eEndpoint e))
theorem l31Draw_b (D : Dn) (hB : l1BelowS (D gspec_l1Below)) (hI : l1IntS (D gspec_l1Int)) (hV : l12DrawS (D gspec_l12Draw)) (hP : l19PathS (D gspec_l19Path)) (hU : l4PutS (D gspec_l4Put)) : l31DrawS (Body D sspec_l31Draw) := by
  intro c hc
  refine draw_b (fun Q hQ => ?_)
  simp -implicitDefEqProofs
  obtain ⟨vs, c1, hvs, hc1, pvs⟩ := hV c hc
  simp -implicitDefEqProofs [eCur, ints] at pvs
  refine callQ_of (pvs) ?_
  simp -implicitDefEqProofs
  obtain ⟨pa, c2, hpa, hc2, ppa⟩ := hP c1 hc1
  simp -implicitDefEqProofs [eCur, ints] at ppa
  refine callQ_of (ppa) ?_
  simp -implicitDefEqProofs
  obtain ⟨cl, c3, hcl, hc3, pcl⟩ := hB c2 6 hc2 (by omega)
  simp -implicitDefEqProofs [eCur, ints] at pcl
  refine callQ_of (pcl) ?_
  have hcl6 := hcl.2.2 (by omega)
  simp -implicitDefEqProofs
  obtain ⟨y, c4, hy, hc4, py⟩ := hB c3 4 hc3 (by omega)
  simp -implicitDefEqProofs [eCur, ints] at py
  refine callQ_of (py) ?_
  have hy4 := hy.2.2 (by omega)
  obtain ⟨n, rfl⟩ : ∃ n : Nat, y = n := ⟨y.toNat, by omega⟩
  simp -implicitDefEqProofs
  obtain ⟨LI, hLI⟩ : ∃ LI : Nat → St → Prop, LI = fun k s => ∃ j cc l o5, j + k = n ∧ curOk cc ∧ TagOk l j ∧ s = ⟨[.ptr 0 0, .ptr 1 0, .ptr 4 0, I k, .undef], [.var (eCur cc), .var [.nil 1, .nil 1, .nil 4, I 0], .arr 1 0 vs.length (ints vs), .arr 4 0 pa.length (pa.flatMap eBox), .var [.arr 2, .arr 7, .arr 3, I cl], o5, .free, .arr 1 0 l.length (ints l)]⟩ := ⟨_, rfl⟩
  refine swp_loop LI ?_ (n) _ (by rw [hLI]; exact ⟨0, c4, [], .free, by simp, hc4, ⟨List.Pairwise.nil, by simp, by simp⟩, by simp [ints]⟩)
  intro k s hs
  rw [hLI] at hs
  obtain ⟨j, cc, l, o5, hj, hcc, hl, hs⟩ := hs
  subst hs
  by_cases hk : 0 < k
  · have hwk : IntKind.i64.wrap ((k : Int) - 1) = (k - 1 : Nat) := by rw [wrap_id (by omega) (by omega)]; omega
    simp -implicitDefEqProofs [hk]
    obtain ⟨z, c5, hz, hc5, pz⟩ := hI cc [1, 2, 3, 40, 200] hcc (by simp) (by simp)
    simp -implicitDefEqProofs [eCur, ints] at pz
    refine callQ_of (pz) ?_
    simp -implicitDefEqProofs
    refine callQ_of (hU l z (by have := hl.2.2; omega)) ?_
    simp -implicitDefEqProofs [hwk]
    refine ⟨k - 1, by omega, ?_⟩
    rw [hLI]
    exact ⟨j + 1, c5, putV l z, _, by omega, hc5, tag_put hl hz, rfl⟩
  · have hk0 : k = 0 := by omega
    subst hk0
    simp -implicitDefEqProofs [outO, plainCells]
    exact hQ ⟨vs, l, pa, cl⟩ cc ⟨hvs.1, hvs.2, ⟨hl.1, hl.2.1, by have := hl.2.2; dsimp only; omega⟩, hpa, by dsimp only; omega⟩ hcc
structure EndSm (e : Endpoint) : Prop where
  vers : e.versions.length ≤ 5
  tags : e.tags.length ≤ 6
  path : e.path.length ≤ 5
  box : ∀ b, b ∈ e.path → BoxSm b
theorem ok_sm {b : Box} (h : BoxOk b) : BoxSm b := ⟨by have := h.2.1; omega, by have := h.2.2; omega⟩
abbrev l31AnyS (R : Rel) : Prop := ∀ c : Cur, curOk c → Draw R [] c EndSm (fun e => .agg (eEndpoint e))
theorem l31Any_b (D : Dn) (hB : l1BelowS (D gspec_l1Below)) (hI : l1IntS (D gspec_l1Int)) (hE : l31DrawS (D gspec_l31Draw)) (hV : l12AnyS (D gspec_l12Any)) (hX : l19AnyS (D gspec_l19Any)) : l31AnyS (Body D sspec_l31Any) := by
  intro c hc
  refine draw_b (fun Q hQ => ?_)
  simp -implicitDefEqProofs
  obtain ⟨e, c1, he, hc1, pe⟩ := hE c hc
  simp -implicitDefEqProofs [eCur, ints] at pe
  refine callQ_of (pe) ?_
  obtain ⟨vs, ts, pa, cl⟩ := e
  have q1 := he.vers.2.2
  have q2 := he.tags.2.2
  have q3 := he.path.1
  have q4 : ∀ b, b ∈ pa → BoxSm b := fun b hb => ok_sm (he.path.2 b hb)
  dsimp only at q1 q2 q3
  simp -implicitDefEqProofs
  obtain ⟨x, c2, hx, hc2, px⟩ := hB c1 10 hc1 (by omega)
  simp -implicitDefEqProofs [eCur, ints] at px
  refine callQ_of (px) ?_
  by_cases g0 : x = 0
  · simp -implicitDefEqProofs [g0]
    obtain ⟨w, c3, hw, hc3, pw⟩ := hV c2 hc2
    simp -implicitDefEqProofs [eCur, ints] at pw
    refine callQ_of (pw) ?_
    simp -implicitDefEqProofs [outO, plainCells]
    exact hQ ⟨w, ts, pa, cl⟩ c3 ⟨hw, by dsimp only; omega, by dsimp only; omega, q4⟩ hc3
  by_cases g1 : x = 1
  · simp -implicitDefEqProofs [g1]
    obtain ⟨y, c3, hy, hc3, py⟩ := hI c2 [-1, 10, 255, 256] hc2 (by simp) (by simp)
    simp -implicitDefEqProofs [eCur, ints] at py
    refine callQ_of (py) ?_
    simp -implicitDefEqProofs [outO, plainCells]
    exact hQ ⟨vs, [y], pa, cl⟩ c3 ⟨by dsimp only; omega, by simp, by dsimp only; omega, q4⟩ hc3
  by_cases g2 : x = 2
  · simp -implicitDefEqProofs [g2, outO, plainCells]
    exact hQ ⟨vs, [1, 2, 3, 4, 5, 6], pa, cl⟩ c2 ⟨by dsimp only; omega, by simp, by dsimp only; omega, q4⟩ hc2
  by_cases g3 : x = 3
  · simp -implicitDefEqProofs [g3]
    obtain ⟨y, c3, hy, hc3, py⟩ := hI c2 [-1, 5, 6] hc2 (by simp) (by simp)
    simp -implicitDefEqProofs [eCur, ints] at py
    refine callQ_of (py) ?_
    simp -implicitDefEqProofs [outO, plainCells]
    exact hQ ⟨vs, ts, pa, y⟩ c3 ⟨by dsimp only; omega, by dsimp only; omega, by dsimp only; omega, q4⟩ hc3
  by_cases g4 : x = 4
  · simp -implicitDefEqProofs [g4]
    obtain ⟨b, c3, hb, hc3, pb⟩ := hX c2 hc2
    simp -implicitDefEqProofs [eCur, ints] at pb
    refine callQ_of (pb) ?_
    have hb1 : (pa.length + 2) * 64 ≤ 1099511627776 := by omega
    simp -implicitDefEqProofs [hb1, outO, plainCells]
    have := hQ ⟨vs, ts, pa ++ [b, ⟨0, [], [], false⟩], cl⟩ c3 ⟨by dsimp only; omega, by dsimp only; omega, by simp; omega, by
      intro b' hb'
      rcases List.mem_append.1 hb' with h | h
      · exact q4 b' h
      · simp at h
        rcases h with rfl | rfl
        · exact hb
        · exact ⟨by simp, by simp⟩⟩ hc3
    simpa [eEndpoint, eBox, ints] using this
  simp -implicitDefEqProofs [g0, g1, g2, g3, g4, outO, plainCells]
  exact hQ ⟨vs, ts, pa, cl⟩ c2 ⟨by dsimp only; omega, by dsimp only; omega, by dsimp only; omega, q4⟩ hc2
end Go.Eng.T

namespace Go.Eng.T
set_option maxRecDepth 20000
set_option maxHeartbeats 1000000
abbrev EqFuncBoxS (D : Dn) (R : Rel) : Prop := ∀ (a b : List Box) (g : Nat), a.length ≤ maxLen → b.length ≤ maxLen → (∀ j (h : j < a.length) (h' : j < b.length), D g [arg (eBox a[j]), arg (eBox b[j])] [] (B (decide (a[j] = b[j]))) []) →
  R [.sl 1 4 a.length (a.flatMap eBox), .sl 1 4 b.length (b.flatMap eBox), .fn g []] [] (B (decide (a = b))) []
theorem EqFuncBox_b (D : Dn) : EqFuncBoxS D (Body D sslices_EqualFunc___impl_Box___impl_Box_impl_Box_impl_Box_) := by
  intro a b g h1 h2 hg
  unfold maxLen at h1 h2
  by_cases hl : a.length = b.length
  rotate_left
  · have hl' : ¬ (a.length : Int) = b.length := by omega
    have : a ≠ b := fun h => hl (by rw [h])
    simp -implicitDefEqProofs [hl', this]
  have hl' : (a.length : Int) = b.length := by omega
  simp -implicitDefEqProofs [hl']
  refine swp_loop (fun k s => ∃ j o0 o1, j + k = a.length ∧ a.take j = b.take j ∧ s = ⟨[.undef, .sl 1 4 b.length (b.flatMap eBox), .fn g [], .undef, .undef, .undef, .undef, .undef, .sl 1 4 a.length (a.flatMap eBox), I b.length, I j, .undef, .undef], [o0, o1]⟩) ?_ (a.length) _ ⟨0, .free, .free, by simp, by simp, by simp⟩
  intro k s ⟨j, o0, o1, hj, hp, hs⟩
  subst hs
  by_cases hjn : j < a.length
  · have hw : IntKind.i64.wrap ((j : Int) + 1) = (j + 1 : Nat) := by rw [wrap_id (by omega) (by omega)]; simp
    have hy : j < b.length := by omega
    simp -implicitDefEqProofs [hjn, hy, ↓killV_cap noObj_nil]
    refine callQ_of (hg j hjn hy) ?_
    by_cases g2 : a[j] = b[j]
    · simp -implicitDefEqProofs [g2]
      exact ⟨k - 1, by omega, j + 1, by omega, take_step hjn hy hp g2, by simp [hw]⟩
    · have hne : a ≠ b := fun h => g2 (by simp [h])
      simp -implicitDefEqProofs [g2, hne]
  · obtain rfl : a = b := take_all (by omega) hl hp
    simp -implicitDefEqProofs [hjn]
abbrev EqFuncEndS (D : Dn) (R : Rel) : Prop := ∀ (a b : List Endpoint) (g : Nat), a.length ≤ maxLen → b.length ≤ maxLen → (∀ j (h : j < a.length) (h' : j < b.length), D g [arg (eEndpoint a[j]), arg (eEndpoint b[j])] [] (B (decide (a[j] = b[j]))) []) →
  R [.sl 1 4 a.length (a.flatMap eEndpoint), .sl 1 4 b.length (b.flatMap eEndpoint), .fn g []] [] (B (decide (a = b))) []
theorem EqFuncEnd_b (D : Dn) : EqFuncEndS D (Body D sslices_EqualFunc___impl_Endpoint___impl_Endpoint_impl_Endpoint_impl_Endpoint_) := by
  intro a b g h1 h2 hg
  unfold maxLen at h1 h2
  by_cases hl : a.length = b.length
  rotate_left
  · have hl' : ¬ (a.length : Int) = b.length := by omega
    have : a ≠ b := fun h => hl (by rw [h])
    simp -implicitDefEqProofs [hl', this]
  have hl' : (a.length : Int) = b.length := by omega
  simp -implicitDefEqProofs [hl']
  refine swp_loop (fun k s => ∃ j o0 o1, j + k = a.length ∧ a.take j = b.take j ∧ s = ⟨[.undef, .sl 1 4 b.length (b.flatMap eEndpoint), .fn g [], .undef, .undef, .undef, .undef, .undef, .sl 1 4 a.length (a.flatMap eEndpoint), I b.length, I j, .undef, .undef], [o0, o1]⟩) ?_ (a.length) _ ⟨0, .free, .free, by simp, by simp, by simp⟩
  intro k s ⟨j, o0, o1, hj, hp, hs⟩
  subst hs
  by_cases hjn : j < a.length
  · have hw : IntKind.i64.wrap ((j : Int) + 1) = (j + 1 : Nat) := by rw [wrap_id (by omega) (by omega)]; simp
    have hy : j < b.length := by omega
    simp -implicitDefEqProofs [hjn, hy, ↓killV_cap noObj_nil]
    refine callQ_of (hg j hjn hy) ?_
    by_cases g2 : a[j] = b[j]
    · simp -implicitDefEqProofs [g2]
      exact ⟨k - 1, by omega, j + 1, by omega, take_step hjn hy hp g2, by simp [hw]⟩
    · have hne : a ≠ b := fun h => g2 (by simp [h])
      simp -implicitDefEqProofs [g2, hne]
  · obtain rfl : a = b := take_all (by omega) hl hp
    simp -implicitDefEqProofs [hjn]
abbrev EqFuncDialedS (D : Dn) (R : Rel) : Prop := ∀ (a b : List Dialed) (g : Nat), a.length ≤ maxLen → b.length ≤ maxLen → (∀ j (h : j < a.length) (h' : j < b.length), D g [arg (eDialed a[j]), arg (eDialed b[j])] [] (B (decide (a[j] = b[j]))) []) →
  R [.sl 1 5 a.length (a.flatMap eDialed), .sl 1 5 b.length (b.flatMap eDialed), .fn g []] [] (B (decide (a = b))) []
theorem EqFuncDialed_b (D : Dn) : EqFuncDialedS D (Body D sslices_EqualFunc___impl_Dialed___impl_Dialed_impl_Dialed_impl_Dialed_) := by
  intro a b g h1 h2 hg
  unfold maxLen at h1 h2
  by_cases hl : a.length = b.length
  rotate_left
  · have hl' : ¬ (a.length : Int) = b.length := by omega
    have : a ≠ b := fun h => hl (by rw [h])
    simp -implicitDefEqProofs [hl', this]
  have hl' : (a.length : Int) = b.length := by omega
  simp -implicitDefEqProofs [hl']
  refine swp_loop (fun k s => ∃ j o0 o1, j + k = a.length ∧ a.take j = b.take j ∧ s = ⟨[.undef, .sl 1 5 b.length (b.flatMap eDialed), .fn g [], .undef, .undef, .undef, .undef, .undef, .sl 1 5 a.length (a.flatMap eDialed), I b.length, I j, .undef, .undef], [o0, o1]⟩) ?_ (a.length) _ ⟨0, .free, .free, by simp, by simp, by simp⟩
  intro k s ⟨j, o0, o1, hj, hp, hs⟩
  subst hs
  by_cases hjn : j < a.length
  · have hw : IntKind.i64.wrap ((j : Int) + 1) = (j + 1 : Nat) := by rw [wrap_id (by omega) (by omega)]; simp
    have hy : j < b.length := by omega
    simp -implicitDefEqProofs [hjn, hy, ↓killV_cap noObj_nil]
    refine callQ_of (hg j hjn hy) ?_
    by_cases g2 : a[j] = b[j]
    · simp -implicitDefEqProofs [g2]
      exact ⟨k - 1, by omega, j + 1, by omega, take_step hjn hy hp g2, by simp [hw]⟩
    · have hne : a ≠ b := fun h => g2 (by simp [h])
      simp -implicitDefEqProofs [g2, hne]
  · obtain rfl : a = b := take_all (by omega) hl hp
    simp -implicitDefEqProofs [hjn]
abbrev EqFuncLoggedS (D : Dn) (R : Rel) : Prop := ∀ (a b : List Logged) (g : Nat), a.length ≤ maxLen → b.length ≤ maxLen → (∀ j (h : j < a.length) (h' : j < b.length), D g [arg (eLogged a[j]), arg (eLogged b[j])] [] (B (decide (a[j] = b[j]))) []) →
  R [.sl 1 8 a.length (a.flatMap eLogged), .sl 1 8 b.length (b.flatMap eLogged), .fn g []] [] (B (decide (a = b))) []
theorem EqFuncLogged_b (D : Dn) : EqFuncLoggedS D (Body D sslices_EqualFunc___impl_Logged___impl_Logged_impl_Logged_impl_Logged_) := by
  intro a b g h1 h2 hg
  unfold maxLen at h1 h2
  by_cases hl : a.length = b.length
  rotate_left
  · have hl' : ¬ (a.length : Int) = b.length := by omega
    have : a ≠ b := fun h => hl (by rw [h])
    simp -implicitDefEqProofs [hl', this]
  have hl' : (a.length : Int) = b.length := by omega
  simp -implicitDefEqProofs [hl']
  refine swp_loop (fun k s => ∃ j o0 o1, j + k = a.length ∧ a.take j = b.take j ∧ s = ⟨[.undef, .sl 1 8 b.length (b.flatMap eLogged), .fn g [], .undef, .undef, .undef, .undef, .undef, .sl 1 8 a.length (a.flatMap eLogged), I b.length, I j, .undef, .undef], [o0, o1]⟩) ?_ (a.length) _ ⟨0, .free, .free, by simp, by simp, by simp⟩
  intro k s ⟨j, o0, o1, hj, hp, hs⟩
  subst hs
  by_cases hjn : j < a.length
  · have hw : IntKind.i64.wrap ((j : Int) + 1) = (j + 1 : Nat) := by rw [wrap_id (by omega) (by omega)]; simp
    have hy : j < b.length := by omega
    simp -implicitDefEqProofs [hjn, hy, ↓killV_cap noObj_nil]
    refine callQ_of (hg j hjn hy) ?_
    by_cases g2 : a[j] = b[j]
    · simp -implicitDefEqProofs [g2]
      exact ⟨k - 1, by omega, j + 1, by omega, take_step hjn hy hp g2, by simp [hw]⟩
    · have hne : a ≠ b := fun h => g2 (by simp [h])
      simp -implicitDefEqProofs [g2, hne]
  · obtain rfl : a = b := take_all (by omega) hl hp
    simp -implicitDefEqProofs [hjn]
abbrev EqualIntsS (R : Rel) : Prop := eqIntSS R
theorem iEqualInts_b (D : Dn) (hE : eqIntSS (D gslices_Equal___int_int_)) : eqIntSS (Body D simpl_EqualInts) := by
  intro a b ha hb
  simp -implicitDefEqProofs
  refine callQ_of (hE a b ha hb) ?_
  simp -implicitDefEqProofs
abbrev EqualBoxesS (R : Rel) : Prop := ∀ a b : Box, lnBox a → lnBox b → R [arg (eBox a), arg (eBox b)] [] (B (decide (a = b))) []
theorem EqualBoxes_b (D : Dn) (hE : eqIntSS (D gslices_Equal___int_int_)) : EqualBoxesS (Body D simpl_EqualBoxes) := by
  intro a b ha hb
  by_cases g1 : a.limit = b.limit
  rotate_left
  · have hne : a ≠ b := fun h => g1 (by simp [h])
    simp -implicitDefEqProofs [g1, hne]
  simp -implicitDefEqProofs [g1]
  refine callQ_of (hE a.drops b.drops ha.1 hb.1) ?_
  by_cases g2 : a.drops = b.drops
  rotate_left
  · have hne : a ≠ b := fun h => g2 (by simp [h])
    simp -implicitDefEqProofs [g2, hne]
  simp -implicitDefEqProofs [g2]
  refine callQ_of (hE a.strips b.strips ha.2 hb.2) ?_
  by_cases g3 : a.strips = b.strips
  rotate_left
  · have hne : a ≠ b := fun h => g3 (by simp [h])
    simp -implicitDefEqProofs [g3, hne]
  by_cases g4 : a.lists = b.lists
  · have e : a = b := by cases a; cases b; simp_all
    simp -implicitDefEqProofs [g3, g4, e]
  · have hne : a ≠ b := fun h => g4 (by simp [h])
    simp -implicitDefEqProofs [g3, g4, hne]
abbrev EqualEndpointsS (R : Rel) : Prop := ∀ a b : Endpoint, lnEndpoint a → lnEndpoint b → R [arg (eEndpoint a), arg (eEndpoint b)] [] (B (decide (a = b))) []
theorem EqualEndpoints_b (D : Dn) (hE : eqIntSS (D gslices_Equal___int_int_)) (hB : EqualBoxesS (D gimpl_EqualBoxes)) (hF : EqFuncBoxS D (D gslices_EqualFunc___impl_Box___impl_Box_impl_Box_impl_Box_)) : EqualEndpointsS (Body D simpl_EqualEndpoints) := by
  intro a b ha hb
  simp -implicitDefEqProofs
  refine callQ_of (hE a.versions b.versions ha.1 hb.1) ?_
  by_cases g1 : a.versions = b.versions
  rotate_left
  · have hne : a ≠ b := fun h => g1 (by simp [h])
    simp -implicitDefEqProofs [g1, hne]
  simp -implicitDefEqProofs [g1]
  refine callQ_of (hE a.tags b.tags ha.2.1 hb.2.1) ?_
  by_cases g2 : a.tags = b.tags
  rotate_left
  · have hne : a ≠ b := fun h => g2 (by simp [h])
    simp -implicitDefEqProofs [g2, hne]
  simp -implicitDefEqProofs [g2]
  refine callQ_of (hF a.path b.path gimpl_EqualBoxes ha.2.2.1 hb.2.2.1 (fun j h h' => hB _ _ (ha.2.2.2 j h) (hb.2.2.2 j h'))) ?_
  by_cases g3 : a.path = b.path
  rotate_left
  · have hne : a ≠ b := fun h => g3 (by simp [h])
    simp -implicitDefEqProofs [g3, hne]
  by_cases g4 : a.cls = b.cls
  · have e : a = b := by cases a; cases b; simp_all
    simp -implicitDefEqProofs [g3, g4, e]
  · have hne : a ≠ b := fun h => g4 (by simp [h])
    simp -implicitDefEqProofs [g3, g4, hne]
abbrev EqualRolloutsS (R : Rel) : Prop := ∀ a b : Rollout, lnRollout a → lnRollout b → R [arg (eRollout a), arg (eRollout b)] [] (B (decide (a = b))) []
theorem EqualRollouts_b (D : Dn) (hE : eqIntSS (D gslices_Equal___int_int_)) : EqualRolloutsS (Body D simpl_EqualRollouts) := by
  intro a b ha hb
  by_cases g1 : a.version = b.version
  rotate_left
  · have hne : a ≠ b := fun h => g1 (by simp [h])
    simp -implicitDefEqProofs [g1, hne]
  simp -implicitDefEqProofs [g1]
  refine callQ_of (hE a.stages b.stages ha hb) ?_
  by_cases g2 : a.stages = b.stages
  rotate_left
  · have hne : a ≠ b := fun h => g2 (by simp [h])
    simp -implicitDefEqProofs [g2, hne]
  by_cases g3 : a.pos = b.pos
  rotate_left
  · have hne : a ≠ b := fun h => g3 (by simp [h])
    simp -implicitDefEqProofs [g2, g3, hne]
  by_cases g4 : a.off = b.off
  · have e : a = b := by cases a; cases b; simp_all
    simp -implicitDefEqProofs [g2, g3, g4, e]
  · have hne : a ≠ b := fun h => g4 (by simp [h])
    simp -implicitDefEqProofs [g2, g3, g4, hne]
abbrev EqualDealsS (R : Rel) : Prop := ∀ a b : Deal, lnDeal a → lnDeal b → R [arg (eDeal a), arg (eDeal b)] [] (B (decide (a = b))) []
theorem EqualDeals_b (D : Dn) (hE : eqIntSS (D gslices_Equal___int_int_)) : EqualDealsS (Body D simpl_EqualDeals) := by
  intro a b ha hb
  obtain ⟨o1, v1, t1⟩ := a
  obtain ⟨o2, v2, t2⟩ := b
  by_cases g1 : o1 = o2
  rotate_left
  · simp -implicitDefEqProofs [g1]
  subst g1
  by_cases g2 : v1 = v2
  rotate_left
  · simp -implicitDefEqProofs [g2]
  subst g2
  cases o1
  · simp -implicitDefEqProofs
    refine callQ_of (hE t1 t2 ha hb) ?_
    simp -implicitDefEqProofs
  · simp -implicitDefEqProofs
    refine callQ_of (hE t1 t2 ha hb) ?_
    simp -implicitDefEqProofs
abbrev EqualDialedS (R : Rel) : Prop := ∀ a b : Dialed, lnDialed a → lnDialed b → R [arg (eDialed a), arg (eDialed b)] [] (B (decide (a = b))) []
theorem EqualDialed_b (D : Dn) (hD : EqualDealsS (D gimpl_EqualDeals)) (hE : eqIntSS (D gslices_Equal___int_int_)) : EqualDialedS (Body D simpl_EqualDialed) := by
  intro a b ha hb
  simp -implicitDefEqProofs
  refine callQ_of (hD a.deal b.deal ha.1 hb.1) ?_
  by_cases g1 : a.deal = b.deal
  rotate_left
  · have hne : a ≠ b := fun h => g1 (by simp [h])
    have g1' : decide (a.deal = b.deal) = false := by simpa using g1
    rw [g1']
    simp -implicitDefEqProofs [hne]
  have g1' : decide (a.deal = b.deal) = true := by simpa using g1
  rw [g1']
  by_cases g2 : a.tries = b.tries
  rotate_left
  · have hne : a ≠ b := fun h => g2 (by simp [h])
    simp -implicitDefEqProofs [g2, hne]
  simp -implicitDefEqProofs [g2]
  refine callQ_of (hE a.up b.up ha.2 hb.2) ?_
  by_cases g3 : a.up = b.up
  · have e : a = b := by cases a; cases b; simp_all
    simp -implicitDefEqProofs [g3, e]
  · have hne : a ≠ b := fun h => g3 (by simp [h])
    simp -implicitDefEqProofs [g3, hne]
abbrev equalLoggedS (R : Rel) : Prop := ∀ a b : Logged, lnLogged a → lnLogged b → R [arg (eLogged a), arg (eLogged b)] [] (B (decide (a = b))) []
theorem equalLogged_b (D : Dn) (hD : EqualDialedS (D gimpl_EqualDialed)) : equalLoggedS (Body D simpl_equalLogged) := by
  intro a b ha hb
  obtain ⟨a1, a2, a3, a4⟩ := a
  obtain ⟨b1, b2, b3, b4⟩ := b
  by_cases g1 : a1 = b1
  rotate_left
  · simp -implicitDefEqProofs [g1]
  subst g1
  by_cases g2 : a2 = b2
  rotate_left
  · simp -implicitDefEqProofs [g2]
  subst g2
  by_cases g3 : a3 = b3
  rotate_left
  · simp -implicitDefEqProofs [g3]
  subst g3
  simp -implicitDefEqProofs
  refine callQ_of (hD a4 b4 ha hb) ?_
  generalize hq : decide (a4 = b4) = q
  simp -implicitDefEqProofs
def wEq (a b : World) : Bool := decide (a = b)
abbrev EqualWorldsS (R : Rel) : Prop := ∀ a b : World, lnWorld a → lnWorld b → R [arg (eWorld a), arg (eWorld b)] [] (B (decide (a = b))) []
theorem EqualWorlds_b (D : Dn) (hE : eqIntSS (D gslices_Equal___int_int_)) (hEn : EqualEndpointsS (D gimpl_EqualEndpoints)) (hFE : EqFuncEndS D (D gslices_EqualFunc___impl_Endpoint___impl_Endpoint_impl_Endpoint_impl_Endpoint_))
    (hR : EqualRolloutsS (D gimpl_EqualRollouts)) (hDi : EqualDialedS (D gimpl_EqualDialed)) (hFD : EqFuncDialedS D (D gslices_EqualFunc___impl_Dialed___impl_Dialed_impl_Dialed_impl_Dialed_))
    (hLo : equalLoggedS (D gimpl_equalLogged)) (hFL : EqFuncLoggedS D (D gslices_EqualFunc___impl_Logged___impl_Logged_impl_Logged_impl_Logged_)) : EqualWorldsS (Body D simplV_EqualWorlds) := by
  intro a b ha hb
  obtain ⟨a1, a2, a3, a4, a5, a6⟩ := ha
  obtain ⟨b1, b2, b3, b4, b5, b6⟩ := hb
  simp -implicitDefEqProofs
  refine callQ_of (hE a.server b.server a1 b1) ?_
  by_cases g1 : a.server = b.server
  rotate_left
  · have hne : a ≠ b := fun h => g1 (by simp [h])
    simp -implicitDefEqProofs [g1, hne]
  simp -implicitDefEqProofs [g1]
  refine callQ_of (hE a.tags b.tags a2 b2) ?_
  by_cases g2 : a.tags = b.tags
  rotate_left
  · have hne : a ≠ b := fun h => g2 (by simp [h])
    simp -implicitDefEqProofs [g2, hne]
  by_cases g3 : a.key = b.key
  rotate_left
  · have hne : a ≠ b := fun h => g3 (by simp [h])
    simp -implicitDefEqProofs [g2, g3, hne]
  simp -implicitDefEqProofs [g2, g3]
  refine callQ_of (hFE a.ends b.ends gimpl_EqualEndpoints a3.1 b3.1 (fun j h h' => hEn _ _ (a3.2 j h) (b3.2 j h'))) ?_
  by_cases g4 : a.ends = b.ends
  rotate_left
  · have hne : a ≠ b := fun h => g4 (by simp [h])
    simp -implicitDefEqProofs [g4, hne]
  simp -implicitDefEqProofs [g4]
  refine callQ_of (hR a.rollout b.rollout a4 b4) ?_
  by_cases g5 : a.rollout = b.rollout
  rotate_left
  · have hne : a ≠ b := fun h => g5 (by simp [h])
    have g5' : decide (a.rollout = b.rollout) = false := by simpa using g5
    rw [g5']
    simp -implicitDefEqProofs [hne]
  have g5' : decide (a.rollout = b.rollout) = true := by simpa using g5
  rw [g5']
  by_cases g6 : a.least = b.least
  rotate_left
  · have hne : a ≠ b := fun h => g6 (by simp [h])
    simp -implicitDefEqProofs [g6, hne]
  by_cases g7 : a.percent = b.percent
  rotate_left
  · have hne : a ≠ b := fun h => g7 (by simp [h])
    simp -implicitDefEqProofs [g6, g7, hne]
  simp -implicitDefEqProofs [g6, g7]
  refine callQ_of (hFD a.stage b.stage gimpl_EqualDialed a5.1 b5.1 (fun j h h' => hDi _ _ (a5.2 j h) (b5.2 j h'))) ?_
  by_cases g8 : a.stage = b.stage
  rotate_left
  · have hne : a ≠ b := fun h => g8 (by simp [h])
    simp -implicitDefEqProofs [g8, hne]
  simp -implicitDefEqProofs [g8]
  refine callQ_of (hFL a.log b.log gimpl_equalLogged a6.1 b6.1 (fun j h h' => hLo _ _ (a6.2 j h) (b6.2 j h'))) ?_
  by_cases g9 : a.log = b.log
  rotate_left
  · have hne : a ≠ b := fun h => g9 (by simp [h])
    simp -implicitDefEqProofs [g9, hne]
  by_cases h1 : a.now = b.now
  rotate_left
  · have hne : a ≠ b := fun h => h1 (by simp [h])
    simp -implicitDefEqProofs [g9, h1, hne]
  by_cases h2 : a.hurt = b.hurt
  rotate_left
  · have hne : a ≠ b := fun h => h2 (by simp [h])
    simp -implicitDefEqProofs [g9, h1, h2, hne]
  by_cases h3 : a.reached = b.reached
  · have e : a = b := by cases a; cases b; simp_all
    simp -implicitDefEqProofs [g9, h1, h2, h3, e]
  · have hne : a ≠ b := fun h => h3 (by simp [h])
    simp -implicitDefEqProofs [g9, h1, h2, h3, hne]
end Go.Eng.T

namespace Go.Eng.T
set_option maxRecDepth 20000
set_option maxHeartbeats 2000000
theorem max_mem : ∀ {l : List Int} {a x : Int}, x ∈ l → x ≤ l.foldl (fun a v => if v > a then v else a) a
  | y :: l, a, x, h => by
    have ge : ∀ (l : List Int) (a : Int), a ≤ l.foldl (fun a v => if v > a then v else a) a := by
      intro l
      induction l with
      | nil => intro a; exact Int.le_refl a
      | cons z l ih =>
        intro a
        simp only [List.foldl_cons]
        refine Int.le_trans ?_ (ih _)
        split <;> omega
    simp only [List.foldl_cons]
    rcases List.mem_cons.1 h with rfl | h
    · refine Int.le_trans ?_ (ge l _)
      split <;> omega
    · exact max_mem h
theorem reach_one {s l : List Int} (hs : areVers s = true) (hl : areVers l = true) (h1 : 1 ∈ s) (h2 : 1 ∈ l) : reach s l = true := by
  unfold reach bestCommon
  rw [if_pos ⟨hs, hl⟩]
  have hm : (1 : Int) ∈ common s l := List.mem_filter.2 ⟨h1, by simpa using h2⟩
  have := max_mem (a := 0) hm
  have : ¬ maxF (common s l) = 0 := by unfold maxF; omega
  simp [this]
def oneTwo (y : Int) : List Int := putV [1] (2 + y)
theorem oneTwo_ok {y : Int} (h : 0 ≤ y ∧ y < 2) : VP (oneTwo y) 6 2 ∧ 1 ∈ oneTwo y ∧ 0 < (oneTwo y).length :=
  ⟨vp_put (vp_one (by omega)) (by omega), (putV_mem _ _ _).2 (.inl (by simp)), put_pos _ _⟩
theorem vp_vers {l : List Int} {m : Nat} (h : VP l 6 m) (h0 : 0 < l.length) : areVers l = true := vers_of h.1 (fun x hx => by have := h.2.1 x hx; omega) h0
/-- an endpoint of a drawn world -/
def End1 (e : Endpoint) : Prop := EndOk e ∧ 1 ∈ e.versions
theorem end1_sz {e : Endpoint} (h : EndOk e) : szEndpoint e ≤ 40 := by
  have h1 := h.vers.2.2
  have h2 := h.tags.2.2
  have h3 : ∀ (l : List Box), (∀ b, b ∈ l → BoxOk b) → sumF szBox l ≤ 9 * l.length := by
    intro l
    induction l with
    | nil => intro _; simp [sumF]
    | cons b l ih =>
      intro hb
      have := ih (fun x hx => hb x (by simp [hx]))
      have hb0 := hb b (by simp)
      have e1 := hb0.2.1
      have e2 := hb0.2.2
      simp only [sumF, szBox, List.length_cons, List.map_cons, List.sum_cons] at *
      omega
  have := h3 e.path h.path.2
  have := h.path.1
  unfold szEndpoint
  omega
theorem ends_sz {l : List Endpoint} {m : Nat} (h : ∀ e, e ∈ l → szEndpoint e ≤ m) : sumF szEndpoint l ≤ l.length * (m + 1) := by
  induction l with
  | nil => simp [sumF]
  | cons e l ih =>
    have := ih (fun x hx => h x (by simp [hx]))
    have := h e (by simp)
    simp only [sumF, List.length_cons, List.map_cons, List.sum_cons, Nat.add_mul, Nat.mul_add, Nat.mul_one] at *
    omega
theorem ends_mem {l : List Endpoint} {P : Endpoint → Prop} {e : Endpoint} (h : ∀ x, x ∈ l → P x) (he : P e) : ∀ x, x ∈ l ++ [e] → P x := by
  intro x hx
  rcases List.mem_append.1 hx with hx | hx
  · exact h x hx
  · simp at hx; subst hx; exact he
abbrev zW : List V := [.nil 1, .nil 1, I 0, .nil 4, I 0, .nil 1, I 0, B false, I 0, I 0, .nil 5, .nil 8, I 0, I 0, I 0]
structure WorldOk (w : World) : Prop where
  ok : isWorld w = true
  sz : szWorld w ≤ 400
  ends : 0 < w.ends.length
  eok : ∀ e, e ∈ w.ends → End1 e
theorem drawn_world {y z : Int} {r : Rollout} {t : List Int} {es : List Endpoint} (hy : 0 ≤ y ∧ y < 2) (hz : 0 ≤ z ∧ z < 2) (hr : RollOk r) (ht : VP t 200 4) (he : ∀ e, e ∈ es → End1 e) (hl : 0 < es.length ∧ es.length ≤ 5)
    {s : List Int} (hs : s = putV (putV [1] (2 + y)) (4 + z)) {v : Int} (hv : v ∈ s) : WorldOk (firstWorld s t es ⟨v, r.stages, 0, r.off⟩) := by
  have hs1 : VP s 6 3 := by rw [hs]; exact vp_put (oneTwo_ok hy).1 (by omega)
  have hs2 : 1 ∈ s := by rw [hs]; exact (putV_mem _ _ _).2 (.inl (oneTwo_ok hy).2.1)
  have hs3 : 0 < s.length := List.length_pos_of_mem hs2
  have hsv := vp_vers hs1 hs3
  obtain ⟨⟨⟨q1, q2, q3⟩, q4, q5⟩, q6⟩ := hr
  have e1 : allReach (firstWorld s t es ⟨v, r.stages, 0, r.off⟩).server (listsOf (firstWorld s t es ⟨v, r.stages, 0, r.off⟩)) = true := by
    show allReach s _ = true
    unfold allReach
    rw [hsv, Bool.true_and, List.all_eq_true]
    intro l hl
    obtain ⟨e, he', rfl⟩ := List.mem_map.1 hl
    have h1 := he e he'
    exact reach_one hsv (vp_vers h1.1.vers h1.1.pos) hs2 h1.2
  refine ⟨?_, ?_, hl.1, he⟩
  · have e2 : areTags t = true := tags_of ht.1 (fun x hx => by have := ht.2.1 x hx; omega)
    have e3 : es.all isEndpoint = true := List.all_eq_true.2 fun e h => end_ok (he e h).1
    have e4 : isRollout ⟨v, r.stages, 0, r.off⟩ = true := by
      unfold isRollout
      dsimp only
      have hvb := hs1.2.1 v hv
      rw [stages_of q1 q2, q5]
      simp only [Bool.true_and, Bool.and_eq_true, decide_eq_true_eq]
      exact ⟨⟨⟨⟨by omega, by omega⟩, by omega, by omega⟩, by trivial⟩, by omega, by omega⟩
    unfold isWorld isWorldA isWorldB isWorldC
    rw [e1]
    simp only [firstWorld, e2, e3, e4, Bool.true_and, Bool.and_true]
    simp -implicitDefEqProofs only [Bool.and_eq_true]
    exact ⟨rfl, decide_eq_true (by omega), ⟨decide_eq_true hv, decide_eq_true ⟨by omega, by omega⟩, decide_eq_true ⟨by omega, by omega⟩⟩, rfl, rfl, decide_eq_true ⟨by omega, by omega⟩, decide_eq_true ⟨by simp, by simp⟩, decide_eq_true ⟨by omega, by omega⟩⟩
  · rw [first_sz]
    have h1 := hs1.2.2
    have h2 := ht.2.2
    have h3 := ends_sz (l := es) (m := 40) (fun e h => end1_sz (he e h).1)
    have h4 : es.length * 41 ≤ 5 * 41 := Nat.mul_le_mul_right _ hl.2
    simp only [szRollout]
    omega
abbrev l32WorldS (R : Rel) : Prop := ∀ c : Cur, curOk c → Draw R [] c WorldOk (fun w => .agg (eWorld w))
theorem l32World_b (D : Dn) (hB : l1BelowS (D gspec_l1Below)) (hP : l4PutS (D gspec_l4Put)) (hR : l26DrawS (D gspec_l26Draw)) (hE : l31DrawS (D gspec_l31Draw)) (hT : l17TagsS (D gspec_l17Tags)) (hN : NewWorldS (D gspec_NewWorld)) : l32WorldS (Body D sspec_l32World) := by
  intro c hc
  refine draw_b (fun Q hQ => ?_)
  simp -implicitDefEqProofs
  obtain ⟨y, c1, hy, hc1, py⟩ := hB c 2 hc (by omega)
  simp -implicitDefEqProofs [eCur, ints] at py
  refine callQ_of (py) ?_
  have hy2 := hy.2.2 (by omega)
  have w1 : IntKind.i64.wrap (2 + y) = 2 + y := wrap_id (by omega) (by omega)
  simp -implicitDefEqProofs [w1]
  have pp := hP [1] (2 + y) (by simp)
  simp -implicitDefEqProofs [ints] at pp
  refine callQ_of (pp) ?_
  simp -implicitDefEqProofs
  obtain ⟨z, c2, hz, hc2, pz⟩ := hB c1 2 hc1 (by omega)
  simp -implicitDefEqProofs [eCur, ints] at pz
  refine callQ_of (pz) ?_
  have hz2 := hz.2.2 (by omega)
  have w2 : IntKind.i64.wrap (4 + z) = 4 + z := wrap_id (by omega) (by omega)
  have hl2 := (oneTwo_ok (y := y) ⟨by omega, by omega⟩).1.2.2
  unfold oneTwo at hl2
  simp -implicitDefEqProofs [w2]
  have pp2 := hP (putV [1] (2 + y)) (4 + z) (by omega)
  simp -implicitDefEqProofs [ints] at pp2
  refine callQ_of (pp2) ?_
  obtain ⟨sv, hs⟩ : ∃ sv, sv = putV (putV [1] (2 + y)) (4 + z) := ⟨_, rfl⟩
  have hsp : 0 < sv.length := by rw [hs]; exact put_pos _ _
  have hsl : sv.length ≤ 3 := by rw [hs]; exact Nat.le_trans (putV_len _ _) (by omega)
  rw [← hs]
  simp -implicitDefEqProofs
  obtain ⟨r, c3, hr, hc3, pr⟩ := hR c2 hc2
  simp -implicitDefEqProofs [eCur, ints] at pr
  refine callQ_of (pr) ?_
  have hws : IntKind.i64.wrap ((sv.length : Int) - 1) = (sv.length - 1 : Nat) := by rw [wrap_id (by omega) (by omega)]; omega
  have hs1 : sv.length - 1 < sv.length := by omega
  simp -implicitDefEqProofs [hws, hs1]
  obtain ⟨x, c4, hx, hc4, px⟩ := hB c3 4 hc3 (by omega)
  simp -implicitDefEqProofs [eCur, ints] at px
  refine callQ_of (px) ?_
  have hx4 := hx.2.2 (by omega)
  have w3 : IntKind.i64.wrap (2 + x) = 2 + x := wrap_id (by omega) (by omega)
  obtain ⟨n, hn⟩ : ∃ n : Nat, 2 + x = n := ⟨(2 + x).toNat, by omega⟩
  simp -implicitDefEqProofs [w3, hn]
  have hv : sv[sv.length - 1] ∈ sv := List.getElem_mem hs1
  have w5 : IntKind.i64.wrap (n : Int) = n := wrap_id (by omega) (by omega)
  generalize sv[sv.length - 1] = v at hv
  obtain ⟨LI, hLI⟩ : ∃ LI : Nat → St → Prop, LI = fun k s => ∃ j cc es o8 o9 o10 o11 o12 o13 o14, j + k = n ∧ curOk cc ∧ (es : List Endpoint).length = j ∧ (∀ e, e ∈ es → End1 e) ∧ s = ⟨[.ptr 0 0, .ptr 1 0, .arr 4, .ptr 6 0, .arr 24, I k, .undef, .undef, .undef], [.var (eCur cc), .var zW, .arr 1 0 1 [I 1], .arr 1 0 (putV [1] (2 + y)).length (ints (putV [1] (2 + y))), .arr 1 0 sv.length (ints sv), .arr 1 0 r.stages.length (ints r.stages), .var [I v, .arr 5, I 0, B r.off], .free, o8, o9, o10, o11, o12, o13, o14, .free, .free, .free, .free, .free, .free, .free, .free, .free, .arr 4 0 es.length (es.flatMap eEndpoint)]⟩ := ⟨_, rfl⟩
  refine swp_loop LI ?_ (n) _ (by rw [hLI]; exact ⟨0, c4, [], .free, .free, .free, .free, .free, .free, .free, by simp, hc4, rfl, by simp, by simp [ints, w5]⟩)
  intro k s hs
  rw [hLI] at hs
  obtain ⟨j, cc, es, o8, o9, o10, o11, o12, o13, o14, hj, hcc, hel, hes, hs⟩ := hs
  subst hs
  by_cases hk : 0 < k
  · have hwk : IntKind.i64.wrap ((k : Int) - 1) = (k - 1 : Nat) := by rw [wrap_id (by omega) (by omega)]; omega
    have hb1 : (es.length + 1) * 80 ≤ 1099511627776 := by omega
    simp -implicitDefEqProofs [hk]
    obtain ⟨e, c5, he, hc5, pe⟩ := hE cc hcc
    simp -implicitDefEqProofs [eCur, ints] at pe
    refine callQ_of (pe) ?_
    simp -implicitDefEqProofs
    obtain ⟨u, c6, hu, hc6, pu⟩ := hB c5 2 hc5 (by omega)
    simp -implicitDefEqProofs [eCur, ints] at pu
    refine callQ_of (pu) ?_
    have hu2 := hu.2.2 (by omega)
    have w4 : IntKind.i64.wrap (2 + u) = 2 + u := wrap_id (by omega) (by omega)
    simp -implicitDefEqProofs [w4]
    have pp3 := hP [1] (2 + u) (by simp)
    simp -implicitDefEqProofs [ints] at pp3
    refine callQ_of (pp3) ?_
    simp -implicitDefEqProofs [hb1, hwk]
    have ho := oneTwo_ok (y := u) ⟨by omega, by omega⟩
    have he1 : End1 ⟨oneTwo u, e.tags, e.path, e.cls⟩ := ⟨⟨vp_mono ho.1 (by omega), ho.2.2, he.tags, he.path, he.cls⟩, ho.2.1⟩
    refine ⟨k - 1, by omega, ?_⟩
    rw [hLI]
    exact ⟨j + 1, c6, es ++ [⟨oneTwo u, e.tags, e.path, e.cls⟩], _, _, _, _, _, _, _, by omega, hc6, by simp [hel], ends_mem hes he1, by simp [eEndpoint, ints, oneTwo]; exact ⟨rfl, rfl, rfl, rfl, rfl, rfl, rfl⟩⟩
  · have hk0 : k = 0 := by omega
    subst hk0
    simp -implicitDefEqProofs
    obtain ⟨t, c7, ht, hc7, pt⟩ := hT cc hcc
    simp -implicitDefEqProofs [eCur, ints] at pt
    refine callQ_of (pt) ?_
    have hw := drawn_world (y := y) (z := z) (r := r) (t := t) (es := es) ⟨by omega, by omega⟩ ⟨by omega, by omega⟩ hr ht hes ⟨by omega, by omega⟩ hs hv
    have hnw := hN sv t es ⟨v, r.stages, 0, r.off⟩ (by have := hw.sz; omega)
    have hne : newWorld sv t es ⟨v, r.stages, 0, r.off⟩ = (firstWorld sv t es ⟨v, r.stages, 0, r.off⟩, true) := by unfold newWorld; rw [if_pos hw.ok]
    rw [hne] at hnw
    simp -implicitDefEqProofs
    simp -implicitDefEqProofs [eCur, ints, firstWorld] at hnw
    refine callQ_of (hnw) ?_
    simp -implicitDefEqProofs [outO, plainCells]
    exact hQ _ c7 hw hc7
end Go.Eng.T

namespace Go.Eng.T
set_option maxRecDepth 20000
set_option maxHeartbeats 2000000
theorem kept_le (p : Int → Bool) (l : List Ext) : (kept p l).length ≤ l.length := List.length_filter_le _ _
theorem passBox_le (b : Box) (h : Hello) : (passBox b h).1.exts.length ≤ h.exts.length := by
  unfold passBox
  split
  · exact kept_le _ _
  · simp [noHello]
theorem passGo_le : ∀ (path : List Box) (h : Hello), (passGo path h).1.exts.length ≤ h.exts.length
  | [], h => Nat.le_refl _
  | b :: r, h => by
    unfold passGo
    split
    · exact Nat.le_trans (passGo_le r _) (passBox_le b h)
    · simp [noHello]
theorem passPath_le (path : List Box) (h : Hello) : (passPath path h).1.exts.length ≤ h.exts.length := by
  unfold passPath
  split
  · exact passGo_le path h
  · simp [noHello]
theorem fall_le (h : Hello) (path : List Box) : (fallback h path).1.exts.length ≤ h.exts.length := by
  unfold fallback partHello
  split
  · dsimp only; exact kept_le _ _
  · simp [noHello]
theorem hfor_le (h : Hello) (path : List Box) : (helloFor h path).1.exts.length ≤ h.exts.length := by
  unfold helloFor
  split
  · split
    · exact Nat.le_refl _
    · split
      · exact fall_le h path
      · simp [noHello]
  · simp [noHello]
theorem choose_le (vs tags : List Int) (h : Hello) : (chooseAnswer vs tags h).1.exts.length ≤ h.exts.length := by
  unfold chooseAnswer
  split
  · dsimp only [stripG, knownOf]; exact Nat.le_trans (kept_le _ _) (kept_le _ _)
  · simp
theorem dealOf_le (h seen : Hello) (vs tags : List Int) (key : Int) : (dealOf h seen vs tags key).tags.length ≤ seen.exts.length := by
  unfold dealOf
  split
  · rw [tags_len]; exact choose_le vs tags seen
  · simp [noDeal]
theorem once_le (h : Hello) (path : List Box) (vs tags : List Int) (key : Int) : (dialOnce h path vs tags key).tags.length ≤ h.exts.length := by
  unfold dialOnce
  split
  · exact Nat.le_trans (dealOf_le _ _ _ _ _) (passPath_le path h)
  · simp [noDeal]
theorem given_le (h x : Hello) : (givenUp h x).length ≤ h.versions.length + h.exts.length := by
  unfold givenUp
  have h1 := leftOf_len h.versions x.versions
  have h2 := List.length_filter_le (gaveT (tagsOf x.exts)) (tagsOf h.exts)
  rw [tags_len] at h2
  simp only [List.length_append, List.length_map]
  omega
theorem dial_le (h : Hello) (path : List Box) (vs tags : List Int) (key : Int) : szDialed (dial h path vs tags key) ≤ h.versions.length + 2 * h.exts.length := by
  unfold dial
  have h1 := hfor_le h path
  split
  · have h2 := once_le (helloFor h path).1 path vs tags key
    have h3 := given_le h (helloFor h path).1
    simp only [szDialed, szDeal]
    omega
  · simp [szDialed, szDeal, noDeal]
theorem grease_le (l : List Ext) (seed : Int) : (addGrease l seed).length ≤ l.length + 1 := by
  unfold addGrease
  split
  · simp; omega
  · omega
theorem endDial_le (e : Endpoint) (vs tags : List Int) (key seed : Int) : szDialed (endDial e vs tags key seed) ≤ e.versions.length + 12 := by
  unfold endDial
  split
  · rename_i he
    refine Nat.le_trans (dial_le _ _ _ _ _) ?_
    unfold helloOf
    rw [if_pos he]
    have h1 := endp_tags5 he
    have h2 := grease_le (bare e.tags) seed
    rw [bare_len] at h2
    dsimp only
    omega
  · simp [noDialed, szDialed, szDeal, noDeal]
theorem boxes_sz {l : List Box} (h : ∀ b, b ∈ l → BoxSm b) : sumF szBox l ≤ 15 * l.length := by
  induction l with
  | nil => simp [sumF]
  | cons b l ih =>
    have := ih (fun x hx => h x (by simp [hx]))
    have hb0 := h b (by simp)
    have e1 := hb0.1
    have e2 := hb0.2
    simp only [sumF, szBox, List.length_cons, List.map_cons, List.sum_cons] at *
    omega
theorem endSm_sz {e : Endpoint} (h : EndSm e) : szEndpoint e ≤ 100 := by
  have h1 := h.vers
  have h2 := h.tags
  have h3 := boxes_sz h.box
  have h4 := h.path
  unfold szEndpoint
  omega
theorem sumF_set {α : Type} {f : α → Nat} (l : List α) (e : α) : sumF f (l.set 0 e) ≤ sumF f l + f e := by
  cases l with
  | nil => simp [sumF]
  | cons a l => simp [sumF]; omega
def WSm (w : World) : Prop := szWorld w ≤ 2000
abbrev l32AnyS (R : Rel) : Prop := ∀ c : Cur, curOk c → Draw R [] c WSm (fun w => .agg (eWorld w))
theorem l32Any_b (D : Dn) (hB : l1BelowS (D gspec_l1Below)) (hI : l1IntS (D gspec_l1Int)) (hW : l32WorldS (D gspec_l32World)) (hV : l12AnyS (D gspec_l12Any)) (hE : l31AnyS (D gspec_l31Any)) (hR : l26AnyS (D gspec_l26Any)) (hD : EndDialS (D gspec_EndDial)) : l32AnyS (Body D sspec_l32Any) := by
  intro c hc
  refine draw_b (fun Q hQ => ?_)
  simp -implicitDefEqProofs
  obtain ⟨w, c1, hw, hc1, pw⟩ := hW c hc
  simp -implicitDefEqProofs [eCur, ints] at pw
  refine callQ_of (pw) ?_
  have hsz := hw.sz
  have he0 := hw.ends
  obtain ⟨sv, tg, key, es, ⟨rv, rs, rp, ro⟩, least, pct, stg, log, now, hurt, rch⟩ := w
  have hk : es.length ≤ sumF szEndpoint es := by unfold sumF; omega
  simp only [szWorld, szRollout] at hsz
  dsimp only at he0
  simp -implicitDefEqProofs
  obtain ⟨x, c2, hx, hc2, px⟩ := hB c1 14 hc1 (by omega)
  simp -implicitDefEqProofs [eCur, ints] at px
  refine callQ_of (px) ?_
  by_cases g0 : x = 0
  · simp -implicitDefEqProofs [g0]
    obtain ⟨u, c3, hu, hc3, pu⟩ := hV c2 hc2
    simp -implicitDefEqProofs [eCur, ints] at pu
    refine callQ_of (pu) ?_
    simp -implicitDefEqProofs [outO, plainCells]
    exact hQ ⟨u, tg, key, es, ⟨rv, rs, rp, ro⟩, least, pct, stg, log, now, hurt, rch⟩ c3 (by simp only [WSm, szWorld, szRollout]; omega) hc3
  by_cases g1 : x = 1
  · simp -implicitDefEqProofs [g1]
    obtain ⟨u, c3, hu, hc3, pu⟩ := hI c2 [-1, 255, 256] hc2 (by simp) (by simp)
    simp -implicitDefEqProofs [eCur, ints] at pu
    refine callQ_of (pu) ?_
    simp -implicitDefEqProofs [outO, plainCells]
    exact hQ ⟨sv, [u], key, es, ⟨rv, rs, rp, ro⟩, least, pct, stg, log, now, hurt, rch⟩ c3 (by simp only [WSm, szWorld, szRollout, List.length_cons, List.length_nil]; omega) hc3
  by_cases g2 : x = 2
  · simp -implicitDefEqProofs [g2]
    obtain ⟨u, c3, hu, hc3, pu⟩ := hI c2 [0, 5] hc2 (by simp) (by simp)
    simp -implicitDefEqProofs [eCur, ints] at pu
    refine callQ_of (pu) ?_
    simp -implicitDefEqProofs [outO, plainCells]
    exact hQ ⟨sv, tg, u, es, ⟨rv, rs, rp, ro⟩, least, pct, stg, log, now, hurt, rch⟩ c3 (by simp only [WSm, szWorld, szRollout]; omega) hc3
  by_cases g4 : x = 4
  · simp -implicitDefEqProofs [g4]
    obtain ⟨u, c3, hu, hc3, pu⟩ := hR c2 hc2
    simp -implicitDefEqProofs [eCur, ints] at pu
    refine callQ_of (pu) ?_
    simp -implicitDefEqProofs [outO, plainCells]
    exact hQ ⟨sv, tg, key, es, u, least, pct, stg, log, now, hurt, rch⟩ c3 (by simp only [WSm, szWorld, szRollout]; omega) hc3
  by_cases g5 : x = 5
  · simp -implicitDefEqProofs [g5]
    obtain ⟨u, c3, hu, hc3, pu⟩ := hI c2 [0, 100, 101] hc2 (by simp) (by simp)
    simp -implicitDefEqProofs [eCur, ints] at pu
    refine callQ_of (pu) ?_
    simp -implicitDefEqProofs [outO, plainCells]
    exact hQ ⟨sv, tg, key, es, ⟨rv, rs, rp, ro⟩, u, pct, stg, log, now, hurt, rch⟩ c3 (by simp only [WSm, szWorld, szRollout]; omega) hc3
  by_cases g6 : x = 6
  · simp -implicitDefEqProofs [g6]
    obtain ⟨u, c3, hu, hc3, pu⟩ := hI c2 [-1, 100, 101] hc2 (by simp) (by simp)
    simp -implicitDefEqProofs [eCur, ints] at pu
    refine callQ_of (pu) ?_
    simp -implicitDefEqProofs [outO, plainCells]
    exact hQ ⟨sv, tg, key, es, ⟨rv, rs, rp, ro⟩, least, u, stg, log, now, hurt, rch⟩ c3 (by simp only [WSm, szWorld, szRollout]; omega) hc3
  by_cases g7 : x = 7
  · simp -implicitDefEqProofs [g7]
    obtain ⟨u, c3, hu, hc3, pu⟩ := hI c2 [-1, 10000, 10001] hc2 (by simp) (by simp)
    simp -implicitDefEqProofs [eCur, ints] at pu
    refine callQ_of (pu) ?_
    simp -implicitDefEqProofs [outO, plainCells]
    exact hQ ⟨sv, tg, key, es, ⟨rv, rs, rp, ro⟩, least, pct, stg, log, u, hurt, rch⟩ c3 (by simp only [WSm, szWorld, szRollout]; omega) hc3
  by_cases g8 : x = 8
  · simp -implicitDefEqProofs [g8]
    obtain ⟨u, c3, hu, hc3, pu⟩ := hI c2 [-1, 0, 1] hc2 (by simp) (by simp)
    simp -implicitDefEqProofs [eCur, ints] at pu
    refine callQ_of (pu) ?_
    simp -implicitDefEqProofs [outO, plainCells]
    exact hQ ⟨sv, tg, key, es, ⟨rv, rs, rp, ro⟩, least, pct, stg, log, now, u, rch⟩ c3 (by simp only [WSm, szWorld, szRollout]; omega) hc3
  by_cases g3 : x = 3
  · have hlt : 3 < es.length * 4 := by omega
    simp -implicitDefEqProofs [g3, he0]
    obtain ⟨e, c3, he, hc3, pe⟩ := hE c2 hc2
    simp -implicitDefEqProofs [eCur, ints] at pe
    refine callQ_of (pe) ?_
    have hes := endSm_sz he
    have hput := eEndpoint_put he0 e.versions e.tags e.path e.cls rfl rfl rfl
    simp only [Nat.zero_mul, ints] at hput
    simp -implicitDefEqProofs [he0, hlt, hput, outO, plainCells]
    have hset := sumF_set (f := szEndpoint) es e
    have := hQ ⟨sv, tg, key, es.set 0 e, ⟨rv, rs, rp, ro⟩, least, pct, stg, log, now, hurt, rch⟩ c3 (by simp only [WSm, szWorld, szRollout]; omega) hc3
    simpa [eWorld, ints] using this
  by_cases g9 : x = 9
  · have hg : getAt (es.flatMap eEndpoint) 0 4 = some (eEndpoint es[0]) := by have := eEndpoint_at he0; simpa using this
    have hb := size_at (f := szEndpoint) he0
    simp -implicitDefEqProofs [g9, he0, hg]
    have hd := endDial_le es[0] sv tg 77 1
    have hv0 : es[0].versions.length ≤ szEndpoint es[0] := by unfold szEndpoint; omega
    refine callQ_of (hD es[0] sv tg 77 1 (by omega) (by omega) (by omega)) ?_
    generalize endDial es[0] sv tg 77 1 = d at hd
    simp -implicitDefEqProofs [outO, plainCells]
    have := hQ ⟨sv, tg, key, es, ⟨rv, rs, rp, ro⟩, least, pct, stg, [⟨0, 1, false, d⟩], now, hurt, rch⟩ c2 (by
      simp only [WSm, szWorld, szRollout, sumF, szLogged, List.length_cons, List.length_nil, List.map_cons, List.map_nil, List.sum_cons, List.sum_nil] at *
      omega) hc2
    simpa [eWorld, eLogged, ints] using this
  simp -implicitDefEqProofs [g0, g1, g2, g3, g4, g5, g6, g7, g8, g9, outO, plainCells]
  exact hQ ⟨sv, tg, key, es, ⟨rv, rs, rp, ro⟩, least, pct, stg, log, now, hurt, rch⟩ c2 (by simp only [WSm, szWorld, szRollout]; omega) hc2
end Go.Eng.T

namespace Go.Eng.T
set_option maxRecDepth 20000
set_option maxHeartbeats 2000000
def BsOk (bs : List Int) : Prop := bs.length ≤ 1048576 ∧ ∀ b, b ∈ bs → 0 ≤ b ∧ b ≤ 255
def DrawB (R : Rel) (bs : List Int) {α : Type} (P : α → Prop) (res : α → V) : Prop := ∃ a, P a ∧ R [.sl 3 1 bs.length (u8s bs)] [] (res a) []
theorem drawB_b {D : Dn} {f : SFn} {bs : List Int} {α : Type} {P : α → Prop} {res : α → V} (h : ∀ Q : V → List O → Prop, (∀ a, P a → Q (res a) []) → BodyE D f [.sl 3 1 bs.length (u8s bs)] [] Q) : DrawB (Body D f) bs P res := by
  obtain ⟨v, o, ⟨a, h1, rfl, rfl⟩, h3⟩ := body_ex (P := fun v o => ∃ a, P a ∧ v = res a ∧ o = []) (fun Q hQ => h Q (fun a h1 => hQ _ _ ⟨a, h1, rfl, rfl⟩))
  exact ⟨a, h1, h3⟩
abbrev DrawEndVersionsS (R : Rel) : Prop := ∀ bs : List Int, BsOk bs → DrawB R bs (fun p : World × Int => WSm p.1 ∧ -1 ≤ p.2 ∧ p.2 ≤ 8) (fun p => .tup [.agg (eWorld p.1), I p.2])
theorem DrawEndVersions_b (D : Dn) (hN : l1NewS (D gspec_l1New)) (hB : l1BelowS (D gspec_l1Below)) (hW : l32AnyS (D gspec_l32Any)) : DrawEndVersionsS (Body D sspec_DrawEndVersions) := by
  intro bs hb
  refine drawB_b (fun Q hQ => ?_)
  simp -implicitDefEqProofs
  obtain ⟨c0, hc0, pc0⟩ := hN bs hb.1 hb.2
  simp -implicitDefEqProofs [eCur, ints] at pc0
  refine callQ_of (pc0) ?_
  simp -implicitDefEqProofs
  obtain ⟨w, c1, hw, hc1, pw⟩ := hW c0 hc0
  simp -implicitDefEqProofs [eCur, ints] at pw
  refine callQ_of (pw) ?_
  simp -implicitDefEqProofs
  obtain ⟨x, c2, hx, hc2, px⟩ := hB c1 8 hc1 (by omega)
  simp -implicitDefEqProofs [eCur, ints] at px
  refine callQ_of (px) ?_
  have hx8 := hx.2.2 (by omega)
  have w1 : IntKind.i64.wrap (x - 1) = x - 1 := wrap_id (by omega) (by omega)
  simp -implicitDefEqProofs [w1]
  exact hQ (w, x - 1) ⟨hw, by dsimp only; omega, by dsimp only; omega⟩
def NewOk (p : List Int × List Int × List Endpoint × Rollout) : Prop := szWorld (firstWorld p.1 p.2.1 p.2.2.1 p.2.2.2) ≤ 4000
abbrev DrawNewWorldS (R : Rel) : Prop := ∀ bs : List Int, BsOk bs → DrawB R bs NewOk (fun p => .tup [.sl 0 1 p.1.length (ints p.1), .sl 0 1 p.2.1.length (ints p.2.1), .sl 0 4 p.2.2.1.length (p.2.2.1.flatMap eEndpoint), .agg (eRollout p.2.2.2)])
theorem endOk_sm {e : Endpoint} (h : EndOk e) : EndSm e := ⟨by have := h.vers.2.2; omega, by have := h.tags.2.2; omega, by have := h.path.1; omega, fun b hb => ok_sm (h.path.2 b hb)⟩
theorem DrawNewWorld_b (D : Dn) (hN : l1NewS (D gspec_l1New)) (hB : l1BelowS (D gspec_l1Below)) (hO : l1OnceS (D gspec_l1Once)) (hV : l12DrawS (D gspec_l12Draw)) (hE : l31DrawS (D gspec_l31Draw)) (hEA : l31AnyS (D gspec_l31Any)) (hP : l4PutS (D gspec_l4Put))
    (hR : l26DrawS (D gspec_l26Draw)) (hRA : l26AnyS (D gspec_l26Any)) (hT : l17TagsS (D gspec_l17Tags)) : DrawNewWorldS (Body D sspec_DrawNewWorld) := by
  intro bs hb
  refine drawB_b (fun Q hQ => ?_)
  simp -implicitDefEqProofs
  obtain ⟨c0, hc0, pc0⟩ := hN bs hb.1 hb.2
  simp -implicitDefEqProofs [eCur, ints] at pc0
  refine callQ_of (pc0) ?_
  simp -implicitDefEqProofs
  obtain ⟨srv, c1, hsrv, hc1, psrv⟩ := hV c0 hc0
  simp -implicitDefEqProofs [eCur, ints] at psrv
  refine callQ_of (psrv) ?_
  have hsl := hsrv.1.2.2
  have hsp := hsrv.2
  simp -implicitDefEqProofs
  obtain ⟨x, c2, hx, hc2, px⟩ := hB c1 4 hc1 (by omega)
  simp -implicitDefEqProofs [eCur, ints] at px
  refine callQ_of (px) ?_
  have hx4 := hx.2.2 (by omega)
  obtain ⟨n, rfl⟩ : ∃ n : Nat, x = n := ⟨x.toNat, by omega⟩
  simp -implicitDefEqProofs
  obtain ⟨LI, hLI⟩ : ∃ LI : Nat → St → Prop, LI = fun k s => ∃ j cc es o4 o5 o6 o7 o8 o9 o10 o11 o12 o13 o18 o19 o20, j + k = n ∧ (es : List Endpoint).length ≤ j ∧ (∀ e, e ∈ es → szEndpoint e ≤ 100) ∧ curOk cc ∧ s = ⟨[.undef, .undef, .undef, .undef, .ptr 0 0, .ptr 1 0, .arr 2, .arr 21, I k, .undef, .undef, .undef, .undef, .undef], [.var [I 0, .nil 1, I 0, B false], .var (eCur cc), .arr 1 0 srv.length (ints srv), .free, o4, o5, o6, o7, o8, o9, o10, o11, o12, o13, .free, .free, .free, .free, o18, o19, o20, .arr 4 0 es.length (es.flatMap eEndpoint), .free]⟩ := ⟨_, rfl⟩
  refine swp_loop LI ?_ (n) _ (by rw [hLI]; exact ⟨0, c2, [], .free, .free, .free, .free, .free, .free, .free, .free, .free, .free, .free, .free, .free, by simp, by simp, by simp, hc2, by simp [ints]⟩)
  intro k s hs
  rw [hLI] at hs
  obtain ⟨j, cc, es, o4, o5, o6, o7, o8, o9, o10, o11, o12, o13, o18, o19, o20, hj, hel, hes, hcc, hs⟩ := hs
  subst hs
  by_cases hk : 0 < k
  · have hwk : IntKind.i64.wrap ((k : Int) - 1) = (k - 1 : Nat) := by rw [wrap_id (by omega) (by omega)]; omega
    have hb1 : (es.length + 1) * 80 ≤ 1099511627776 := by omega
    simp -implicitDefEqProofs [hk]
    obtain ⟨e, c3, he, hc3, pe⟩ := hE cc hcc
    simp -implicitDefEqProofs [eCur, ints] at pe
    refine callQ_of (pe) ?_
    have hvl := he.vers.2.2
    simp -implicitDefEqProofs [hsp]
    have pp := hP e.versions srv[0] (by omega)
    simp -implicitDefEqProofs [ints] at pp
    refine callQ_of (pp) ?_
    have hpl := putV_len e.versions srv[0]
    generalize putV e.versions srv[0] = pv at hpl
    simp -implicitDefEqProofs
    obtain ⟨q, c4, hq, hc4, pq⟩ := hO c3 12 hc3 (by omega)
    simp -implicitDefEqProofs [eCur, ints] at pq
    refine callQ_of (pq) ?_
    by_cases g : q = true
    · simp -implicitDefEqProofs [g]
      obtain ⟨u, c5, hu, hc5, pu⟩ := hEA c4 hc4
      simp -implicitDefEqProofs [eCur, ints] at pu
      refine callQ_of (pu) ?_
      simp -implicitDefEqProofs [hb1, hwk]
      refine ⟨k - 1, by omega, ?_⟩
      rw [hLI]
      exact ⟨j + 1, c5, es ++ [u], _, _, _, _, _, _, _, _, _, _, _, _, _, by omega, by simp; omega, ends_mem hes (endSm_sz hu), hc5, by simp [eEndpoint, ints]; exact ⟨rfl, rfl, rfl, rfl, rfl, rfl, rfl, rfl, rfl, rfl, rfl, rfl, rfl⟩⟩
    · have hsm := endOk_sm he
      have hsz : szEndpoint ⟨pv, e.tags, e.path, e.cls⟩ ≤ 100 := endSm_sz ⟨by dsimp only; omega, hsm.tags, hsm.path, hsm.box⟩
      simp -implicitDefEqProofs [g, hb1, hwk]
      refine ⟨k - 1, by omega, ?_⟩
      rw [hLI]
      exact ⟨j + 1, c4, es ++ [⟨pv, e.tags, e.path, e.cls⟩], _, _, _, _, _, _, _, _, _, _, _, _, _, by omega, by simp; omega, ends_mem hes hsz, hc4, by simp [eEndpoint, ints]; exact ⟨rfl, rfl, rfl, rfl, rfl, rfl, rfl, rfl, rfl, rfl, rfl, rfl, rfl⟩⟩
  · have hk0 : k = 0 := by omega
    subst hk0
    have hez := ends_sz hes
    have hez2 : es.length * 101 ≤ 3 * 101 := Nat.mul_le_mul_right _ (by omega)
    simp -implicitDefEqProofs
    obtain ⟨r, c3, hr, hc3, pr⟩ := hR cc hcc
    simp -implicitDefEqProofs [eCur, ints] at pr
    refine callQ_of (pr) ?_
    have hrl := hr.1.1.2.2
    have hws : IntKind.i64.wrap ((srv.length : Int) - 1) = (srv.length - 1 : Nat) := by rw [wrap_id (by omega) (by omega)]; omega
    have hs1 : srv.length - 1 < srv.length := by omega
    simp -implicitDefEqProofs [hws, hs1]
    obtain ⟨q, c4, hq, hc4, pq⟩ := hO c3 9 hc3 (by omega)
    simp -implicitDefEqProofs [eCur, ints] at pq
    refine callQ_of (pq) ?_
    by_cases g : q = true
    · simp -implicitDefEqProofs [g]
      obtain ⟨u, c5, hu, hc5, pu⟩ := hRA c4 hc4
      simp -implicitDefEqProofs [eCur, ints] at pu
      refine callQ_of (pu) ?_
      simp -implicitDefEqProofs
      obtain ⟨t, c6, ht, hc6, pt⟩ := hT c5 hc5
      simp -implicitDefEqProofs [eCur, ints] at pt
      refine callQ_of (pt) ?_
      have htl := ht.2.2
      simp -implicitDefEqProofs
      exact hQ (srv, t, es, u) (by unfold NewOk; rw [first_sz]; simp only [szRollout]; omega)
    · simp -implicitDefEqProofs [g]
      obtain ⟨t, c6, ht, hc6, pt⟩ := hT c4 hc4
      simp -implicitDefEqProofs [eCur, ints] at pt
      refine callQ_of (pt) ?_
      have htl := ht.2.2
      simp -implicitDefEqProofs
      exact hQ (srv, t, es, ⟨srv[srv.length - 1], r.stages, r.pos, r.off⟩) (by unfold NewOk; rw [first_sz]; simp only [szRollout]; omega)
end Go.Eng.T

namespace Go.Eng.T
set_option maxRecDepth 20000
set_option maxHeartbeats 2000000
abbrev DrawEqualWorldsS (R : Rel) : Prop := ∀ bs : List Int, BsOk bs → DrawB R bs (fun p : World × World => szWorld p.1 ≤ 4000 ∧ szWorld p.2 ≤ 4000) (fun p => .tup [.agg (eWorld p.1), .agg (eWorld p.2)])
theorem DrawEqualWorlds_b (D : Dn) (hN : l1NewS (D gspec_l1New)) (hB : l1BelowS (D gspec_l1Below)) (hW : l32AnyS (D gspec_l32Any)) (hC : cpWorldS (D gspec_l32Copy)) : DrawEqualWorldsS (Body D sspec_DrawEqualWorlds) := by
  intro bs hb
  refine drawB_b (fun Q hQ => ?_)
  simp -implicitDefEqProofs
  obtain ⟨c0, hc0, pc0⟩ := hN bs hb.1 hb.2
  simp -implicitDefEqProofs [eCur, ints] at pc0
  refine callQ_of (pc0) ?_
  simp -implicitDefEqProofs
  obtain ⟨w, c1, hw, hc1, pw⟩ := hW c0 hc0
  simp -implicitDefEqProofs [eCur, ints] at pw
  refine callQ_of (pw) ?_
  unfold WSm at hw
  simp -implicitDefEqProofs
  have pp := hC w (by omega)
  simp -implicitDefEqProofs [ints] at pp
  refine callQ_of (pp) ?_
  simp -implicitDefEqProofs
  obtain ⟨x, c2, hx, hc2, px⟩ := hB c1 6 hc1 (by omega)
  simp -implicitDefEqProofs [eCur, ints] at px
  refine callQ_of (px) ?_
  have hstl : w.stage.length ≤ szWorld w := by unfold szWorld sumF; omega
  by_cases g0 : x = 0
  · simp -implicitDefEqProofs [g0]
    obtain ⟨u, c3, hu, hc3, pu⟩ := hW c2 hc2
    simp -implicitDefEqProofs [eCur, ints] at pu
    refine callQ_of (pu) ?_
    unfold WSm at hu
    simp -implicitDefEqProofs
    exact hQ (w, u) ⟨by dsimp only; omega, by dsimp only; omega⟩
  by_cases g1 : x = 1
  · simp -implicitDefEqProofs [g1]
    have := hQ (w, { w with now := IntKind.i64.wrap (w.now + 1) }) ⟨by dsimp only; omega, by simp only [szWorld] at *; omega⟩
    simpa [eWorld, ints] using this
  by_cases g2 : x = 2
  · simp -implicitDefEqProofs [g2]
    have := hQ (w, { w with rollout := { w.rollout with off := !w.rollout.off } }) ⟨by dsimp only; omega, by simp only [szWorld, szRollout] at *; omega⟩
    simpa [eWorld, ints] using this
  by_cases g3 : x = 3
  · have hb1 : (w.stage.length + 1) * 72 ≤ 1099511627776 := by omega
    simp -implicitDefEqProofs [g3, hb1]
    have := hQ (w, { w with stage := w.stage ++ [⟨noDeal, 1, []⟩] }) ⟨by dsimp only; omega, by
      simp only [szWorld, sumF, List.length_append, List.map_append, List.sum_append, List.length_cons, List.length_nil, List.map_cons, List.map_nil, List.sum_cons, List.sum_nil, szDialed, szDeal, noDeal] at *
      omega⟩
    simpa [eWorld, eDialed, ints, noDeal] using this
  simp -implicitDefEqProofs [g0, g1, g2, g3]
  exact hQ (w, w) ⟨by dsimp only; omega, by dsimp only; omega⟩
def endVers (w : World) (i : Int) : List Int := if InQ i 0 ((w.ends.length : Int) - 1) then (match w.ends[i.toNat]? with | some e => e.versions | none => []) else []
abbrev EndVersionsS (R : Rel) : Prop := ∀ (w : World) (i : Int), szWorld w ≤ 4194304 → R [arg (eWorld w), I i] [] (.sl 0 1 (endVers w i).length (ints (endVers w i))) []
theorem iEndVersions_b (D : Dn) (hI : hasEndS (D gimpl_hasEnd)) : EndVersionsS (Body D simpl_EndVersions) := by
  intro w i hsz
  have he := world_ends hsz
  simp -implicitDefEqProofs
  refine callQ_of (hI w i he) ?_
  by_cases h1 : InQ i 0 ((w.ends.length : Int) - 1)
  rotate_left
  · simp -implicitDefEqProofs [h1, endVers]
  obtain ⟨n, rfl⟩ : ∃ n : Nat, i = n := ⟨i.toNat, by have := h1.1; omega⟩
  have hn : n < w.ends.length := by have := h1.2; omega
  have hes := endp_vers (world_end hsz hn)
  have e : endVers w n = w.ends[n].versions := by unfold endVers; rw [if_pos h1]; simp [hn]
  rw [e]
  have hb1 : w.ends[n].versions.length * 8 ≤ 1099511627776 := by omega
  simp -implicitDefEqProofs [h1, hn, hb1]
abbrev bigS (R : Rel) : Prop := ∀ bs : List Int, bs.length ≤ maxLen → R [.sl 3 1 bs.length (u8s bs)] [] (B (decide (1048576 < bs.length))) []
theorem big_b (D : Dn) : bigS (Body D slaws_big) := by
  intro bs h
  unfold maxLen at h
  by_cases h1 : 1048576 < bs.length
  · have h1' : (1048576 : Int) < bs.length := by omega
    simp -implicitDefEqProofs [h1, h1']
  · have h1' : ¬ (1048576 : Int) < bs.length := by omega
    simp -implicitDefEqProofs [h1, h1']
theorem ln_world {w : World} (h : szWorld w ≤ 4000) : lnWorld w := by
  have ml : ∀ n : Nat, n ≤ 4000 → n ≤ maxLen := fun n h => by unfold maxLen; omega
  unfold szWorld at h
  have e1 := size_len (f := szEndpoint) (xs := w.ends)
  have e2 := size_len (f := szDialed) (xs := w.stage)
  have e3 := size_len (f := szLogged) (xs := w.log)
  have d : ∀ x : Dialed, szDialed x ≤ 4000 → lnDialed x := fun x hx => by
    simp only [szDialed, szDeal] at hx
    exact ⟨ml _ (by omega), ml _ (by omega)⟩
  refine ⟨ml _ (by omega), ml _ (by omega), ⟨ml _ (by omega), fun j hj => ?_⟩, ml _ (by unfold szRollout at h; omega), ⟨ml _ (by omega), fun j hj => ?_⟩, ⟨ml _ (by omega), fun j hj => ?_⟩⟩
  · have := size_at (f := szEndpoint) hj
    exact ln_end (by omega)
  · have := size_at (f := szDialed) hj
    exact d _ (by omega)
  · have := size_at (f := szLogged) hj
    have h3 : szLogged w.log[j] = szDialed w.log[j].dialed := rfl
    exact d _ (by omega)
def ByteArg (bs : List Int) : Prop := bs.length ≤ maxLen ∧ ∀ b, b ∈ bs → 0 ≤ b ∧ b ≤ 255
abbrev FnWorldsS (R : Rel) : Prop := ∀ bs : List Int, ByteArg bs → R [.sl 3 1 bs.length (u8s bs)] [] (B true) []
theorem FnWorlds_b (D : Dn) (hBig : bigS (D glaws_big)) (hDN : DrawNewWorldS (D gspec_DrawNewWorld)) (hNW : NewWorldS (D gimpl_NewWorld)) (hIW : IsWorldS (D gimpl_IsWorld)) (hLs : ListsOfS (D gimpl_ListsOf)) (hAR : AllReachS (D gimpl_AllReach))
    (hDE : DrawEndVersionsS (D gspec_DrawEndVersions)) (hEV : EndVersionsS (D gimpl_EndVersions)) (hEI : eqIntSS (D gimpl_EqualInts)) (hDQ : DrawEqualWorldsS (D gspec_DrawEqualWorlds)) (hEW : EqualWorldsS (D gimpl_EqualWorlds)) : FnWorldsS (Body D slaws_FnWorlds) := by
  intro bs hb
  simp -implicitDefEqProofs
  refine callQ_of (hBig bs hb.1) ?_
  by_cases hbig : 1048576 < bs.length
  · simp -implicitDefEqProofs [hbig]
  have hB : BsOk bs := ⟨by omega, hb.2⟩
  simp -implicitDefEqProofs [hbig]
  obtain ⟨⟨sv, tg, es, r⟩, hp, pp⟩ := hDN bs hB
  unfold NewOk at hp
  dsimp only at hp pp
  refine callQ_of (pp) ?_
  simp -implicitDefEqProofs
  have q := hNW sv tg es r (by omega)
  have hnw : newWorld sv tg es r = if isWorld (firstWorld sv tg es r) = true then (firstWorld sv tg es r, true) else (zeroWorld, false) := rfl
  have hwe : (firstWorld sv tg es r).ends = es := rfl
  have hws : (firstWorld sv tg es r).server = sv := rfl
  generalize firstWorld sv tg es r = w at *
  by_cases hok : isWorld w = true
  · rw [if_pos hok] at hnw
    rw [hnw] at q
    refine callQ_of (q) ?_
    simp -implicitDefEqProofs
    refine callQ_of (hIW w (by omega)) ?_
    simp -implicitDefEqProofs [hok]
    refine callQ_of (hLs w (by omega)) ?_
    simp -implicitDefEqProofs
    have hal : allReach sv (listsOf w) = true := by
      unfold isWorld isWorldA at hok
      simp only [Bool.and_eq_true] at hok
      rw [← hws]; exact hok.1.1
    have hll : (listsOf w).length = es.length := by rw [← hwe]; simp [listsOf]
    have hsv : sv.length ≤ 4194304 := by rw [← hws]; unfold szWorld at hp; omega
    refine callQ_of (hAR sv (listsOf w) hsv (lists_sz (by omega))) ?_
    simp -implicitDefEqProofs [hal]
    refine callQ_of (hLs w (by omega)) ?_
    simp -implicitDefEqProofs [hll]
    obtain ⟨⟨x, i⟩, ⟨hx, hi1, hi2⟩, px⟩ := hDE bs hB
    unfold WSm at hx
    dsimp only at hx hi1 hi2 px
    refine callQ_of (px) ?_
    simp -implicitDefEqProofs
    refine callQ_of (hEV x i (by omega)) ?_
    have hxe := world_ends (w := x) (by omega)
    have fin : ∀ {a b : World}, szWorld a ≤ 4000 → szWorld b ≤ 4000 → (decide (a = b) = decide (b = a)) := fun {a b} _ _ => by
      by_cases h : a = b
      · rw [h]
      · have h2 : ¬ b = a := fun h' => h h'.symm
        simp [h, h2]
    by_cases h1 : InQ i 0 ((x.ends.length : Int) - 1)
    · obtain ⟨n, rfl⟩ : ∃ n : Nat, i = n := ⟨i.toNat, by have := h1.1; omega⟩
      have hn : n < x.ends.length := by have := h1.2; omega
      have e : endVers x n = x.ends[n].versions := by unfold endVers; rw [if_pos h1]; simp [hn]
      have hvn := endp_vers (world_end (w := x) (by omega) hn)
      rw [e]
      simp -implicitDefEqProofs [hn]
      refine callQ_of (hEI x.ends[n].versions x.ends[n].versions (by unfold maxLen; omega) (by unfold maxLen; omega)) ?_
      simp -implicitDefEqProofs
      obtain ⟨⟨a, b⟩, ⟨ha, hb2⟩, pab⟩ := hDQ bs hB
      dsimp only at ha hb2 pab
      refine callQ_of (pab) ?_
      simp -implicitDefEqProofs
      refine callQ_of (hEW a b (ln_world ha) (ln_world hb2)) ?_
      simp -implicitDefEqProofs
      refine callQ_of (hEW b a (ln_world hb2) (ln_world ha)) ?_
      rw [← fin ha hb2]
      generalize decide (a = b) = q1
      simp -implicitDefEqProofs
      refine callQ_of (hEW a a (ln_world ha) (ln_world ha)) ?_
      simp -implicitDefEqProofs
    · have hvl : (endVers x i).length = 0 := by unfold endVers; rw [if_neg h1]; rfl
      by_cases h2 : 0 ≤ i
      · have h3 : ¬ i < x.ends.length := fun h => h1 ⟨h2, by omega⟩
        simp -implicitDefEqProofs [h2, h3]
        obtain ⟨⟨a, b⟩, ⟨ha, hb2⟩, pab⟩ := hDQ bs hB
        dsimp only at ha hb2 pab
        refine callQ_of (pab) ?_
        simp -implicitDefEqProofs
        refine callQ_of (hEW a b (ln_world ha) (ln_world hb2)) ?_
        simp -implicitDefEqProofs
        refine callQ_of (hEW b a (ln_world hb2) (ln_world ha)) ?_
        rw [← fin ha hb2]
        generalize decide (a = b) = q1
        simp -implicitDefEqProofs
        refine callQ_of (hEW a a (ln_world ha) (ln_world ha)) ?_
        simp -implicitDefEqProofs
      · simp -implicitDefEqProofs [h2]
        obtain ⟨⟨a, b⟩, ⟨ha, hb2⟩, pab⟩ := hDQ bs hB
        dsimp only at ha hb2 pab
        refine callQ_of (pab) ?_
        simp -implicitDefEqProofs
        refine callQ_of (hEW a b (ln_world ha) (ln_world hb2)) ?_
        simp -implicitDefEqProofs
        refine callQ_of (hEW b a (ln_world hb2) (ln_world ha)) ?_
        rw [← fin ha hb2]
        generalize decide (a = b) = q1
        simp -implicitDefEqProofs
        refine callQ_of (hEW a a (ln_world ha) (ln_world ha)) ?_
        simp -implicitDefEqProofs
  · rw [if_neg hok] at hnw
    rw [hnw] at q
    refine callQ_of (q) ?_
    simp -implicitDefEqProofs
    obtain ⟨⟨x, i⟩, ⟨hx, hi1, hi2⟩, px⟩ := hDE bs hB
    unfold WSm at hx
    dsimp only at hx hi1 hi2 px
    refine callQ_of (px) ?_
    simp -implicitDefEqProofs
    refine callQ_of (hEV x i (by omega)) ?_
    have hxe := world_ends (w := x) (by omega)
    have fin : ∀ {a b : World}, szWorld a ≤ 4000 → szWorld b ≤ 4000 → (decide (a = b) = decide (b = a)) := fun {a b} _ _ => by
      by_cases h : a = b
      · rw [h]
      · have h2 : ¬ b = a := fun h' => h h'.symm
        simp [h, h2]
    by_cases h1 : InQ i 0 ((x.ends.length : Int) - 1)
    · obtain ⟨n, rfl⟩ : ∃ n : Nat, i = n := ⟨i.toNat, by have := h1.1; omega⟩
      have hn : n < x.ends.length := by have := h1.2; omega
      have e : endVers x n = x.ends[n].versions := by unfold endVers; rw [if_pos h1]; simp [hn]
      have hvn := endp_vers (world_end (w := x) (by omega) hn)
      rw [e]
      simp -implicitDefEqProofs [hn]
      refine callQ_of (hEI x.ends[n].versions x.ends[n].versions (by unfold maxLen; omega) (by unfold maxLen; omega)) ?_
      simp -implicitDefEqProofs
      obtain ⟨⟨a, b⟩, ⟨ha, hb2⟩, pab⟩ := hDQ bs hB
      dsimp only at ha hb2 pab
      refine callQ_of (pab) ?_
      simp -implicitDefEqProofs
      refine callQ_of (hEW a b (ln_world ha) (ln_world hb2)) ?_
      simp -implicitDefEqProofs
      refine callQ_of (hEW b a (ln_world hb2) (ln_world ha)) ?_
      rw [← fin ha hb2]
      generalize decide (a = b) = q1
      simp -implicitDefEqProofs
      refine callQ_of (hEW a a (ln_world ha) (ln_world ha)) ?_
      simp -implicitDefEqProofs
    · have hvl : (endVers x i).length = 0 := by unfold endVers; rw [if_neg h1]; rfl
      by_cases h2 : 0 ≤ i
      · have h3 : ¬ i < x.ends.length := fun h => h1 ⟨h2, by omega⟩
        simp -implicitDefEqProofs [h2, h3]
        obtain ⟨⟨a, b⟩, ⟨ha, hb2⟩, pab⟩ := hDQ bs hB
        dsimp only at ha hb2 pab
        refine callQ_of (pab) ?_
        simp -implicitDefEqProofs
        refine callQ_of (hEW a b (ln_world ha) (ln_world hb2)) ?_
        simp -implicitDefEqProofs
        refine callQ_of (hEW b a (ln_world hb2) (ln_world ha)) ?_
        rw [← fin ha hb2]
        generalize decide (a = b) = q1
        simp -implicitDefEqProofs
        refine callQ_of (hEW a a (ln_world ha) (ln_world ha)) ?_
        simp -implicitDefEqProofs
      · simp -implicitDefEqProofs [h2]
        obtain ⟨⟨a, b⟩, ⟨ha, hb2⟩, pab⟩ := hDQ bs hB
        dsimp only at ha hb2 pab
        refine callQ_of (pab) ?_
        simp -implicitDefEqProofs
        refine callQ_of (hEW a b (ln_world ha) (ln_world hb2)) ?_
        simp -implicitDefEqProofs
        refine callQ_of (hEW b a (ln_world hb2) (ln_world ha)) ?_
        rw [← fin ha hb2]
        generalize decide (a = b) = q1
        simp -implicitDefEqProofs
        refine callQ_of (hEW a a (ln_world ha) (ln_world ha)) ?_
        simp -implicitDefEqProofs
end Go.Eng.T

namespace Go.Eng.T
theorem datU8 {cs : List V} (h : Dat (.int .u8) cs) : ∃ n : Int, cs = [V.sc (.int .u8 n)] ∧ (0 ≤ n ∧ n ≤ 255) := by
  simp only [Dat] at h
  obtain ⟨n, h1, h2⟩ := h
  simp only [Lit.wf, IntKind.min, IntKind.max, IntKind.bits, IntKind.signed, Bool.and_eq_true, decide_eq_true_eq] at h1
  exact ⟨n, h2, by simpa using h1.1, by simpa using h1.2⟩
theorem arg3 {as : List V} (h : ArgsV3 as) : ∃ bs : List Int, (bs.length ≤ maxLen ∧ ∀ b, b ∈ bs → 0 ≤ b ∧ b ≤ 255) ∧ as = [.sl 3 1 bs.length (u8s bs)] := by
  obtain ⟨c, hd, rfl⟩ := h
  obtain ⟨ds, h1, h2, h3⟩ := datRow (f := fun n => [V.sc (.int .u8 n)]) (p := fun n : Int => 0 ≤ n ∧ n ≤ 255) (fun cs h => datU8 h) hd
  refine ⟨ds, ⟨h2, h3⟩, ?_⟩
  have e : ds.flatMap (fun n => [V.sc (.int .u8 n)]) = u8s ds := by
    clear h1 h2 h3
    induction ds with
    | nil => rfl
    | cons a ds ih => rw [List.flatMap_cons, ih]; rfl
  rw [e] at h1
  have h4 : c = .sl 0 (Ty.int IntKind.u8).cells ds.length (u8s ds) := by simpa using h1
  rw [h4]
  rfl
theorem draw_lk {R R' : Rel} (h : ∀ a gi r o, R a gi r o → R' a gi r o) {args : List V} {c : Cur} {α : Type} {P : α → Prop} {res : α → V} (hd : Draw R args c P res) : Draw R' args c P res := by
  obtain ⟨a, c', h1, h2, h3⟩ := hd
  exact ⟨a, c', h1, h2, h _ _ _ _ h3⟩
theorem drawB_lk {R R' : Rel} (h : ∀ a gi r o, R a gi r o → R' a gi r o) {bs : List Int} {α : Type} {P : α → Prop} {res : α → V} (hd : DrawB R bs P res) : DrawB R' bs P res := by
  obtain ⟨a, h1, h3⟩ := hd
  exact ⟨a, h1, h _ _ _ _ h3⟩
theorem new_lk {R R' : Rel} (h : ∀ a gi r o, R a gi r o → R' a gi r o) {args : List V} (hd : ∃ c : Cur, curOk c ∧ R args [] (.rptr 0 (eCur c) 0) []) : ∃ c : Cur, curOk c ∧ R' args [] (.rptr 0 (eCur c) 0) [] := by
  obtain ⟨c, h1, h3⟩ := hd
  exact ⟨c, h1, h _ _ _ _ h3⟩
end Go.Eng.T

