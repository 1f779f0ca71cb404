/- Own work: part 45 of the proof of FnExactIsBounded. -/
import Derived.Test.YtncobgjmochecabP44
import Derived.Lib.RowBridge
import Derived.Shelf.Small.Bits
import Derived.Shelf.Strconv.Itoa0
import Derived.Shelf.Sort.Plain
import Derived.Shelf.Slices.Turned
import Derived.Shelf.Slices.Reverse
import Derived.Ground.Names2Prog
import Derived.Shelf.Slices.CompactI
import Derived.Shelf.Slices.SearchI
import Derived.Shelf.Slices.Cells
import Derived.Shelf.Slices.In.SortNone
import Derived.Test.YtncobgjmochecabProg
set_option linter.unusedSimpArgs false
set_option linter.unusedVariables false
namespace Go.Eng
open Go.Lib Go.RowKit Go.Sort

def putVs : Nat → List Value → Array Value → Array Value
  | _, [], c => c
  | o, v :: r, c => putVs (o + 1) r (c.setIfInBounds o v)
theorem putVs_size : ∀ (vs : List Value) (o : Nat) (c : Array Value), (putVs o vs c).size = c.size
  | [], _, _ => rfl
  | v :: r, o, c => by rw [putVs, putVs_size r]; simp
theorem putVs_out : ∀ (vs : List Value) (o k : Nat) (c : Array Value), k < o ∨ o + vs.length ≤ k → (putVs o vs c)[k]? = c[k]?
  | [], _, _, _, _ => rfl
  | v :: r, o, k, c, h => by
    simp only [List.length_cons] at h
    rw [putVs, putVs_out r (o + 1) k _ (by omega), Array.getElem?_setIfInBounds, if_neg (by omega)]
theorem putVs_in : ∀ (vs : List Value) (o i : Nat) (c : Array Value), i < vs.length → o + vs.length ≤ c.size → (putVs o vs c)[o + i]? = vs[i]?
  | v :: r, o, 0, c, _, hc => by
    simp only [List.length_cons] at hc
    rw [putVs, putVs_out r (o + 1) (o + 0) _ (by omega), Array.getElem?_setIfInBounds, if_pos (by omega), if_pos (by omega)]
    rfl
  | v :: r, o, i + 1, c, hi, hc => by
    simp only [List.length_cons] at hc hi
    rw [putVs, show o + (i + 1) = o + 1 + i by omega, putVs_in r (o + 1) i _ (by omega) (by simp; omega)]
    simp
theorem setCells_map (b : Nat) : ∀ (vs : List Value) (o : Nat) (w : World), w.setCells b o vs = mapBlock w b (putVs o vs)
  | [], o, w => (mapBlock_id w b _ fun _ _ _ _ => rfl).symm
  | v :: r, o, w => by
    rw [World.setCells, setCells_map b r, setCell_eq, mapBlock_mapBlock]
    rfl

def insL (l : List Int) (i : Nat) (v : Int) : List Int := l.take i ++ v :: l.drop i
theorem insL_len {l : List Int} {i : Nat} {v : Int} (hi : i ≤ l.length) : (insL l i v).length = l.length + 1 := by simp [insL]; omega
theorem insL_get {l : List Int} {i j : Nat} {v : Int} (hi : i ≤ l.length) : (insL l i v)[j]? = if j < i then l[j]? else if j = i then some v else l[j - 1]? := by
  unfold insL
  have hm : min i l.length = i := by omega
  rw [List.getElem?_append]
  simp only [List.length_take, hm]
  split
  · rename_i h; rw [List.getElem?_take, if_pos h]
  · split
    · rename_i h1 h2; subst h2; simp
    · rename_i h1 h2
      obtain ⟨d, rfl⟩ : ∃ d, j = i + (d + 1) := ⟨j - i - 1, by omega⟩
      rw [show i + (d + 1) - i = d + 1 by omega, List.getElem?_cons_succ, List.getElem?_drop]
      congr 1
theorem iv_get {l : List Int} {j : Nat} : (iv l)[j]? = (l[j]?).map (Value.int .i64) := by simp [iv]
theorem iv_ins {l : List Int} {i j : Nat} {v : Int} (hi : i ≤ l.length) : (iv (insL l i v))[j]? = if j < i then (iv l)[j]? else if j = i then some (.int .i64 v) else (iv l)[j - 1]? := by
  rw [iv_get, insL_get hi]
  split
  · rw [iv_get]
  · split
    · rfl
    · rw [iv_get]

/-- the facts that the kit's contracts ask of a row that is handed over -/
theorem has_cell {w : World} {b o n : Nat} {vs : List Value} (h : Has w b o vs n) {j : Nat} {v : Value} (hj : vs[j]? = some v) : w.cell? ⟨b, o + j, none⟩ = some v := by
  have hl := (List.getElem?_eq_some_iff.1 hj).1
  rw [(has_reads h).2 j hl, hj]
theorem has_some {w : World} {b o n : Nat} {vs : List Value} (h : Has w b o vs n) {j : Nat} (hj : j < n) : (w.cell? ⟨b, o + j, none⟩).isSome = true := by
  obtain ⟨_, c, et, hb, h2, _, _⟩ := h
  unfold World.cell?
  simp only [hb]
  have : o + j < c.size := by omega
  simp [this]
theorem has_warm {w : World} {b o n : Nat} {vs : List Value} (h : Has w b o vs n) (x : Nat) : w.frozen? ⟨b, x, none⟩ = false := by
  obtain ⟨_, c, et, hb, _⟩ := h
  unfold World.frozen?
  simp only [hb]
  simp
theorem has_shape {w : World} {b o n : Nat} {vs : List Value} (h : Has w b o vs n) : ∃ t k, w.shape? b = some (t, k) ∧ o + n ≤ k := by
  obtain ⟨_, c, et, hb, h2, _⟩ := h
  exact ⟨et, c.size, by unfold World.shape?; simp only [hb], h2⟩
theorem ones1 {vs : List Value} (h : Ones vs) : ∀ v ∈ vs, v.oneCell' = true := h
theorem iv1 (v : Int) : iv [v] = [.int .i64 v] := rfl

theorem alloc_at (w : World) (o : Obj) : (w.alloc o).heap[w.heap.size]? = some o := by
  show (w.heap.push o)[w.heap.size]? = some o
  rw [Array.getElem?_push, if_pos rfl]
theorem alloc_off (w : World) (o : Obj) {k : Nat} (h : k < w.heap.size) : (w.alloc o).heap[k]? = w.heap[k]? := by
  show (w.heap.push o)[k]? = w.heap[k]?
  rw [Array.getElem?_push, if_neg (by omega)]
theorem alloc_size (w : World) (o : Obj) : (w.alloc o).heap.size = w.heap.size + 1 := Array.size_push _
theorem zc_size (n : Nat) : (Builtin.zeroCells (Value.int .i64 0).cells n).size = n := by simp [Builtin.zeroCells, Value.cells]

theorem onCells_comp (f g : Array Value → Array Value) (o : Obj) : onCells g (onCells f o) = onCells (fun c => g (f c)) o := by cases o <;> rfl
/-- the cells behind an insertion in place -/
theorem ins_cells {l : List Int} {off i n : Nat} {v : Int} (hi : i ≤ l.length) (hn : l.length + 1 ≤ n) (c : Array Value) (hc : off + n ≤ c.size) (hl : ∀ j, j < i → c[off + j]? = (iv l)[j]?) (j : Nat) (hj : j < l.length + 1) :
    (putVs (off + i) (iv [v]) (putVs (off + (i + 1)) ((iv l).drop i) c))[off + j]? = (iv (insL l i v))[j]? := by
  rw [iv_ins hi]
  by_cases h1 : j < i
  · rw [if_pos h1, putVs_out _ _ _ _ (.inl (by omega)), putVs_out _ _ _ _ (.inl (by omega)), hl j h1]
  · rw [if_neg h1]
    by_cases h2 : j = i
    · subst h2
      rw [if_pos rfl]
      have := putVs_in (iv [v]) (off + j) 0 (putVs (off + (j + 1)) ((iv l).drop j) c) (by simp) (by rw [putVs_size]; simp; omega)
      simp only [Nat.add_zero] at this
      rw [this]; rfl
    · rw [if_neg h2, putVs_out _ _ _ _ (.inr (by simp; omega))]
      have := putVs_in ((iv l).drop i) (off + (i + 1)) (j - (i + 1)) c (by simp; omega) (by simp; omega)
      rw [show off + (i + 1) + (j - (i + 1)) = off + j by omega] at this
      rw [this, List.getElem?_drop]
      congr 1; omega
theorem kept_map {F : Fr} {b : Nat} {f : Array Value → Array Value} {w : World} (hh : w.heap = F.w0.heap) (ho : w.os = F.w0.os) (ht : w.tape = F.w0.tape) (hu : w.output = F.w0.output) (hb : F.own0 b ≠ none) : Kept F (mapBlock w b f) := by
  refine ⟨by rw [map_size, hh]; exact Nat.le_refl _, ho, ht, hu, fun b' h1 h2 => ?_⟩
  have hne : b' ≠ b := by intro e; rw [e] at h2; exact hb h2
  rw [map_off _ _ hne, hh]

theorem insert_den {P : Program} {fid : Nat → Option FuncId} {G : Gl} {g k : Nat} {t3 : TypeId} (hid : fid g = some k)
    (hShift : ∀ (b off n c i vb voff m vc : Nat) (cs vs : List Value) (w : World), i < n → 0 < m → n + m ≤ c → c ≤ 9223372036854775807 → vb ≠ b → cs.length = n → vs.length = m →
      (∀ j v, cs[j]? = some v → w.cell? ⟨b, off + j, none⟩ = some v) → (∀ j, j < n + m → (w.cell? ⟨b, off + j, none⟩).isSome = true) → (∀ j, j < n + m → w.frozen? ⟨b, off + j, none⟩ = false) →
      (∀ j v, vs[j]? = some v → w.cell? ⟨vb, voff + j, none⟩ = some v) → (∀ v ∈ cs, v.oneCell' = true) → (∀ v ∈ vs, v.oneCell' = true) →
      ∀ (tA tB : TypeId) (kA kB : Nat), w.shape? vb = some (tA, kA) → w.shape? b = some (tB, kB) → kB ≠ 0 → w.frozen? ⟨vb, voff, none⟩ = false → w.frozen? ⟨vb, kA, none⟩ = false →
      Calls P k #[.slice (some ⟨b, off, none⟩) n c, .int .i64 i, .slice (some ⟨vb, voff, none⟩) m vc] w fun e w' =>
        e = .returned (.slice (some ⟨b, off, none⟩) (n + m) c) ∧ w' = (w.drew.setCells b (off + (i + m)) (cs.drop i)).setCells b (off + i) vs)
    (hEndRoom : ∀ (b off n c vb voff m vc : Nat) (vs : List Value) (w : World), 0 < m → n + m ≤ c → c ≤ 9223372036854775807 → vs.length = m →
      (∀ j, j < m → (w.cell? ⟨b, off + n + j, none⟩).isSome = true) → (∀ j, j < m → w.frozen? ⟨b, off + n + j, none⟩ = false) →
      (∀ j v, vs[j]? = some v → w.cell? ⟨vb, voff + j, none⟩ = some v) → (∀ v ∈ vs, v.oneCell' = true) →
      Calls P k #[.slice (some ⟨b, off, none⟩) n c, .int .i64 n, .slice (some ⟨vb, voff, none⟩) m vc] w fun e w' =>
        e = .returned (.slice (some ⟨b, off, none⟩) (n + m) c) ∧ w' = w.setCells b (off + n) vs)
    (hEndGrow : ∀ (base : Option Addr) (n c vb voff m vc : Nat) (cs vs : List Value) (w : World), 0 < m → n ≤ c → c < n + m → (n + m) * 8 ≤ 140737488355328 → cs.length = n → vs.length = m → (base = none → n = 0) →
      (∀ a, base = some a → ∀ j v, cs[j]? = some v → w.cell? (a.add j) = some v) → (∀ j v, vs[j]? = some v → w.cell? ⟨vb, voff + j, none⟩ = some v) → (∀ v ∈ vs, v.oneCell' = true) →
      Calls P k #[.slice base n c, .int .i64 n, .slice (some ⟨vb, voff, none⟩) m vc] w fun e w' =>
        e = .returned (.slice (some ⟨w.heap.size, 0, none⟩) (n + m) (grownCap w (n + m) c t3)) ∧
        w' = w.drew.alloc (.cells ((cs ++ vs).toArray ++ Builtin.zeroCells (Value.int .i64 0).cells (grownCap w (n + m) c t3 - (n + m))) t3))
    (hGrow : ∀ (b off n c i vb voff m vc : Nat) (cs vs : List Value) (w : World), i < n → 0 < m → n ≤ c → c < n + m → (n + m) * 8 ≤ 140737488355328 → cs.length = n → vs.length = m →
      (∀ j v, cs[j]? = some v → w.cell? ⟨b, off + j, none⟩ = some v) → (∀ j v, vs[j]? = some v → w.cell? ⟨vb, voff + j, none⟩ = some v) → (∀ v ∈ cs, v.oneCell' = true) → (∀ v ∈ vs, v.oneCell' = true) →
      Calls P k #[.slice (some ⟨b, off, none⟩) n c, .int .i64 i, .slice (some ⟨vb, voff, none⟩) m vc] w fun e w' =>
        e = .returned (.slice (some ⟨w.heap.size, 0, none⟩) (n + m) (grownCap w (n + m) c t3)) ∧
        w' = (((w.alloc (.cells ((cs.take i).toArray ++ Builtin.zeroCells (Value.int .i64 0).cells (n + m - i) ++ Builtin.zeroCells (Value.int .i64 0).cells (grownCap w (n + m) c t3 - (n + m))) t3)).drew.setCells w.heap.size i vs).drew).setCells w.heap.size (i + m) (cs.drop i))
    (l : List Int) (i : Nat) (v : Int) (hl : l.length ≤ 4194304) (hi : i ≤ l.length) :
    Den P fid G g [.arr 0, .sc (.int .i64 i), .arr 1] [.arr 1 0 l.length (T.ints l), .arr 1 0 1 (T.ints [v])] (.sl 0 1 (insL l i v).length (T.ints (insL l i v))) [.dead, .dead] := by
  refine den_slice (given := [.arr 1 0 l.length (T.ints l), .arr 1 0 1 (T.ints [v])]) fun id hid' F hF inv xs hx => ?_
  rw [hid] at hid'
  cases hid'
  obtain ⟨x0, r0, rfl, h1, h2⟩ := hx.uncons
  obtain ⟨x1, r1, rfl, h3, h4⟩ := h2.uncons
  obtain ⟨x2, r2, rfl, h5, h6⟩ := h4.uncons
  obtain rfl := h6.unnil
  obtain ⟨a, cap, rfl, hcap, _, _, hm⟩ := own_ints (k := 0) inv rfl h1
  obtain ⟨a2, cap2, rfl, hcap2, _, _, hm2⟩ := own_ints (k := 1) (l := [v]) inv rfl h5
  cases h3
  have hlen := insL_len (v := v) hi
  rw [hlen]
  obtain ⟨vb, vo, rfl, hvown, hvhas⟩ : ∃ vb vo, a2 = some ⟨vb, vo, none⟩ ∧ F.own0 vb = some (1, []) ∧ Has F.w0 vb vo (iv [v]) cap2 := by
    rcases hm2 with h | h
    · simp at hcap2; omega
    · exact h
  have hvs : ∀ j x, (iv [v])[j]? = some x → F.w0.cell? ⟨vb, vo + j, none⟩ = some x := fun j x hj => has_cell hvhas hj
  have hgc := le_grownCap F.w0 (l.length + 1) cap t3
  have hgb := grownCap_big F.w0 (l.length + 1) cap t3 (by omega)
  have hvne : F.own0 vb ≠ none := by rw [hvown]; simp
  have new : ∀ {w' : World} {o : Obj}, (∀ b, b < F.w0.heap.size → w'.heap[b]? = F.w0.heap[b]?) → F.w0.heap.size ≤ w'.heap.size → w'.os = F.w0.os → w'.tape = F.w0.tape → w'.output = F.w0.output → Kept F w' :=
    fun h1 h2 h3 h4 h5 => ⟨h2, h3, h4, h5, fun b hb _ => h1 b hb⟩
  -- the new row at the end
  have endGrow : cap < l.length + 1 → i = l.length → (∀ a0, a = some a0 → ∀ j x, (iv l)[j]? = some x → F.w0.cell? (a0.add j) = some x) → (a = none → l.length = 0) → _ := fun hc hin hcells hnil =>
    (hEndGrow a l.length cap vb vo 1 cap2 (iv l) (iv [v]) F.w0 (by omega) hcap.1 hc (by omega) (by simp) rfl hnil hcells hvs (iv_ones [v])).mono
      (R' := fun e w' => ∃ a cap, e = .returned (.slice a (l.length + 1) cap) ∧ (l.length + 1 ≤ cap ∧ cap ≤ 9223372036854775807) ∧ (cap = 0 ∨ ∃ b o, a = some ⟨b, o, none⟩ ∧ Has w' b o (iv (insL l i v)) cap ∧ (b < F.w0.heap.size → F.own0 b ≠ none)) ∧ Kept F w')
      fun e w' ⟨he, hw⟩ => by
        subst hw
        refine ⟨_, _, he, ⟨hgc, hgb⟩, .inr ⟨_, _, rfl, ?_, fun h => absurd h (by omega)⟩, ?_⟩
        · have e2 : iv (insL l i v) = iv l ++ iv [v] := by subst hin; simp [insL, iv]
          rw [e2]
          refine ⟨by rw [← e2]; exact iv_ones _, _, t3, alloc_at F.w0.drew _, ?_, by simp; exact hgc, fun j hj => ?_⟩
          · simp [zc_size]; omega
          · simp only [List.length_append, iv_len] at hj
            rw [Nat.zero_add, Array.getElem?_append, if_pos (by simp; simp at hj; omega)]
            simp
        · refine ⟨by rw [alloc_size]; simp, rfl, rfl, rfl, fun b hb _ => alloc_off F.w0.drew _ hb⟩
  rcases hm with hm | ⟨b, o, rfl, hown, hhas⟩
  · subst hm
    have hl0 : l = [] := List.eq_nil_of_length_eq_zero (by omega)
    subst hl0
    obtain rfl : i = 0 := by simpa using hi
    exact endGrow (by simp) rfl (fun a0 _ j x hj => by simp [iv] at hj) (fun _ => rfl)
  · have hbne : vb ≠ b := by intro e; rw [e, hown] at hvown; cases hvown
    have hcs : ∀ j x, (iv l)[j]? = some x → F.w0.cell? ⟨b, o + j, none⟩ = some x := fun j x hj => has_cell hhas hj
    have hob : F.own0 b ≠ none := by rw [hown]; simp
    by_cases hroom : l.length + 1 ≤ cap
    · by_cases hin : i = l.length
      · subst hin
        refine (hEndRoom b o l.length cap vb vo 1 cap2 (iv [v]) F.w0 (by omega) hroom hcap.2 rfl (fun j hj => ?_) (fun j _ => has_warm hhas _) hvs (iv_ones [v])).mono fun e w' ⟨he, hw⟩ => ?_
        · have := has_some hhas (j := l.length + j) (by omega)
          rwa [← Nat.add_assoc] at this
        · rw [setCells_map] at hw
          subst hw
          refine ⟨_, _, he, ⟨hroom, hcap.2⟩, .inr ⟨_, _, rfl, ?_, fun _ => hob⟩, kept_map rfl rfl rfl rfl hob⟩
          refine has_map hhas (map_at _ _ _) (putVs_size _ _) (fun c h1 h2 j hj => ?_) (iv_ones _) (by simp [hlen]; exact hroom)
          have := ins_cells (v := v) (Nat.le_refl l.length) hroom c h1 (fun j hj => h2 j (by simpa using hj)) j (by simpa [hlen] using hj)
          rw [List.drop_eq_nil_of_le (by simp)] at this
          exact this
      · obtain ⟨tA, kA, hsa, _⟩ := has_shape hvhas
        obtain ⟨tB, kB, hsb, hkB⟩ := has_shape hhas
        refine (hShift b o l.length cap i vb vo 1 cap2 (iv l) (iv [v]) F.w0 (by omega) (by omega) hroom hcap.2 hbne (by simp) rfl hcs (fun j hj => has_some hhas (by omega)) (fun j _ => has_warm hhas _) hvs (iv_ones l) (iv_ones [v]) tA tB kA kB hsa hsb (by omega) (has_warm hvhas _) (has_warm hvhas _)).mono fun e w' ⟨he, hw⟩ => ?_
        rw [setCells_map, setCells_map, mapBlock_mapBlock] at hw
        subst hw
        refine ⟨_, _, he, ⟨hroom, hcap.2⟩, .inr ⟨_, _, rfl, ?_, fun _ => hob⟩, kept_map rfl rfl rfl rfl hob⟩
        refine has_map hhas (map_at _ _ _) (fun c => by rw [putVs_size, putVs_size]) (fun c h1 h2 j hj => ?_) (iv_ones _) (by simp [hlen]; exact hroom)
        exact ins_cells (v := v) hi hroom c h1 (fun j hj => h2 j (by simp; omega)) j (by simpa [hlen] using hj)
    · by_cases hin : i = l.length
      · rw [hin]
        rw [hin] at endGrow
        refine endGrow (by omega) rfl (fun a0 ha j x hj => ?_) (fun h => by cases h)
        cases ha
        rw [Addr.add_lit]
        exact hcs j x hj
      · refine (hGrow b o l.length cap i vb vo 1 cap2 (iv l) (iv [v]) F.w0 (by omega) (by omega) hcap.1 (by omega) (by omega) (by simp) rfl hcs hvs (iv_ones l) (iv_ones [v])).mono fun e w' ⟨he, hw⟩ => ?_
        rw [setCells_map, setCells_map] at hw
        have hsz : w'.heap.size = F.w0.heap.size + 1 := by
          rw [hw, map_size]; simp only [World.drew]; rw [map_size, alloc_size]
        have hoff : ∀ b', b' < F.w0.heap.size → w'.heap[b']? = F.w0.heap[b']? := by
          intro b' hb'
          rw [hw, map_off _ _ (by omega)]
          simp only [World.drew]
          rw [map_off _ _ (by omega)]
          exact alloc_off F.w0 _ hb'
        refine ⟨_, _, he, ⟨hgc, hgb⟩, .inr ⟨_, _, rfl, ?_, fun h => absurd h (by omega)⟩, ⟨by omega, by rw [hw]; rfl, by rw [hw]; rfl, by rw [hw]; rfl, fun b' hb' _ => hoff b' hb'⟩⟩
        have hat : w'.heap[F.w0.heap.size]? = some (.cells (putVs (i + 1) ((iv l).drop i) (putVs i (iv [v]) (((iv l).take i).toArray ++ Builtin.zeroCells (Value.int .i64 0).cells (l.length + 1 - i) ++ Builtin.zeroCells (Value.int .i64 0).cells (grownCap F.w0 (l.length + 1) cap t3 - (l.length + 1))))) t3 (0, 0)) := by
          rw [hw, map_at]
          simp only [World.drew]
          rw [map_at]
          simp only []
          rw [alloc_at]
          rfl
        refine ⟨iv_ones _, _, t3, hat, ?_, by simp [hlen]; exact hgc, fun j hj => ?_⟩
        · rw [putVs_size, putVs_size]
          simp [zc_size]; omega
        · simp only [iv_len, hlen] at hj
          rw [iv_ins hi, Nat.zero_add]
          by_cases q1 : j < i
          · rw [if_pos q1, putVs_out _ _ _ _ (.inl (by omega)), putVs_out _ _ _ _ (.inl q1), Array.getElem?_append, if_pos (by simp [zc_size]; omega), Array.getElem?_append, if_pos (by simp; omega)]
            simp [q1]
          · rw [if_neg q1]
            by_cases q2 : j = i
            · subst q2
              rw [if_pos rfl, putVs_out _ _ _ _ (.inl (by omega))]
              have := putVs_in (iv [v]) j 0 (((iv l).take j).toArray ++ Builtin.zeroCells (Value.int .i64 0).cells (l.length + 1 - j) ++ Builtin.zeroCells (Value.int .i64 0).cells (grownCap F.w0 (l.length + 1) cap t3 - (l.length + 1))) (by simp) (by simp [zc_size]; omega)
              simp only [Nat.add_zero] at this
              rw [this]; rfl
            · rw [if_neg q2]
              have := putVs_in ((iv l).drop i) (i + 1) (j - (i + 1)) (putVs i (iv [v]) (((iv l).take i).toArray ++ Builtin.zeroCells (Value.int .i64 0).cells (l.length + 1 - i) ++ Builtin.zeroCells (Value.int .i64 0).cells (grownCap F.w0 (l.length + 1) cap t3 - (l.length + 1)))) (by simp; omega) (by rw [putVs_size]; simp [zc_size]; omega)
              rw [show i + 1 + (j - (i + 1)) = j by omega] at this
              rw [this, List.getElem?_drop]
              congr 1; omega
end Go.Eng

namespace Go.Eng.T
open Go.Lib Go.RowKit Go.Sort

theorem sort_prom {P : Program} {fid : Nat → Option FuncId} {G : Gl} {g k : Nat} (hid : fid g = some k)
    (h0 : ∀ (p : Option Addr) (cap : Nat) (w : Go.World), Calls P k #[.slice p 0 cap] w fun e w' => e = .returned (.tuple #[]) ∧ w' = w)
    (hc : ∀ (blk off cap : Nat) (zs : List Int) (w : Go.World), Holds (Value.int .i64) w blk off zs.toArray → blk < w.heap.size → zs.length < 4611686018427387904 →
      Calls P k #[.slice (some ⟨blk, off, none⟩) zs.length cap] w fun e w' => e = .returned (.tuple #[]) ∧ ∃ n os, w' = grow (putRow (Value.int .i64) (Sort.ahead w n) blk off (zs.mergeSort fun x y => decide (x ≤ y)).toArray) os) :
    SortS (Den P fid G g) := fun l hl => sort_den hid h0 hc l hl
theorem compact_prom {P : Program} {fid : Nat → Option FuncId} {G : Gl} {g k : Nat} (hid : fid g = some k)
    (h0 : ∀ (p : Option Addr) (cap : Nat) (w : Go.World), Calls P k #[.slice p 0 cap] w fun e w' => e = .returned (.slice p 0 cap) ∧ w' = w)
    (hc : ∀ (blk off cap : Nat) (zs : List Int) (w : Go.World), Holds (Value.int .i64) w blk off zs.toArray → zs.length ≤ 9223372036854775807 → zs.length ≤ cap →
      Calls P k #[.slice (some ⟨blk, off, none⟩) zs.length cap] w fun e w' => e = .returned (.slice (some ⟨blk, off, none⟩) (compact zs).length cap) ∧ ∃ q, w' = putRow (Value.int .i64) (Sort.ahead w q) blk off (compact zs ++ List.replicate (zs.length - (compact zs).length) 0).toArray) :
    CompactS (Den P fid G g) := fun l hl => compact_den hid h0 hc l hl (compact_length_le l)
end Go.Eng.T

namespace Go.Proofs
open Go.Shelf
def Try.lays189_ren : Go.Shelf.Ren := ⟨fun | 189 => 56 | 125 => 85 | 257 => 84 | 128 => 108 | 129 => 109 | 294 => 99 | 295 => 100 | 296 => 101 | 297 => 102 | 298 => 103 | 299 => 104 | 216 => 105 | 300 => 106 | 301 => 107 | 328 => 116 | 329 => 117 | 330 => 118 | 331 => 119 | 332 => 120 | 215 => 121 | 343 => 124 | n => n, fun | 28 => 22 | 3 => 3 | 46 => 107 | 0 => 0 | 51 => 130 | 53 => 132 | 4 => 4 | 183 => 122 | 182 => 121 | 131 => 127 | 5 => 5 | 9 => 9 | 218 => 138 | 222 => 142 | 228 => 145 | 229 => 118 | n => n, fun | n => n⟩
theorem Try.lays189 : Go.Proofs.Lays.n189 Try.prog Try.lays189_ren := {
  mixed := by kernel_rfl
  f125 := Try.func85.trans (congrArg some (by kernel_rfl))
  f128 := Try.func108.trans (congrArg some (by kernel_rfl))
  f129 := Try.func109.trans (congrArg some (by kernel_rfl))
  f189 := Try.func56.trans (congrArg some (by kernel_rfl))
  f215 := Try.func121.trans (congrArg some (by kernel_rfl))
  f216 := Try.func105.trans (congrArg some (by kernel_rfl))
  f257 := Try.func84.trans (congrArg some (by kernel_rfl))
  f294 := Try.func99.trans (congrArg some (by kernel_rfl))
  f295 := Try.func100.trans (congrArg some (by kernel_rfl))
  f296 := Try.func101.trans (congrArg some (by kernel_rfl))
  f297 := Try.func102.trans (congrArg some (by kernel_rfl))
  f298 := Try.func103.trans (congrArg some (by kernel_rfl))
  f299 := Try.func104.trans (congrArg some (by kernel_rfl))
  f300 := Try.func106.trans (congrArg some (by kernel_rfl))
  f301 := Try.func107.trans (congrArg some (by kernel_rfl))
  f328 := Try.func116.trans (congrArg some (by kernel_rfl))
  f329 := Try.func117.trans (congrArg some (by kernel_rfl))
  f330 := Try.func118.trans (congrArg some (by kernel_rfl))
  f331 := Try.func119.trans (congrArg some (by kernel_rfl))
  f332 := Try.func120.trans (congrArg some (by kernel_rfl))
  f343 := Try.func124.trans (congrArg some (by kernel_rfl))
  t0 := Try.underlying0
  a0 := Try.isAgg0
  z0 := Try.sizeOf0
  v0 := Try.zeroValue0
  t3 := Try.underlying3
  a3 := Try.isAgg3
  z3 := Try.sizeOf3
  v3 := Try.zeroValue3
  t4 := Try.underlying4
  a4 := Try.isAgg4
  z4 := Try.sizeOf4
  v4 := Try.zeroValue4
  t5 := Try.underlying5
  a5 := Try.isAgg5
  z5 := Try.sizeOf5
  v5 := Try.zeroValue5
  t9 := Try.underlying9
  a9 := Try.isAgg9
  z9 := Try.sizeOf9
  v9 := Try.zeroValue9
  t28 := Try.underlying22
  a28 := Try.isAgg22
  z28 := Try.sizeOf22
  v28 := Try.zeroValue22
  t46 := Try.underlying107
  a46 := Try.isAgg107
  z46 := Try.sizeOf107
  v46 := Try.zeroValue107
  t51 := Try.underlying130
  a51 := Try.isAgg130
  z51 := Try.sizeOf130
  v51 := Try.zeroValue130
  t53 := Try.underlying132
  a53 := Try.isAgg132
  z53 := Try.sizeOf132
  v53 := Try.zeroValue132
  t131 := Try.underlying127
  a131 := Try.isAgg127
  z131 := Try.sizeOf127
  v131 := Try.zeroValue127
  t182 := Try.underlying121
  a182 := Try.isAgg121
  z182 := Try.sizeOf121
  v182 := Try.zeroValue121
  t183 := Try.underlying122
  a183 := Try.isAgg122
  z183 := Try.sizeOf122
  v183 := Try.zeroValue122
  t218 := Try.underlying138
  a218 := Try.isAgg138
  z218 := Try.sizeOf138
  v218 := Try.zeroValue138
  t222 := Try.underlying142
  a222 := Try.isAgg142
  z222 := Try.sizeOf142
  v222 := Try.zeroValue142
  t228 := Try.underlying145
  a228 := Try.isAgg145
  z228 := Try.sizeOf145
  v228 := Try.zeroValue145
  t229 := Try.underlying118
  a229 := Try.isAgg118
  z229 := Try.sizeOf118
  v229 := Try.zeroValue118 }
open Go.Sort Go.RowKit in
theorem Try.slices_Sort_int (blk off cap : Nat) (zs : List Int) (w : World) (hH : Holds (Value.int .i64) w blk off zs.toArray) (hblk : blk < w.heap.size) (hsz : zs.length < 4611686018427387904) :
    Calls Try.prog 56 #[.slice (some ⟨blk, off, none⟩) zs.length cap] w fun e w' =>
      e = .returned (.tuple #[]) ∧ ∃ n os, w' = grow (putRow (Value.int .i64) (Sort.ahead w n) blk off (zs.mergeSort fun x y => decide (x ≤ y)).toArray) os := Any.slices_Sort_int Try.lays189 blk off cap zs w hH hblk hsz
def Try.laysNm220_ren : Go.Shelf.Ren := ⟨fun | 20 => 57 | n => n, fun | 22 => 22 | 3 => 3 | 4 => 4 | 0 => 0 | n => n, fun | n => n⟩
theorem Try.laysNm220 : Go.Proofs.Lays2.n20 Try.prog Try.laysNm220_ren := {
  mixed := by kernel_rfl
  f20 := Try.func57.trans (congrArg some (by kernel_rfl))
  t0 := Try.underlying0
  a0 := Try.isAgg0
  z0 := Try.sizeOf0
  v0 := Try.zeroValue0
  t3 := Try.underlying3
  a3 := Try.isAgg3
  z3 := Try.sizeOf3
  v3 := Try.zeroValue3
  t4 := Try.underlying4
  a4 := Try.isAgg4
  z4 := Try.sizeOf4
  v4 := Try.zeroValue4
  t22 := Try.underlying22
  a22 := Try.isAgg22
  z22 := Try.sizeOf22
  v22 := Try.zeroValue22
  i3 := by kernel_rfl }
open Go.RowKit Go.Lib Go.Sort in
theorem Try.slices_Compact_int (blk off cap : Nat) (zs : List Int) (w : World) (hH : Holds (Value.int .i64) w blk off zs.toArray) (hsz : zs.length ≤ 9223372036854775807) (hcap : zs.length ≤ cap) :
    Calls Try.prog 57 #[.slice (some ⟨blk, off, none⟩) zs.length cap] w fun e w' => e = .returned (.slice (some ⟨blk, off, none⟩) (Lib.compact zs).length cap) ∧ ∃ q, w' = putRow (Value.int .i64) (Sort.ahead w q) blk off (Lib.compact zs ++ List.replicate (zs.length - (Lib.compact zs).length) 0).toArray := Any.slices_Compact_int Try.laysNm220 blk off cap zs w hH hsz hcap
open Go.RowKit Go.Lib Go.Sort in
theorem Try.slices_Compact_int_empty (a : Option Addr) (cap : Nat) (w : World) :
    Calls Try.prog 57 #[.slice a 0 cap] w fun e w' => e = .returned (.slice a 0 cap) ∧ w' = w := Any.slices_Compact_int_empty Try.laysNm220 a cap w
open Go.RowKit Go.Sort in
theorem Try.slices_Sort_int_none (p : Option Addr) (cap : Nat) (w : World) :
    Calls Try.prog 56 #[.slice p 0 cap] w fun e w' => e = .returned (.tuple #[]) ∧ w' = w := Any.slices_Sort_int_none Try.lays189 p cap w
end Go.Proofs

