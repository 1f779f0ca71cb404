/- Own work: part 15 of the proof of FnExactIsBounded. -/
import Derived.Test.YtncobgjmochecabEngN
namespace Go.Eng

theorem putAt_eq {α : Type} (vs ys : List α) (off : Nat) (h : off + ys.length ≤ vs.length) : putAt vs off ys = vs.take off ++ ys ++ vs.drop (off + ys.length) := by
  have h1 : vs = vs.take off ++ vs.drop off := (List.take_append_drop off vs).symm
  have h2 : (vs.take off).length = off := by simp; omega
  have h3 := putAt_app (vs.take off) ys (vs.drop off) (by simp; omega)
  rw [← h1, h2] at h3
  rw [h3]
  simp

section
variable {P : Program} {F : Fr} {β : Nat → Base} {own : Nat → Option (Nat × List Nat)} {H : Hp} {w w' : World}

theorem store_has {b o n : Nat} {vs ys : List Value} (h : Has w b o vs n) {off : Nat} (h1 : off ≤ vs.length) (h2 : off + ys.length ≤ n) (hy : Ones ys) :
    ∃ w', (storeCells ⟨b, o + off, none⟩ ys).run P w = .ok () w' ∧ w'.heap.size = w.heap.size ∧ w'.os = w.os ∧ w'.tape = w.tape ∧ w'.output = w.output ∧
      (∀ b', b' ≠ b → w'.heap[b']? = w.heap[b']?) ∧ Has w' b o (vs.take off ++ ys ++ vs.drop (off + ys.length)) n ∧
      ∀ i, ¬ (off ≤ i ∧ i < off + ys.length) → w'.cell? ⟨b, o + i, none⟩ = w.cell? ⟨b, o + i, none⟩ := by
  obtain ⟨g1, c, et, g2, g3, g4, g5⟩ := h
  have hr := run_storeCells_at (P := P) b (o + off) et ys 0 c w g2 (by omega) (fun v hv => hy v hv)
  refine ⟨_, hr, by simp, rfl, rfl, rfl, fun b' hb' => setRow_other w b b' _ hb', ?_, ?_⟩
  rotate_left
  · intro i hi
    have hA : (c.toList.take (o + off)).length = o + off := by simp; omega
    simp only [World.cell?, setRow_heap w b c _ et (0, 0) g2, g2]
    simp only [Option.isSome_none, Bool.false_eq_true, if_false, Nat.add_zero, List.getElem?_toArray]
    rcases Nat.lt_or_ge i off with hi1 | hi1
    · rw [List.append_assoc, List.getElem?_append_left (by omega), List.getElem?_take, if_pos (by omega), Array.getElem?_toList]
    · rw [List.getElem?_append_right (by simp; omega)]
      simp only [List.length_append, hA, List.getElem?_drop]
      rw [show o + off + ys.length + (o + i - (o + off + ys.length)) = o + i by omega, Array.getElem?_toList]
  refine ⟨?_, _, et, setRow_heap w b c _ et (0, 0) g2, ?_, ?_, ?_⟩
  · intro x hx
    simp only [List.mem_append] at hx
    rcases hx with (hx | hx) | hx
    · exact g1 x (List.mem_of_mem_take hx)
    · exact hy x hx
    · exact g1 x (List.mem_of_mem_drop hx)
  · simp; omega
  · simp; omega
  · intro i hi
    simp only [Nat.add_zero, List.getElem?_toArray]
    have hA : (c.toList.take (o + off)).length = o + off := by simp; omega
    have hB : (vs.take off).length = off := by simp; omega
    rcases Nat.lt_or_ge i off with hi1 | hi1
    · rw [List.append_assoc, List.getElem?_append_left (by omega), List.append_assoc, List.getElem?_append_left (by omega), List.getElem?_take, if_pos (by omega), List.getElem?_take, if_pos hi1,
        Array.getElem?_toList]
      exact g5 i (by omega)
    · rcases Nat.lt_or_ge i (off + ys.length) with hi2 | hi2
      · rw [List.append_assoc, List.getElem?_append_right (by omega), hA, List.getElem?_append_left (by omega), List.append_assoc, List.getElem?_append_right (by omega), hB,
          List.getElem?_append_left (by omega), show o + i - (o + off) = i - off by omega]
      · rw [List.getElem?_append_right (by simp; omega), List.getElem?_append_right (by simp; omega)]
        simp only [List.length_append, hA, hB, List.getElem?_drop]
        rw [show o + off + ys.length + (o + i - (o + off + ys.length)) = o + i by omega, show off + ys.length + (i - (off + ys.length)) = i by omega, Array.getElem?_toList]
        have : i < vs.length := by
          simp only [List.length_append, hB, List.length_drop] at hi
          omega
        exact g5 i this

theorem ow_shift {own' : Nat → Option (Nat × List Nat)} {S' : Nat → Nat → Prop} {t lim k1 k : Nat} {p p' : List Nat} {v : V} {x : Value} (h : Ow F.fid w own (F.S w own) t k1 p v x) (hlim : t ≤ lim)
    (hlab : ∀ b q, own b = some (k1, p ++ q) → own' b = some (k, p' ++ q) ∧ w'.heap[b]? = w.heap[b]?)
    (hro : ∀ fl b, 1 ≤ fl → F.S w own fl b → S' fl b ∧ w'.heap[b]? = w.heap[b]?) : Ow F.fid w' own' S' lim k p' v x := by
  have hR : ∀ {v : V} {x : Value} {fl : Nat}, 1 ≤ fl → Rd F.fid w (F.S w own fl) v x → Rd F.fid w' (S' fl) v x :=
    fun h1 h => h.move (fun b hb => (hro _ b h1 hb).1) (fun b hb => (hro _ b h1 hb).2)
  induction h generalizing p' with
  | sc h1 => exact .sc h1
  | own hl hw hv hm hc ih =>
    refine .own hl hw hv ?_ (fun i v x hv hx => ih i v x hv hx fun b q hb => ?_)
    · rcases hm with hm | ⟨b, o, ha, hb, hr⟩
      · exact .inl hm
      · have := hlab b [] (by simpa using hb)
        exact .inr ⟨b, o, ha, by simpa using this.1, has_congr hr this.2⟩
    · have := hlab b ([i] ++ q) (by simpa using hb); simpa using this
  | ro h1 h2 h => exact .ro h1 (Nat.le_trans h2 hlim) (hR h1 h)
  | ptr hv hb hm hc ih =>
    have := hlab _ [] (by simpa using hb)
    refine .ptr hv (by simpa using this.1) (has_congr hm this.2) (fun i v x hv hx => ih i v x hv hx fun b q hb => ?_)
    have := hlab b ([i] ++ q) (by simpa using hb); simpa using this
  | rptr h1 h2 h => exact .rptr h1 (Nat.le_trans h2 hlim) (hR h1 h)
  | fn h2 h => exact .fn (Nat.le_trans h2 hlim) (hR (Nat.le_refl 1) h)
  | agg h1 hv hc ih =>
    refine .agg h1 hv (fun i v x hv hx => ih i v x hv hx fun b q hb => ?_)
    have := hlab b ([i] ++ q) (by simpa using hb); simpa using this
  | tup hv hc ih =>
    refine .tup hv (fun i v x hv hx => ih i v x hv hx fun b q hb => ?_)
    have := hlab b ([i] ++ q) (by simpa using hb); simpa using this
  | undef => exact .undef

def shiftν (ks' : List Nat) (n0 : Nat) : Nat → List Nat → List Nat := fun k1 p =>
  if k1 ∈ ks' then (match p with | i :: r => (n0 + i) :: r | [] => []) else p

theorem shiftν_ne (ks' : List Nat) (n0 : Nat) (k1 : Nat) (p : List Nat) (hp : p ≠ []) : shiftν ks' n0 k1 p ≠ [] := by
  unfold shiftν
  split
  · cases p <;> simp_all
  · exact hp

theorem op_append (inv : Inv F β own H w) {Hm : Hp} (hm : ∀ k, Hm k = H k ∨ Hm k = .dead) {t t2 ty : TypeId} {k e b : Nat} {mv : Bool} (ht : elB P t e b none = true) (ht2 : slB P t2 e = true)
    {va vb : V} {a y : Value} (ha : VR F β own H w va a) (hb : VR F β own H w vb y) {v : V} {u : Upd} (h : appendV Hm k e b mv va vb = some (v, u)) :
    Did F β own H w ((do pure (.value (← Builtin.append_ #[t, t2] ty #[a, y])) : Sem Next).run P w) v u := by
  obtain ⟨et, i, z, hu, hi, hz, he, he0, hbb, hb0, hzs, hz1, _⟩ := elB_spec ht
  obtain ⟨et2, hu2, _, _⟩ := slB_spec ht2
  unfold appendV at h
  split at h
  · rename_i hf
    have hk := Hm_free hm hf
    cases hB : appBase Hm e va with
    | none => simp [hB] at h
    | some p1 =>
      obtain ⟨t1, len, cs, ks⟩ := p1
      simp only [hB] at h
      cases hS : appSrc (killL ks Hm) e mv vb with
      | none => simp [hS] at h
      | some p2 =>
        obtain ⟨t2', n, c, ks'⟩ := p2
        simp only [hS] at h
        split at h
        · rename_i hbound
          cases h
          obtain ⟨ad, cap, vs, rfl, b1, b2, b3, b4, b5, b6⟩ := appBase_spec inv hm ha hB
          obtain ⟨ad2, cap2, vs2, rfl, s1, s2, s4, s5, s6, s7⟩ := appSrc_spec inv (killL_m hm ks) hb hS
          have hrun := run_append' (P := P) (w := w) (ty := ty) hu ⟨et2, hu2⟩ hi hz (ad := ad) (ad2 := ad2) (sLen := len) (sCap := cap) (n := n) (c2 := cap2) (olds := vs) (news := vs2) b4 (by rw [b2, b1, he]) s4
            (by rw [s2, s1, he]) (by omega) (by rw [hbb]; exact hbound)
          have hkk : ∀ k1, k1 ∈ ks → k1 ∉ ks' := by
            intro k1 h1 h2
            obtain ⟨r, hr⟩ := Option.isSome_iff_exists.1 (s6 k1 h2)
            exact (killL_alive hr).1 h1
          have hd : ∀ j, j ∈ ks ++ ks' → (arrOf (H j)).isSome = true := by
            intro j hj
            rcases List.mem_append.1 hj with hj | hj
            · rcases b6 with ⟨h1, _⟩ | ⟨k0, h1, h2, _⟩
              · subst h1; simp at hj
              · subst h1; simp at hj; subst hj; rw [h2]; rfl
            · obtain ⟨r, hr⟩ := Option.isSome_iff_exists.1 (s6 j hj)
              rw [arrOf_m hm (killL_alive hr).2]; rfl
          have hdk : k ∉ ks ++ ks' := fun hh => by have := hd k hh; rw [hk] at this; simp [arrOf] at this
          -- the cells at their new places
          have cells : ∀ (own' : Nat → Option (Nat × List Nat)) (w' : World), (∀ bl k1 p, own bl = some (k1, p) → k1 ∈ ks ++ ks' → own' bl = some (k, shiftν ks' cs.length k1 p)) →
              (∀ bl k1 p, own bl = some (k1, p) → k1 ∈ ks ++ ks' → p ≠ [] → w'.heap[bl]? = w.heap[bl]?) → (∀ bl k1, own bl = some (k1, []) → k1 ∈ ks' → w'.heap[bl]? = w.heap[bl]?) →
              (∀ fl bl, 1 ≤ fl → F.S w own fl bl → F.S w' own' fl bl ∧ w'.heap[bl]? = w.heap[bl]?) →
              ∀ (j : Nat) (v : V) (x : Value), (cs ++ c)[j]? = some v → (vs ++ vs2)[j]? = some x → Ow F.fid w' own' (F.S w' own') (max t1 t2') k [j] v x := by
            intro own' w' hl hw1 hw2 hro j v x hv hx
            rcases Nat.lt_or_ge j cs.length with hj | hj
            · rw [List.getElem?_append_left (by omega)] at hv hx
              rcases b6 with ⟨_, h2, _⟩ | ⟨k0, h1, h2, _, _, _, h6⟩
              · subst h2; simp at hj
              · subst h1
                refine ow_shift (h6 j v x hv hx) (Nat.le_max_left _ _) (fun bl q hbl => ?_) hro
                have := hl bl k0 ([j] ++ q) hbl (by simp)
                refine ⟨?_, hw1 bl k0 ([j] ++ q) hbl (by simp) (by simp)⟩
                rw [this]
                unfold shiftν
                rw [if_neg (hkk k0 (by simp))]
            · rw [List.getElem?_append_right (by omega)] at hv hx
              rw [b2] at hx
              rcases s7 with ⟨_, h2⟩ | ⟨k1, h1, h2⟩
              · exact h2 (Nat.le_max_right _ _) hro (j - cs.length) v x hv hx
              · subst h1
                refine ow_shift (h2 _ v x hv hx) (Nat.le_max_right _ _) (fun bl q hbl => ?_) hro
                have := hl bl k1 ([j - cs.length] ++ q) hbl (by simp)
                refine ⟨?_, hw1 bl k1 ([j - cs.length] ++ q) hbl (by simp) (by simp)⟩
                rw [this]
                unfold shiftν
                rw [if_pos (by simp)]
                simp
                omega
          have hcl : (cs ++ c).length = (len + n) * e := by simp [b1, s1, Nat.add_mul]
          have hvl : (vs ++ vs2).length = (cs ++ c).length := by simp [b2, s2]
          have hones : Ones (vs ++ vs2) := by
            intro x hx
            rcases List.mem_append.1 hx with hx | hx
            · exact b5 x hx
            · exact s5 x hx
          by_cases hg : len + n ≤ cap
          · -- in place
            rw [if_pos hg] at hrun
            have base : ∀ (w' : World), w'.heap.size = w.heap.size → w'.os = w.os → w'.tape = w.tape → w'.output = w.output →
                (∀ bl, bl < w.heap.size → (∀ k1, k1 ∈ ks ++ ks' → own bl ≠ some (k1, [])) → w'.heap[bl]? = w.heap[bl]?) →
                (∀ bl k1, own bl = some (k1, []) → k1 ∈ ks' → w'.heap[bl]? = w.heap[bl]?) →
                (cap * e = 0 ∨ ∃ bl o, ad = some ⟨bl, o, none⟩ ∧ (∃ k0, k0 ∈ ks ∧ own bl = some (k0, [])) ∧ Has w' bl o (vs ++ vs2) (cap * e)) →
                (Builtin.append_ #[t, t2] ty #[.slice ad len cap, .slice ad2 n cap2]).run P w = .ok (.slice ad (len + n) cap) w' →
                Did F β own H w ((do pure (.value (← Builtin.append_ #[t, t2] ty #[.slice ad len cap, .slice ad2 n cap2])) : Sem Next).run P w) (.arr k) (deadU (ks ++ ks') ++ [(k, .arr e (max t1 t2') (len + n) (cs ++ c))]) := by
              intro w' q1 q2 q3 q4 q5 q6 q7 q8
              have st := Step.gen (w' := w') inv hk (new := none) (by simp) (by omega) q2 q3 q4 hd q5 (shiftν_ne ks' cs.length) (.arr e (max t1 t2') (len + n) (cs ++ c)) ⟨ad, cap⟩
              have hlab : ∀ bl k1 p, own bl = some (k1, p) → k1 ∈ ks ++ ks' → relab own none (ks ++ ks') k (shiftν ks' cs.length) bl = some (k, shiftν ks' cs.length k1 p) := by
                intro bl k1 p h1 h2
                unfold relab
                rw [if_neg (by simp), h1]
                simp only
                rw [if_pos h2]
              have hcells := cells (relab own none (ks ++ ks') k (shiftν ks' cs.length)) w' hlab
                (fun bl k1 p h1 h2 h3 => q5 bl (inv.ownb bl _ h1).1 (fun k2 _ h5 => by rw [h1] at h5; cases h5; exact h3 rfl)) q6 (fun fl bl h1 h2 => st.sS inv fl bl h1 h2)
              have hor := or_dead_new (F := F) (w' := w') (β' := fun j => if j = k then ⟨ad, cap⟩ else β j) (own' := relab own none (ks ++ ks') k (shiftν ks' cs.length)) hk hd
                (o := .arr e (max t1 t2') (len + n) (cs ++ c)) (by
                refine ⟨vs ++ vs2, hvl, hcl, by simpa using And.intro hg b3.2, ?_, hcells⟩
                simp only [if_true]
                rcases q7 with q7 | ⟨bl, o, r1, ⟨k0, r2, r3⟩, r4⟩
                · exact .inl q7
                · refine .inr ⟨bl, o, r1, ?_, r4⟩
                  rw [hlab bl k0 [] r3 (by simp [r2])]
                  unfold shiftν
                  rw [if_neg (hkk k0 r2)])
              refine ⟨.slice ad (len + n) cap, w', _, _, .inl (by simp only [Sem.run_bind, q8, Result.andThen_ok, Sem.run_pure]), fun _ _ h => st.vr inv h, st.inv inv hor (given_new inv hk hd _ _), ?_⟩
              have := VR.arr (F := F) (β := fun j => if j = k then ⟨ad, cap⟩ else β j) (own := relab own none (ks ++ ks') k (shiftν ks' cs.length))
                (H := updH H (deadU (ks ++ ks') ++ [(k, .arr e (max t1 t2') (len + n) (cs ++ c))])) (w := w') (k := k) (e := e) (t := max t1 t2') (len := len + n) (cs := cs ++ c) (by rw [updH_dead]; simp [arrOf])
              simpa using this
            -- is there a block?
            have hcase : (cap * e = 0) ∨ ∃ bl o k0, ad = some ⟨bl, o, none⟩ ∧ ks = [k0] ∧ own bl = some (k0, []) ∧ Has w bl o vs (cap * e) := by
              rcases b6 with ⟨_, _, h3, _⟩ | ⟨k0, h1, _, _, _, h5, _⟩
              · left; simp [h3]
              · rcases h5 with h5 | ⟨bl, o, g1, g2, g3⟩
                · exact .inl h5
                · exact .inr ⟨bl, o, k0, g1, h1, g2, g3⟩
            rcases hcase with hc0 | ⟨bl, o, k0, rfl, hks, hown, hhas⟩
            · have hn0 : n = 0 := by
                have h1 : (len + n) * e ≤ cap * e := Nat.mul_le_mul_right _ hg
                have h2 : (len + n) * e = 0 := by omega
                rcases Nat.mul_eq_zero.1 h2 with h3 | h3 <;> omega
              have hvs2 : vs2 = [] := List.eq_nil_of_length_eq_zero (by rw [s2, s1, hn0]; simp)
              refine base w rfl rfl rfl rfl (fun _ _ _ => rfl) (fun _ _ _ _ => rfl) (.inl hc0) ?_
              rw [hrun]
              subst hvs2
              cases ad with
              | none => rfl
              | some ad => simp [storeCells]
            · obtain ⟨w', r1, r2, r3, r4, r5, r6, r7, _⟩ := store_has (P := P) hhas (off := vs.length) (ys := vs2) (Nat.le_refl _) (by
                have h1 : (len + n) * e ≤ cap * e := Nat.mul_le_mul_right _ hg
                rw [Nat.add_mul] at h1
                omega) s5
              refine base w' r2 r3 r4 r5 (fun bl' _ hn => r6 bl' (fun hh => hn k0 (by simp [hks]) (hh ▸ hown))) (fun bl' k1 h1 h2 => r6 bl' (fun hh => ?_)) (.inr ⟨bl, o, rfl, ⟨k0, by simp [hks], hown⟩, ?_⟩) ?_
              · subst hh
                rw [hown] at h1
                cases h1
                exact hkk k0 (by simp [hks]) h2
              · rw [List.drop_eq_nil_of_le (by omega)] at r7; simpa using r7
              · rw [hrun]
                simp only [add_off]
                rw [show len * i.size = vs.length by rw [b2, b1, he], r1]
                rfl
          · -- a new row
            rw [if_neg hg] at hrun
            have hcap := And.intro (le_grownCap w (len + n) cap et) (grownCap_big w (len + n) cap et (by
              have : (len + n) * 1 ≤ (len + n) * b := Nat.mul_le_mul_left _ (by omega)
              omega))
            generalize grownCap w (len + n) cap et = cap' at hrun hcap
            have hzc : (Builtin.zeroCells z.cells (cap' - (len + n))).size = (cap' - (len + n)) * e := by simp [Builtin.zeroCells, hzs]
            have hobj : (vs.toArray ++ vs2.toArray ++ Builtin.zeroCells z.cells (cap' - (len + n))).size = cap' * e := by
              rw [Array.size_append, Array.size_append, hzc]
              have h1 : vs.toArray.size + vs2.toArray.size = (len + n) * e := by
                have := hvl
                rw [hcl, List.length_append] at this
                simpa using this
              rw [h1, ← Nat.add_mul]
              congr 1
              omega
            have hnew : ∀ (w2 : World), w2 = w.drew.alloc (.cells (vs.toArray ++ vs2.toArray ++ Builtin.zeroCells z.cells (cap' - (len + n))) et) →
                Did F β own H w ((do pure (.value (← Builtin.append_ #[t, t2] ty #[.slice ad len cap, .slice ad2 n cap2])) : Sem Next).run P w) (.arr k) (deadU (ks ++ ks') ++ [(k, .arr e (max t1 t2') (len + n) (cs ++ c))]) := by
              intro w2 hw2
              have hh2 : w2.heap = w.heap.push (.cells (vs.toArray ++ vs2.toArray ++ Builtin.zeroCells z.cells (cap' - (len + n))) et) := by rw [hw2]; rfl
              have st := Step.new (w' := w2) inv hk hh2 (by rw [hw2]; rfl) (by rw [hw2]; rfl) (by rw [hw2]; rfl) hd (shiftν_ne ks' cs.length) (.arr e (max t1 t2') (len + n) (cs ++ c)) ⟨some ⟨w.heap.size, 0, none⟩, cap'⟩
              have hold : ∀ bl, bl < w.heap.size → w2.heap[bl]? = w.heap[bl]? := fun bl hb => by rw [hh2, Array.getElem?_push, if_neg (by omega)]
              refine did_arr (F := F) inv (e := e) (t := max t1 t2') (len := len + n) hk hd (shiftν_ne ks' cs.length) (vs := vs ++ vs2) (cap := cap') (obj := vs.toArray ++ vs2.toArray ++ Builtin.zeroCells z.cells (cap' - (len + n))) (et := et)
                (w' := w2) hh2 (by rw [hw2]; rfl) (by rw [hw2]; rfl) (by rw [hw2]; rfl) ?_ hones hobj hcl hvl hcap ?_ ?_
              · simp only [Array.toList_append]
                rw [List.take_left']
                rfl
              · refine cells (relab own (some w.heap.size) (ks ++ ks') k (shiftν ks' cs.length)) w2 ?_ (fun bl k1 p h1 _ _ => hold bl (inv.ownb bl _ h1).1) (fun bl k1 h1 _ => hold bl (inv.ownb bl _ h1).1)
                  (fun fl bl h1 h2 => st.sS inv fl bl h1 h2)
                intro bl k1 p h1 h2
                unfold relab
                rw [if_neg (by have := (inv.ownb bl _ h1).1; simp; omega), h1]
                simp only
                rw [if_pos h2]
              · simp only [Sem.run_bind, hrun, Result.andThen_ok, Sem.run_pure, ← hw2]
            exact hnew _ rfl
        · cases h
  · cases h

end
end Go.Eng

