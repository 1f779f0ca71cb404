/- Own work: part 17 of the proof of FnWorlds. -/
import Derived.Test.YtncobgjmochecabGreatEngP
set_option linter.unusedSimpArgs false
set_option linter.unusedVariables false
namespace Go.Eng

def takL (own : Nat → Option (Nat × List Nat)) (k off s : Nat) : Nat → Option (Nat × List Nat) := fun b =>
  match own b with
  | some (k1, i :: q) => if k1 = k ∧ i = off then some (s, q) else some (k1, i :: q)
  | r => r

section
variable {P : Program} {F : Fr} {β : Nat → Base} {own : Nat → Option (Nat × List Nat)} {H : Hp} {w w' : World}

theorem takL_hit {k off s b : Nat} {q : List Nat} (h : own b = some (k, off :: q)) : takL own k off s b = some (s, q) := by
  unfold takL; rw [h]; simp

theorem takL_miss {k off s b k1 : Nat} {p : List Nat} (h : own b = some (k1, p)) (hn : ¬ (k1 = k ∧ p.head? = some off)) : takL own k off s b = some (k1, p) := by
  unfold takL; rw [h]
  cases p with
  | nil => rfl
  | cons i q => simp at hn ⊢; intro h1 h2; exact absurd h2 (hn h1)

theorem takL_some {k off s b : Nat} {p : Nat × List Nat} (h : takL own k off s b = some p) : own b ≠ none := by
  unfold takL at h
  intro hn
  rw [hn] at h
  cases h

theorem take_core (inv : Inv F β own H w) (hbor : F.bor = false) {k s off e' t len' e len : Nat} {cs c : List V} (hs : s ∈ F.takes) (hf : H s = .free) (hk : arrOf (H k) = some (e', t, len', cs))
    (hc : cs[off]? = some (.sl 0 e len c)) {O' : O}
    (hO : (H k = .arr e' t len' cs ∧ O' = .arr e' t len' (cs.set off .undef)) ∨ ∃ k2 o2, H k = .tarr k2 o2 e' t len' cs ∧ O' = .tarr k2 o2 e' t len' (cs.set off .undef))
    {b o : Nat} (hb : (β k).a = some ⟨b, o, none⟩) :
    ∃ x β' own', w.cell? ⟨b, o + off, none⟩ = some x ∧ (∀ z y, VR F β own H w z y → VR F β' own' (updH H [(k, O'), (s, .tarr k off e t len c)]) w z y) ∧
      Inv F β' own' (updH H [(k, O'), (s, .tarr k off e t len c)]) w ∧ VR F β' own' (updH H [(k, O'), (s, .tarr k off e t len c)]) w (.arr s) x := by
  obtain ⟨vs, g1, g2, g3, g4, g5⟩ := arr_or inv hk
  have hsk : s ≠ k := fun h => by rw [← h, hf] at hk; simp [arrOf] at hk
  have hoff : off < cs.length := (List.getElem?_eq_some_iff.1 hc).1
  obtain ⟨x, hx⟩ : ∃ x, vs[off]? = some x := ⟨vs[off]'(by omega), by simp⟩
  have how := g5 off _ x hc hx
  have hO' : arrOf O' = some (e', t, len', cs.set off .undef) := by
    rcases hO with ⟨_, h⟩ | ⟨_, _, _, h⟩ <;> rw [h] <;> rfl
  rcases g4 with g4 | ⟨b', o', h1, h2, h3⟩
  · have : len' * e' ≤ (β k).cap * e' := Nat.mul_le_mul_right _ g3.1
    omega
  rw [hb] at h1
  cases h1
  have hcell : w.cell? ⟨b, o + off, none⟩ = some x := by rw [(has_reads h3).2 off (by omega)]; exact hx
  cases how with
  | ro h1 _ _ => exact absurd h1 (by omega)
  | @own _ _ _ _ a cap us hl hw hv hm hcc =>
  have hH : ∀ j, updH H [(k, O'), (s, .tarr k off e t len c)] j = if j = s then .tarr k off e t len c else if j = k then O' else H j := fun j => rfl
  -- names
  have hlab : ∀ b k1 p, own b = some (k1, p) → ¬ (k1 = k ∧ p.head? = some off) → takL own k off s b = some (k1, p) := fun b k1 p => takL_miss
  have hnos : ∀ k2 off e t len cs, H k2 ≠ .tarr s off e t len cs := by
    intro k2 off e t len cs hh
    have := inv.objs k2
    rw [hh] at this
    exact this.2.2.1.2 hf
  have st : Step F β own H w (fun j => if j = s then ⟨a, cap⟩ else β j) (takL own k off s) (updH H [(k, O'), (s, .tarr k off e t len c)]) w (fun j => j = k ∨ j = s) := by
    refine ⟨Nat.le_refl _, rfl, rfl, rfl, fun _ _ _ => rfl, ?_, ?_, ?_, ?_, ?_, ?_, ?_, ?_, ?_⟩
    · intro hh; rw [hbor] at hh; cases hh
    · intro b2 k1 p hp hK
      exact hlab b2 k1 p hp (fun hh => hK (.inl hh.1))
    · intro b2 p hp
      have hne := takL_some hp
      cases ho : own b2 with
      | none => exact absurd ho hne
      | some q => exact ⟨(inv.ownb b2 q ho).1, fun _ => by simp⟩
    · intro j hj
      have h1 : j ≠ k := fun h => hj (.inl h)
      have h2 : j ≠ s := fun h => hj (.inr h)
      exact ⟨by simp [h2], by rw [hH, if_neg h2, if_neg h1]⟩
    · intro j e2 t2 l2 c2 hj h
      rcases hj with hj | hj
      · subst hj
        rw [hk] at h; cases h
        exact .inr ⟨by simp [hsk.symm], _, _, by rw [hH, if_neg hsk.symm, if_pos rfl]; exact hO'⟩
      · subst hj; rw [hf] at h; simp [arrOf] at h
    · intro j c2 hj h
      rcases hj with hj | hj
      · subst hj; rw [h] at hk; simp [arrOf] at hk
      · subst hj; rw [hf] at h; cases h
    · intro j hj h
      rcases hj with hj | hj
      · subst hj; rw [h] at hk; simp [arrOf] at hk
      · subst hj; rw [hf] at h; cases h
    · intro j hj h
      rcases hj with hj | hj
      · subst hj; rw [hH, if_neg hsk.symm, if_pos rfl]
        rcases hO with ⟨_, h⟩ | ⟨_, _, _, h⟩ <;> rw [h] <;> simp
      · subst hj; exact absurd hf h
    · intro s2 j o2 e2 t2 l2 c2 hs2 hh hj ha
      rcases hj with hj | hj
      · subst hj
        exact ⟨arr_isArr.2 ⟨_, _, _, _, hk⟩, fun b2 o3 h3 h4 => ⟨hlab b2 j [] h4 (by simp), rfl⟩⟩
      · subst hj; exact absurd hh (hnos _ _ _ _ _ _)
  have hsS : ∀ fl b2, 1 ≤ fl → F.S w own fl b2 → F.S w (takL own k off s) fl b2 ∧ w.heap[b2]? = w.heap[b2]? := fun fl b2 h1 h => st.sS inv fl b2 h1 h
  have hARk : AR F (takL own k off s) w k (β k) e' t len' (cs.set off .undef) := by
    refine ⟨vs, by simp [g1], by simp [g2], g3, .inr ⟨b, o, hb, hlab b k [] h2 (by simp), h3⟩, ?_⟩
    intro i v y hv hy
    rw [List.getElem?_set] at hv
    split at hv
    · first
      | (cases hv; exact .undef)
      | (split at hv
         · cases hv; exact .undef
         · cases hv)
    · rename_i hne
      refine ow_shift (g5 i v y hv hy) (Nat.le_refl t) (fun b2 q hb2 => ⟨hlab b2 k _ hb2 ?_, rfl⟩) (fun fl b2 h1 h2 => hsS fl b2 h1 h2)
      simp; exact fun h => hne h.symm
  have hARs : AR F (takL own k off s) w s ⟨a, cap⟩ e t len c := by
    refine ⟨us, hv, hw, hl, ?_, ?_⟩
    · rcases hm with hm | ⟨b2, o2, q1, q2, q3⟩
      · exact .inl hm
      · exact .inr ⟨b2, o2, q1, takL_hit q2, q3⟩
    · intro i v y hv' hy
      refine ow_shift (hcc i v y hv' hy) (Nat.le_refl t) (fun b2 q hb2 => ⟨?_, rfl⟩) (fun fl b2 h1 h2 => hsS fl b2 h1 h2)
      exact takL_hit (by simpa using hb2)
  refine ⟨_, fun j => if j = s then ⟨a, cap⟩ else β j, takL own k off s, hcell, fun z y h => st.vr inv h, st.inv inv ?_ ?_, ?_⟩
  · intro j hj
    rcases hj with hj | hj
    · subst hj
      rw [hH, if_neg hsk.symm, if_pos rfl]
      rcases hO with ⟨h4, h5⟩ | ⟨k2, o2, h4, h5⟩
      · subst h5
        show AR F (takL own j off s) w j (if j = s then _ else _) e' t len' _
        rw [if_neg hsk.symm]; exact hARk
      · subst h5
        have h6 := inv.objs j
        rw [h4] at h6
        obtain ⟨h7, h8, ⟨h9, h10⟩, h11⟩ := h6
        refine ⟨by dsimp only; rw [if_neg hsk.symm]; exact hARk, h8, ⟨h9, ?_⟩, ?_⟩
        · rw [hH]
          by_cases hks : k2 = s
          · rw [if_pos hks]; simp
          · rw [if_neg hks, if_neg h9]; exact h10
        · intro ha
          rw [hH] at ha
          by_cases hks : k2 = s
          · subst hks; exact absurd hf h10
          · rw [if_neg hks, if_neg h9] at ha
            obtain ⟨b3, o3, q1, q2, q3⟩ := h11 ha
            refine ⟨b3, o3, by dsimp only; rw [if_neg hks]; exact q1, hlab b3 k2 [] q2 (by simp), ?_⟩
            dsimp only
            rw [if_neg hsk.symm]; exact q3
    · subst hj
      rw [hH, if_pos rfl]
      refine ⟨by dsimp only; rw [if_pos rfl]; exact hARs, hs, ⟨hsk.symm, ?_⟩, ?_⟩
      · rw [hH, if_neg hsk.symm, if_pos rfl]
        rcases hO with ⟨_, h⟩ | ⟨_, _, _, h⟩ <;> rw [h] <;> simp
      · intro _
        refine ⟨b, o, by dsimp only; rw [if_neg hsk.symm]; exact hb, hlab b k [] h2 (by simp), ?_⟩
        dsimp only
        rw [if_pos rfl]; exact hcell
  · intro j hj hlt hnd
    rcases hj with hj | hj
    · subst hj
      refine ⟨by simp [hsk.symm], fun hh => ?_⟩
      rw [hh] at hk; simp [arrOf] at hk
    · subst hj
      exact absurd hf (inv.gfree j hlt)
  · have := VR.arr (F := F) (β := fun j => if j = s then (⟨a, cap⟩ : Base) else β j) (own := takL own k off s) (H := updH H [(k, O'), (s, .tarr k off e t len c)]) (w := w) (k := s)
      (e := e) (t := t) (len := len) (cs := c) (by rw [hH, if_pos rfl]; rfl)
    simpa using this

theorem op_take (inv : Inv F β own H w) {Hm : Hp} (hm : ∀ k, Hm k = H k ∨ Hm k = .dead) {t : TypeId} (hn : nB P t none = true) {s : Nat} (hs : s ∈ F.takes) {a : Value} {va v : V}
    (ha : VR F β own H w va a) {u : Upd} (h : takeV F.bor Hm s va = some (v, u)) : Did F β own H w ((do pure (.value (← Instr.loadAt t a)) : Sem Next).run P w) v u := by
  unfold takeV at h
  split at h
  · cases h
  rename_i hbor
  have hbor : F.bor = false := by simpa using hbor
  split at h
  · rename_i k off hf
    have hf' := Hm_free hm hf
    have hkc : Hm k = .dead ∨ Hm k = H k := by
      rcases hm k with h5 | h5
      · exact .inr h5
      · exact .inl h5
    have fin : ∀ {e' tt len' e len : Nat} {cs c : List V} {O' : O}, arrOf (H k) = some (e', tt, len', cs) → cs[off]? = some (.sl 0 e len c) →
        ((H k = .arr e' tt len' cs ∧ O' = .arr e' tt len' (cs.set off .undef)) ∨ ∃ k2 o2, H k = .tarr k2 o2 e' tt len' cs ∧ O' = .tarr k2 o2 e' tt len' (cs.set off .undef)) →
        Did F β own H w ((do pure (.value (← Instr.loadAt t a)) : Sem Next).run P w) (.arr s) [(k, O'), (s, .tarr k off e tt len c)] := by
      intro e' tt len' e len cs c O' hk hc hO
      cases ha with
      | goneP h1 => rw [h1] at hk; simp [arrOf] at hk
      | @ptr _ _ b o h1 hb =>
        obtain ⟨x, β', own', q1, q2, q3, q4⟩ := take_core inv hbor hs hf' hk hc hO hb
        refine ⟨x, w, β', own', .inl ?_, q2, q3, q4⟩
        simp only [nB, beq_iff_eq] at hn
        simp only [Instr.loadAt, Instr.sureAddr, Sem.run_bind, Sem.run_pure, Result.andThen_ok, loadVar, run_isAgg hn, Bool.false_eq_true, if_false]
        rw [run_load, q1]
        rfl
    split at h
    · rename_i e' tt len' cs hc
      split at h
      · rename_i e len c hcc
        cases h
        have hk : H k = .arr e' tt len' cs := by
          rcases hkc with h5 | h5
          · rw [h5] at hc; cases hc
          · rw [← h5]; exact hc
        exact fin (by rw [hk]; rfl) hcc (.inl ⟨hk, rfl⟩)
      · cases h
    · rename_i k2 o2 e' tt len' cs hc
      split at h
      · rename_i e len c hcc
        cases h
        have hk : H k = .tarr k2 o2 e' tt len' cs := by
          rcases hkc with h5 | h5
          · rw [h5] at hc; cases hc
          · rw [← h5]; exact hc
        exact fin (by rw [hk]; rfl) hcc (.inr ⟨k2, o2, hk, rfl⟩)
      · cases h
    · cases h
  · cases h

end
end Go.Eng

