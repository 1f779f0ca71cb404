/- Own work: part 29 of the proof of FnEvents. -/
import Derived.Test.YtfdnolfnbmnafaaGreatEngAB
set_option linter.unusedSimpArgs false
set_option linter.unusedVariables false
namespace Go.Eng
theorem AaO {H:List O} {k:Nat} (hk:k<H.length) (o:O):hp (H.set k o)=A7 (hp H) [(k,o)]:=by
 funext j
 simp only[hp,A7,List.getD_eq_getElem?_getD,List.getElem?_set]
 by_cases h:j=k
 ·subst h;simp[hk]
 ·rw[if_neg (fun e=>h e.symm),if_neg h]
theorem getD_lt {H:List O} {k:Nat} {d o:O} (h:H.getD k d=o) (hd:d≠o):k<H.length∧hp H k=o:=by
 rw[List.getD_eq_getElem?_getD]at h
 cases hk:H[k]? with
 | none=>rw[hk]at h;exact absurd h hd
 | some x=>
  rw[hk]at h
  exact⟨(List.getElem?_eq_some_iff.1 hk).1,by simpa[hp,List.getD_eq_getElem?_getD,hk]using h⟩
section
variable {F:Fr} {st:List Tmp} {nt:Nat} {β:Nat→Base} {own:Nat→Option (Nat×List Nat)} {H:Hp} {s:St} {a:Act} {w:World}
theorem AuG (inv:Inv F β own H w) {k e:Nat} (hf:H k= .free):
 Step F β own H w (fun j=>if j=k then⟨none,0⟩else β j) own (A7 H [(k,.arr e 0 0 [])]) w (fun j=>j=k)∧
 Inv F (fun j=>if j=k then⟨none,0⟩else β j) own (A7 H [(k,.arr e 0 0 [])]) w:=by
 have hu:∀j,A7 H [(k,.arr e 0 0 [])] j=if j=k then .arr e 0 0 []else H j:=fun j=>rfl
 have st:Step F β own H w (fun j=>if j=k then⟨none,0⟩else β j) own (A7 H [(k,.arr e 0 0 [])]) w (fun j=>j=k):=by
  refine⟨Nat.le_refl _,rfl,rfl,rfl,fun _ _ _=>rfl,fun _ b _ h=>⟨rfl,h⟩,fun _ _ _ h _=>h,fun b p h=>⟨(inv.ownb b p h).1,fun _=>by rw[h];simp⟩,?_,?_,?_,?_,?_,?_⟩
  ·intro j hj;exact⟨by simp[hj],by rw[hu,if_neg hj]⟩
  ·intro j e t len cs hj h;subst hj;rw[hf]at h;cases h
  ·intro j cs hj h;subst hj;rw[hf]at h;cases h
  ·intro j hj h;subst hj;rw[hf]at h;cases h
  ·intro j hj h;subst hj;exact absurd hf h
  ·intro s j off e t len cs _ h hj _
   subst hj
   have:=inv.objs s
   rw[h]at this
   exact absurd hf this.2.2.1.2
 refine⟨st,st.inv inv ?_ ?_⟩
 ·intro j hj
  subst hj
  rw[hu,if_pos rfl]
  exact⟨[],rfl,by simp,by simp,.inl (by simp),by simp⟩
 ·intro j hj hlt _
  subst hj
  exact absurd hf (inv.gfree j hlt)
theorem ALb (r:Rel F st nt β own s a w) {slot k e:Nat} (hs:s.env.getD slot .undef= .nil e) (hk:s.H.getD k .dead= .free):
 ∃β' own',Rel F st nt β' own' ⟨s.env.set slot (.arr k),s.H.set k (.arr e 0 0 [])⟩ a w:=by
 obtain⟨hlt,hf⟩:=getD_lt hk (by simp)
 obtain⟨stp,inv'⟩:=AuG (e:=e) r.inv hf
 refine⟨_,own,by rw[AaO hlt];exact inv',?_,r.nt,r.defers⟩
 intro i t hi
 rw[AaO hlt]
 have hold:=r.env i t hi
 dsimp only
 by_cases his:i=slot
 ·subst his
  have hl:i<s.env.length:=by
   rw[List.getD_eq_getElem?_getD]at hs
   rcases Nat.lt_or_ge i s.env.length with h | h
   ·exact h
   ·rw[List.getElem?_eq_none h]at hs;cases hs
  rw[List.getD_eq_getElem?_getD,List.getElem?_set_self hl]
  rw[hs]at hold
  generalize a.tmps.getD t undef=y at hold⊢
  cases hold
  have:=VR.arr (F:=F) (β:=fun j=>if j=k then(⟨none,0⟩:Base)else β j) (own:=own) (H:=A7 (hp s.H) [(k,.arr e 0 0 [])]) (w:=w) (k:=k) (e:=e) (t:=0) (len:=0) (cs:=[]) (by simp[A7,Al])
  simpa using this
 ·rw[List.getD_eq_getElem?_getD,List.getElem?_set_ne (fun h=>his h.symm),←List.getD_eq_getElem?_getD]
  exact stp.vr r.inv hold
theorem AIj (r:Rel F st nt β own s a w) (k:Nat):Rel F st nt β own ⟨s.env,s.H.set k .dead⟩ a w:=by
 rcases Nat.lt_or_ge k s.H.length with hlt | hge
 ·have hu:∀j,A7 (hp s.H) [(k,.dead)] j=if j=k then .dead else hp s.H j:=fun j=>rfl
  have stp:Step F β own (hp s.H) w β own (A7 (hp s.H) [(k,.dead)]) w (fun j=>j=k):=by
   refine⟨Nat.le_refl _,rfl,rfl,rfl,fun _ _ _=>rfl,fun _ b _ h=>⟨rfl,h⟩,fun _ _ _ h _=>h,fun b p h=>⟨(r.inv.ownb b p h).1,fun _=>by rw[h];simp⟩,?_,?_,?_,?_,?_,?_⟩
   ·intro j hj;exact⟨rfl,by rw[hu,if_neg hj]⟩
   ·intro j _ _ _ _ hj _;exact .inl (by rw[hu,if_pos hj])
   ·intro j _ hj _;exact .inl (by rw[hu,if_pos hj])
   ·intro j hj _;rw[hu,if_pos hj]
   ·intro j hj _;rw[hu,if_pos hj];simp
   ·intro _ j _ _ _ _ _ _ _ hj h;rw[hu,if_pos hj]at h;cases h
  refine⟨by rw[AaO hlt];exact stp.inv r.inv (fun j hj=>by rw[hu,if_pos hj];trivial) (fun j hj _ hd=>by rw[hu,if_pos hj]at hd;exact absurd rfl hd),?_,r.nt,r.defers⟩
  intro i t hi
  rw[AaO hlt]
  exact stp.vr r.inv (r.env i t hi)
 ·have:s.H.set k .dead=s.H:=List.set_eq_of_length_le hge
  rw[this]
  exact⟨r.inv,r.env,r.nt,r.defers⟩
theorem AIn (r : Rel F st nt β own s a w) {kv off k e : Nat} {cs : List V} (hv : s.H.getD kv .free = .var cs) (hc : cs.getD off .undef = .nil e) (hk : s.H.getD k .dead = .free) :
    ∃ β' own', Rel F st nt β' own' ⟨s.env, (s.H.set kv (.var (cs.set off (.arr k)))).set k (.arr e 0 0 [])⟩ a w := by
  obtain ⟨hlt, hf⟩ := getD_lt hk (by simp)
  obtain ⟨hltv, hfv⟩ := getD_lt hv (by simp)
  have hne : kv ≠ k := fun h => by rw [h, hf] at hfv; cases hfv
  obtain ⟨stp, inv1⟩ := AuG (e := e) r.inv hf
  have hl : off < cs.length := by
    rw [List.getD_eq_getElem?_getD] at hc
    rcases Nat.lt_or_ge off cs.length with h | h
    · exact h
    · rw [List.getElem?_eq_none h] at hc; cases hc
  have hHe : hp ((s.H.set kv (.var (cs.set off (.arr k)))).set k (.arr e 0 0 [])) = A7 (A7 (hp s.H) [(k, .arr e 0 0 [])]) [(kv, .var (cs.set off (.arr k)))] := by
    rw [AaO (by simpa using hlt), AaO hltv]
    funext j
    simp only [A7]
    by_cases h1 : j = k
    · by_cases h2 : j = kv
      · exact absurd (h2.symm.trans h1) hne
      · simp [h1, Ne.symm hne]
    · simp [h1]
  have hfv1 : A7 (hp s.H) [(k, .arr e 0 0 [])] kv = .var cs := by simp only [A7]; rw [if_neg hne]; exact hfv
  generalize hH1 : A7 (hp s.H) [(k, .arr e 0 0 [])] = H1 at *
  generalize hβ1 : (fun j => if j = k then (⟨none, 0⟩ : Base) else β j) = β1 at *
  have hu : ∀ j, A7 H1 [(kv, .var (cs.set off (.arr k)))] j = if j = kv then .var (cs.set off (.arr k)) else H1 j := fun j => rfl
  have stp2 : Step F β1 own H1 w β1 own (A7 H1 [(kv, .var (cs.set off (.arr k)))]) w (fun j => j = kv) := by
    refine ⟨Nat.le_refl _, rfl, rfl, rfl, fun _ _ _ => rfl, fun _ b _ h => ⟨rfl, h⟩, fun _ _ _ h _ => h, fun b p h => ⟨(inv1.ownb b p h).1, fun _ => by rw [h]; simp⟩, ?_, ?_, ?_, ?_, ?_, ?_⟩
    · intro j hj; exact ⟨rfl, by rw [hu, if_neg hj]⟩
    · intro j _ _ _ _ hj h; rw [hj, hfv1] at h; cases h
    · intro j _ hj _; exact .inr ⟨rfl, _, by rw [hu, if_pos hj]⟩
    · intro j hj h; rw [hj, hfv1] at h; cases h
    · intro j hj _; rw [hu, if_pos hj]; simp
    · intro _ j _ _ _ _ _ _ _ hj h; rw [hu, if_pos hj] at h; cases h
  have inv2 : Inv F β1 own (A7 H1 [(kv, .var (cs.set off (.arr k)))]) w := by
    refine stp2.inv inv1 ?_ (fun j hj _ _ => ⟨rfl, by rw [hj, hfv1]; simp⟩)
    intro j hj
    subst hj
    rw [hu, if_pos rfl]
    have ho := inv1.objs j
    rw [hfv1] at ho
    obtain ⟨b, o, vs, g1, g2, g3, g4, g5⟩ := ho
    refine ⟨b, o, vs, g1, g2, by simpa using g3, g4, ?_⟩
    intro i v x hv' hx
    rw [List.getElem?_set] at hv'
    split at hv'
    · rename_i hio
      subst hio
      have hcell : cs[off]? = some (.nil e) := by
        rw [List.getD_eq_getElem?_getD] at hc
        rw [List.getElem?_eq_getElem hl] at hc ⊢
        simpa using hc
      have hx0 := g5 off _ x hcell hx
      first
      | (split at hv'
         · cases hv'
           cases hx0
           have := VR.arr (F := F) (β := β1) (own := own) (H := A7 H1 [(j, .var (cs.set off (.arr k)))]) (w := w) (k := k) (e := e) (t := 0) (len := 0) (cs := []) (by
             rw [hu, if_neg (Ne.symm hne), ← hH1]; simp [A7, Al])
           rw [← hβ1] at this ⊢
           simpa using this
         · cases hv')
      | (cases hv'
         cases hx0
         have := VR.arr (F := F) (β := β1) (own := own) (H := A7 H1 [(j, .var (cs.set off (.arr k)))]) (w := w) (k := k) (e := e) (t := 0) (len := 0) (cs := []) (by
           rw [hu, if_neg (Ne.symm hne), ← hH1]; simp [A7, Al])
         rw [← hβ1] at this ⊢
         simpa using this)
    · exact stp2.vr inv1 (g5 i v x hv' hx)
  refine ⟨β1, own, by rw [hHe]; exact inv2, ?_, r.nt, r.defers⟩
  · intro i t hi
    rw [hHe]
    exact stp2.vr inv1 (stp.vr r.inv (r.env i t hi))
end
end Go.Eng
