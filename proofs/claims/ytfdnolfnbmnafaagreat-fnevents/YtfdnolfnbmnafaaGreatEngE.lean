/- Own work: part 5 of the proof of FnEvents. -/
import Derived.Test.YtfdnolfnbmnafaaGreatEngD
set_option linter.unusedSimpArgs false
set_option linter.unusedVariables false
namespace Go.Eng
structure Step (F:Fr) (β:Nat→Base) (own:Nat→Option (Nat×List Nat)) (H:Hp) (w:World)
 (β':Nat→Base) (own':Nat→Option (Nat×List Nat)) (H':Hp) (w':World) (K:Nat→Prop):Prop where
 size:w.heap.size≤w'.heap.size
 os:w'.os=w.os
 tape:w'.tape=w.tape
 output:w'.output=w.output
 blk:∀b,b<w.heap.size→(∀k p,own b=some (k,p)→¬K k)→w'.heap[b]? =w.heap[b]?
 bork:F.bor=true→∀b,b<w.heap.size→(∀k,own b≠some (k,[]))→w'.heap[b]? =w.heap[b]? ∧∀k,own' b≠some (k,[])
 lab:∀b k p,own b=some (k,p)→¬K k→own' b=some (k,p)
 labn:∀b p,own' b=some p→b<w'.heap.size∧(b<w.heap.size→own b≠none)
 same:∀k,¬K k→β' k=β k∧H' k=H k
 arrs:∀k e t len cs,K k→Al (H k)=some (e,t,len,cs)→H' k= .dead∨(β' k=β k∧∃t' cs',Al (H' k)=some (e,t',len,cs'))
 vars:∀k cs,K k→H k= .var cs→H' k= .dead∨(β' k=β k∧∃cs',H' k= .var cs')
 deads:∀k,K k→H k= .dead→H' k= .dead
 frees:∀k,K k→H k≠ .free→H' k≠ .free
 home:∀s k off e t len cs,¬K s→H s= .tarr k off e t len cs→K k→Mj (H' k)=true→
  Mj (H k)=true∧∀b o,(β k).a=some ⟨b,o,none⟩→own b=some (k,[])→own' b=some (k,[])∧w'.cell? ⟨b,o+off,none⟩=w.cell? ⟨b,o+off,none⟩
section
variable {F:Fr} {β β':Nat→Base} {own own':Nat→Option (Nat×List Nat)} {H H':Hp} {w w':World} {K:Nat→Prop}
theorem Step.sS (st:Step F β own H w β' own' H' w' K) (inv:Inv F β own H w) (fl b:Nat) (hfl:1≤fl) (h:F.S w own fl b):
 F.S w' own' fl b∧w'.heap[b]? =w.heap[b]? :=by
 have key:b<F.w0.heap.size→F.own0 b=none→w'.heap[b]? =w.heap[b]? :=by
  intro h1 h2
  refine st.blk b (Nat.lt_of_lt_of_le h1 inv.size) ?_
  intro k p hp
  exact absurd h2 ((inv.ownb b _ hp).2 h1)
 match fl,hfl with
 | 1,_=>exact⟨h,key h.1 h.2⟩
 | 2,_=>
  obtain⟨h1,h2,h3⟩:=h
  obtain⟨h4,h5⟩:=st.bork h1 b h2 h3
  exact⟨⟨h1,Nat.lt_of_lt_of_le h2 st.size,h5⟩,h4⟩
 | 3,_=>
  have:=inv.glob b h
  exact⟨h,key this.1 this.2.1⟩
 | n+4,_=>
  obtain⟨h1,h2,h3⟩:=h
  obtain⟨h4,h5⟩:=st.bork h1 b h2 h3
  exact⟨⟨h1,Nat.lt_of_lt_of_le h2 st.size,h5⟩,h4⟩
theorem Hq {o:O}:Mj o=true↔∃e t len cs,Al o=some (e,t,len,cs):=by
 cases o<;>simp[Mj,Al]
theorem Step.vr (st:Step F β own H w β' own' H' w' K) (inv:Inv F β own H w) {v:V} {x:Value} (h:VR F β own H w v x):
 VR F β' own' H' w' v x:=by
 refine h.move (fun fl b h1 hs=>(st.sS inv fl b h1 hs).1) (fun fl b h1 hs=>(st.sS inv fl b h1 hs).2) ?_ ?_ ?_
 ·intro k e t len cs hk
  by_cases hK:K k
  ·exact st.arrs k e t len cs hK hk
  ·obtain⟨h1,h2⟩:=st.same k hK
   exact .inr ⟨h1,t,cs,by rw[h2];exact hk⟩
 ·intro k cs hk
  by_cases hK:K k
  ·exact st.vars k cs hK hk
  ·obtain⟨h1,h2⟩:=st.same k hK
   exact .inr ⟨h1,cs,by rw[h2];exact hk⟩
 ·intro k hk
  by_cases hK:K k
  ·exact st.deads k hK hk
  ·obtain⟨h1,h2⟩:=st.same k hK
   rw[h2];exact hk
theorem Step.ow (st:Step F β own H w β' own' H' w' K) (inv:Inv F β own H w) {k:Nat} (hk:¬K k) {t:Nat} {p:List Nat} {v:V} {x:Value}
 (h:Ow F.Ah w own (F.S w own) t k p v x):Ow F.Ah w' own' (F.S w' own') t k p v x:=by
 have hR:∀ {v:V} {x:Value} {fl:Nat},1≤fl→Rd F.Ah w (F.S w own fl) v x→Rd F.Ah w' (F.S w' own' fl) v x:=
  fun h1 h=>h.move (fun b hb=>(st.sS inv _ b h1 hb).1) (fun b hb=>(st.sS inv _ b h1 hb).2)
 have hB:∀b q,own b=some (k,q)→own' b=some (k,q)∧w'.heap[b]? =w.heap[b]? :=by
  intro b q hb
  refine⟨st.lab b k q hb hk,st.blk b (inv.ownb b _ hb).1 ?_⟩
  intro k2 p2 h2
  rw[hb]at h2
  cases h2
  exact hk
 induction h with
 | sc h1=>exact .sc h1
 | own hl hw hv hm hc ih=>
  refine .own hl hw hv ?_ ih
  rcases hm with hm | ⟨b,o,ha,hb,hr⟩
  ·exact .inl hm
  ·exact .inr ⟨b,o,ha,(hB b _ hb).1,IE hr (hB b _ hb).2⟩
 | ro h1 h2 h=>exact .ro h1 h2 (hR h1 h)
 | ptr hv hb hm hc ih=>exact .ptr hv (hB _ _ hb).1 (IE hm (hB _ _ hb).2) ih
 | rptr h1 h2 h=>exact .rptr h1 h2 (hR h1 h)
 | fn h2 h=>exact .fn h2 (hR (Nat.le_refl 1) h)
 | agg h1 hv hc ih=>exact .agg h1 hv ih
 | tup hv hc ih=>exact .tup hv ih
 | undef=>exact .undef
theorem Step.ar (st:Step F β own H w β' own' H' w' K) (inv:Inv F β own H w) {k:Nat} (hk:¬K k) {B:Base} {e t len:Nat} {cs:List V}
 (h:AR F own w k B e t len cs):AR F own' w' k B e t len cs:=by
 obtain⟨vs,h1,h2,h3,h4,h5⟩:=h
 refine⟨vs,h1,h2,h3,?_,fun i v x hv hx=>st.ow inv hk (h5 i v x hv hx)⟩
 rcases h4 with h4 | ⟨b,o,ha,hb,hr⟩
 ·exact .inl h4
 ·refine .inr ⟨b,o,ha,st.lab b k [] hb hk,IE hr ?_⟩
  refine st.blk b (inv.ownb b _ hb).1 ?_
  intro k2 p2 h2
  rw[hb]at h2;cases h2;exact hk
theorem Step.or (st:Step F β own H w β' own' H' w' K) (inv:Inv F β own H w) {k:Nat} (hk:¬K k):OR F β' own' H' w' k (H' k):=by
 obtain⟨hβ,hH⟩:=st.same k hk
 have ho:=inv.objs k
 rw[hH]
 cases ho':H k with
 | free=>trivial
 | dead=>trivial
 | var cs=>
  rw[ho']at ho
  obtain⟨b,o,vs,h1,h2,h3,h4,h5⟩:=ho
  refine⟨b,o,vs,by rw[hβ];exact h1,st.lab b k [] h2 hk,h3,IE h4 ?_,fun i v x hv hx=>st.vr inv (h5 i v x hv hx)⟩
  refine st.blk b (inv.ownb b _ h2).1 ?_
  intro k2 p2 hh
  rw[h2]at hh;cases hh;exact hk
 | arr e t len cs=>
  rw[ho']at ho
  show AR F own' w' k (β' k) e t len cs
  rw[hβ]
  exact st.ar inv hk ho
 | tarr k2 off e t len cs=>
  rw[ho']at ho
  obtain⟨h1,h2,⟨hne,hf⟩,h3⟩:=ho
  refine⟨by rw[hβ];exact st.ar inv hk h1,h2,⟨hne,?_⟩,?_⟩
  ·by_cases hK2:K k2
   ·exact st.frees k2 hK2 hf
   ·rw[(st.same k2 hK2).2];exact hf
  intro ha
  rw[hβ]
  by_cases hK2:K k2
  ·obtain⟨g1,g2⟩:=st.home k k2 off e t len cs hk ho' hK2 ha
   obtain⟨b,o,g3,gl,g4⟩:=h3 g1
   obtain⟨e2,t2,len2,cs2,hcs2⟩:=Hq.1 g1
   rcases st.arrs k2 e2 t2 len2 cs2 hK2 hcs2 with g5 | ⟨g5,_⟩
   ·rw[g5]at ha;simp[Mj]at ha
   ·exact⟨b,o,by rw[g5];exact g3,(g2 b o g3 gl).1,by rw[(g2 b o g3 gl).2];exact g4⟩
  ·obtain⟨g1,g2⟩:=st.same k2 hK2
   rw[g2]at ha
   obtain⟨b,o,g3,hb,g4⟩:=h3 ha
   refine⟨b,o,by rw[g1];exact g3,st.lab b k2 [] hb hK2,?_⟩
   rw[←g4]
   simp only[World.cell?]
   rw[st.blk b (inv.ownb b _ hb).1 (by intro k3 p3 hh;rw[hb]at hh;cases hh;exact hK2)]
theorem Step.inv (st:Step F β own H w β' own' H' w' K) (inv:Inv F β own H w) (hn:∀k,K k→OR F β' own' H' w' k (H' k))
 (hg:∀k,K k→k<F.ngiven→H' k≠ .dead→β' k=β k∧H k≠ .dead):Inv F β' own' H' w':=by
 refine⟨Nat.le_trans inv.size st.size,?_,st.os.trans inv.os,st.tape.trans inv.tape,st.output.trans inv.output,?_,inv.glob,?_,?_,?_⟩
 ·intro b h1 h2
  rw[←inv.keep b h1 h2]
  refine st.blk b (Nat.lt_of_lt_of_le h1 inv.size) ?_
  intro k p hp
  exact absurd h2 ((inv.ownb b _ hp).2 h1)
 ·intro b p hp
  obtain⟨h1,h2⟩:=st.labn b p hp
  refine⟨h1,fun h=> ?_⟩
  have:=h2 (Nat.lt_of_lt_of_le h inv.size)
  cases ho:own b with
  | none=>exact absurd ho this
  | some q=>exact(inv.ownb b q ho).2 h
 ·intro k
  by_cases hk:K k
  ·exact hn k hk
  ·exact st.or inv hk
 ·intro k hk h1
  by_cases hK:K k
  ·obtain⟨g1,g2⟩:=hg k hK hk h1
   rw[g1];exact inv.given k hk g2
  ·obtain⟨g1,g2⟩:=st.same k hK
   rw[g1];rw[g2]at h1;exact inv.given k hk h1
 ·intro k hk
  by_cases hK:K k
  ·exact st.frees k hK (inv.gfree k hk)
  ·rw[(st.same k hK).2];exact inv.gfree k hk
end
end Go.Eng
