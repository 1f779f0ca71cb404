/- Own work: part 28 of the proof of FnEvents. -/
import Derived.Test.YtfdnolfnbmnafaaGreatEngAA
set_option linter.unusedSimpArgs false
set_option linter.unusedVariables false
namespace Go.Eng
theorem Avn (o:O):Al (Wv o)=Al o:=by cases o<;>rfl
theorem Aee (k' k:Nat) (o:O):Al (Ze k' k o)=Al o:=by
 cases o with
 | tarr j off e t len cs=>simp only[Ze];split<;>rfl
 | _=>rfl
theorem Aim {k' k:Nat} {o:O}:Ze k' k o= .free↔o= .free:=by
 cases o with
 | tarr j off e t len cs=>simp only[Ze];split<;>simp
 | _=>simp[Ze]
theorem Ayx {o:O}:Wv o= .free↔o= .free:=by cases o<;>simp[Wv]
def P9 (H:Hp) (k' k:Nat):Hp:=fun j=>if j=k' then .free else if j=k then Wv (Ze k' k (H k'))else Ze k' k (H j)
def AcF (own:Nat→Option (Nat×List Nat)) (k' k:Nat):Nat→Option (Nat×List Nat):=fun b=>
 match own b with
 | some (j,p)=>if j=k' then some (k,p)else some (j,p)
 | none=>none
def XK (β:Nat→Base) (k' k:Nat):Nat→Base:=fun j=>if j=k then β k' else β j
section
variable {F:Fr} {β β':Nat→Base} {own own':Nat→Option (Nat×List Nat)} {H H':Hp} {w:World} {k' k:Nat}
theorem Af7 {b:Nat} {p:List Nat} (h:own b=some (k',p)):AcF own k' k b=some (k,p):=by unfold AcF;rw[h];simp
theorem Abq {b j:Nat} {p:List Nat} (h:own b=some (j,p)) (hj:j≠k'):AcF own k' k b=some (j,p):=by unfold AcF;rw[h];simp[hj]
theorem Auj {b:Nat} {q:Nat×List Nat} (h:AcF own k' k b=some q):∃j,own b=some (j,q.2):=by
 unfold AcF at h
 cases ho:own b with
 | none=>rw[ho]at h;cases h
 | some r=>
  obtain⟨j,p⟩:=r
  rw[ho]at h
  simp only at h
  split at h<;>cases h<;>exact⟨j,rfl⟩
theorem AI2 {fl b:Nat} (h1:1≤fl) (hs:F.S w own fl b):F.S w (AcF own k' k) fl b:=by
 have two:F.bor=true∧b<w.heap.size∧(∀k,own b≠some (k,[]))→F.bor=true∧b<w.heap.size∧∀k2,AcF own k' k b≠some (k2,[]):=fun hs=>⟨hs.1,hs.2.1,fun k2 hk2=>by
  obtain⟨j,hj⟩:=Auj hk2
  exact hs.2.2 j hj⟩
 match fl,h1 with
 | 1,_=>exact hs
 | 2,_=>exact two hs
 | 3,_=>exact hs
 | n+4,_=>exact two hs
theorem AAf:Al (P9 H k' k k)=if k=k' then none else Al (H k'):=by
 unfold P9
 by_cases h:k=k'
 ·rw[if_pos h,if_pos h];rfl
 ·rw[if_neg h,if_pos rfl,if_neg h,Avn,Aee]
theorem AHf (hne:k'≠k) {v:V} {x:Value} (h:VR F β own H w v x) (hm:m3 k v=false):VR F (XK β k' k) (AcF own k' k) (P9 H k' k) w (AfZ k' k v) x:=by
 have hk:XK β k' k k=β k':=by simp[XK]
 have harr:Al (P9 H k' k k)=Al (H k'):=by rw[AAf,if_neg (Ne.symm hne)]
 have hkk:P9 H k' k k=Wv (Ze k' k (H k')):=by unfold P9;rw[if_neg (Ne.symm hne),if_pos rfl]
 have oth:m3 k' v=false→VR F (XK β k' k) (AcF own k' k) (P9 H k' k) w v x:=by
  intro hm'
  refine h.other (ex:=fun j=>j=k∨j=k') (fun j hj=>by rcases hj with hj | hj<;>rw[hj]<;>assumption) (fun fl b h1 hs=>AI2 h1 hs) ?_ ?_ ?_ ?_
  ·intro j hj;simp only[XK];rw[if_neg (fun e=>hj (.inl e))]
  ·intro j hj
   simp only[P9]
   rw[if_neg (fun e=>hj (.inr e)),if_neg (fun e=>hj (.inl e)),Aee]
  ·intro j cs hj hH
   exact⟨cs.map (AfZ k' k),by simp only[P9];rw[if_neg (fun e=>hj (.inr e)),if_neg (fun e=>hj (.inl e)),hH];rfl⟩
  ·intro j hj hH
   simp only[P9];rw[if_neg (fun e=>hj (.inr e)),if_neg (fun e=>hj (.inl e)),hH];rfl
 have gen:VR F (XK β k' k) (AcF own k' k) (P9 H k' k) w (if m3 k' v then .undef else v) x:=by
  split
  ·exact .undef
  ·rename_i hh;exact oth (by simpa using hh)
 cases v with
 | arr j=>
  simp only[AfZ]
  split
  ·rename_i hj
   subst hj
   cases h with
   | arr h=>rw[←hk];exact .arr (by rw[harr];exact h)
   | goneA h=>exact .goneA (by rw[hkk,h];rfl)
  ·rename_i hj
   exact oth (by simpa[m3,m2,m1]using hj)
 | sub j o l=>
  simp only[AfZ]
  split
  ·rename_i hj
   subst hj
   cases h with
   | sub h hn hx=>exact .sub (by rw[harr];exact h) hn (by rw[hk];exact hx)
   | goneS h=>exact .goneS (by rw[hkk,h];rfl)
  ·rename_i hj
   exact oth (by simpa[m3,m2,m1]using hj)
 | ptr j o=>
  simp only[AfZ]
  split
  ·rename_i hj
   subst hj
   cases h with
   | ptr h hb=>
    refine .ptr ?_ (by rw[hk];exact hb)
    rcases h with h | ⟨cs,h⟩
    ·left;rw[Hq]at h⊢;rw[harr];exact h
    ·right;exact⟨cs.map (AfZ j k),by rw[hkk,h];rfl⟩
   | goneP h=>exact .goneP (by rw[hkk,h];rfl)
  ·rename_i hj
   exact oth (by simpa[m3,m2,m1]using hj)
 | sc _=>exact gen
 | nil _=>exact gen
 | sl _ _ _ _=>exact gen
 | rptr _ _ _=>exact gen
 | fn _ _=>exact gen
 | agg _=>exact gen
 | tup _=>exact gen
 | undef=>exact gen
theorem AzR {e t len:Nat} {cs:List V} {B:Base} (h:AR F own w k' B e t len cs):AR F (AcF own k' k) w k B e t len cs:=by
 obtain⟨vs,g1,g2,g3,g4,g5⟩:=h
 refine⟨vs,g1,g2,g3,?_,?_⟩
 ·rcases g4 with g4 | ⟨b,o,q1,q2,q3⟩
  ·exact .inl g4
  ·exact .inr ⟨b,o,q1,Af7 q2,q3⟩
 ·intro i v x hv hx
  exact(g5 i v x hv hx).move (Nat.le_refl _) (fun fl b h1 _ hs=>AI2 h1 hs) (fun _ _ _ _ _=>rfl) (fun b q hb=>⟨Af7 hb,rfl⟩)
theorem AnY {j:Nat} (hj:j≠k') {e t len:Nat} {cs:List V} {B:Base} (h:AR F own w j B e t len cs):AR F (AcF own k' k) w j B e t len cs:=by
 obtain⟨vs,g1,g2,g3,g4,g5⟩:=h
 refine⟨vs,g1,g2,g3,?_,?_⟩
 ·rcases g4 with g4 | ⟨b,o,q1,q2,q3⟩
  ·exact .inl g4
  ·exact .inr ⟨b,o,q1,Abq q2 hj,q3⟩
 ·intro i v x hv hx
  exact(g5 i v x hv hx).move (Nat.le_refl _) (fun fl b h1 _ hs=>AI2 h1 hs) (fun _ _ _ _ _=>rfl) (fun b q hb=>⟨Abq hb hj,rfl⟩)
theorem AKM (inv:Inv F β own H w) (hne:k'≠k) (hg:F.ngiven≤k) (hg':F.ngiven≤k') (hfree:H k= .free) (hno:∀j cs,H j= .var cs→∀v,v∈cs→m3 k v=false):
 Inv F (XK β k' k) (AcF own k' k) (P9 H k' k) w:=by
 have hhome:∀j off e t len cs,H j≠ .tarr k off e t len cs:=by
  intro j off e t len cs h
  have:=inv.objs j
  rw[h]at this
  exact this.2.2.1.2 hfree
 have hvar:∀ {cs:List V} {vs:List Value} {j:Nat},H j= .var cs→(∀(i:Nat) (v:V) (x:Value),cs[i]? =some v→vs[i]? =some x→VR F β own H w v x)→
  ∀(i:Nat) (v:V) (x:Value),(cs.map (AfZ k' k))[i]? =some v→vs[i]? =some x→VR F (XK β k' k) (AcF own k' k) (P9 H k' k) w v x:=by
  intro cs vs j hj h i v x hv hx
  simp only[List.getElem?_map,Option.map_eq_some_iff]at hv
  obtain⟨v0,hv0,rfl⟩:=hv
  exact AHf hne (h i v0 x hv0 hx) (hno j cs hj v0 (List.mem_of_getElem? hv0))
 refine⟨inv.size,inv.keep,inv.os,inv.tape,inv.output,?_,inv.glob,?_,?_,?_⟩
 ·intro b p hp
  obtain⟨j,hj⟩:=Auj hp
  exact inv.ownb b _ hj
 ·intro j
  by_cases hjk':j=k'
  ·have:P9 H k' k j= .free:=by simp[P9,hjk']
   rw[this];trivial
  by_cases hjk:j=k
  ·subst hjk
   have hkk:P9 H k' j j=Wv (Ze k' j (H k')):=by unfold P9;rw[if_neg hjk',if_pos rfl]
   have hβ:XK β k' j j=β k':=by simp[XK]
   rw[hkk]
   have ho:=inv.objs k'
   cases hH:H k' with
   | free=>trivial
   | dead=>trivial
   | var cs=>
    rw[hH]at ho
    obtain⟨b,o,vs,g1,g2,g3,g4,g5⟩:=ho
    exact⟨b,o,vs,by rw[hβ];exact g1,Af7 g2,by simpa using g3,g4,hvar hH g5⟩
   | arr e t len cs=>
    rw[hH]at ho
    show AR F _ w j (XK β k' j j) e t len cs
    rw[hβ];exact AzR ho
   | tarr k2 off e t len cs=>
    rw[hH]at ho
    have:Wv (Ze k' j (.tarr k2 off e t len cs))= .arr e t len cs:=by simp only[Ze];split<;>rfl
    rw[this]
    show AR F _ w j (XK β k' j j) e t len cs
    rw[hβ];exact AzR ho.1
  ·have hjj:P9 H k' k j=Ze k' k (H j):=by unfold P9;rw[if_neg hjk',if_neg hjk]
   have hβ:XK β k' k j=β j:=by simp[XK,hjk]
   rw[hjj]
   have ho:=inv.objs j
   cases hH:H j with
   | free=>trivial
   | dead=>trivial
   | var cs=>
    rw[hH]at ho
    obtain⟨b,o,vs,g1,g2,g3,g4,g5⟩:=ho
    exact⟨b,o,vs,by rw[hβ];exact g1,Abq g2 hjk',by simpa using g3,g4,hvar hH g5⟩
   | arr e t len cs=>
    rw[hH]at ho
    show AR F _ w j (XK β k' k j) e t len cs
    rw[hβ];exact AnY hjk' ho
   | tarr k2 off e t len cs=>
    rw[hH]at ho
    obtain⟨g1,g2,⟨g3,g4⟩,g5⟩:=ho
    simp only[Ze]
    split
    ·rename_i hk2
     subst hk2
     refine⟨by rw[hβ];exact AnY hjk' g1,g2,⟨Ne.symm hjk,?_⟩,?_⟩
     ·unfold P9
      rw[if_neg (Ne.symm hne),if_pos rfl]
      intro h
      exact g4 (Aim.1 (Ayx.1 h))
     ·intro ha
      rw[Hq,AAf,if_neg (Ne.symm hne)]at ha
      obtain⟨b,o,q1,q2,q3⟩:=g5 (Hq.2 ha)
      exact⟨b,o,by simpa[XK]using q1,Af7 q2,by rw[hβ];exact q3⟩
    ·rename_i hk2
     have hk2k:k2≠k:=fun h=>hhome j off e t len cs (by rw[hH,h])
     have h2:P9 H k' k k2=Ze k' k (H k2):=by unfold P9;rw[if_neg hk2,if_neg hk2k]
     refine⟨by rw[hβ];exact AnY hjk' g1,g2,⟨g3,?_⟩,?_⟩
     ·rw[h2];exact fun h=>g4 (Aim.1 h)
     ·intro ha
      rw[Hq,h2,Aee]at ha
      obtain⟨b,o,q1,q2,q3⟩:=g5 (Hq.2 ha)
      exact⟨b,o,by simpa[XK,hk2k]using q1,Abq q2 hk2,by rw[hβ];exact q3⟩
 ·intro j hj hd
  have h1:j≠k:=by omega
  have h2:j≠k':=by omega
  have:XK β k' k j=β j:=by simp[XK,h1]
  rw[this]
  refine inv.given j hj fun h=>hd ?_
  unfold P9
  rw[if_neg h2,if_neg h1,h];rfl
 ·intro j hj h
  have h1:j≠k:=by omega
  have h2:j≠k':=by omega
  unfold P9 at h
  rw[if_neg h2,if_neg h1]at h
  exact inv.gfree j hj (Aim.1 h)
end
theorem AC0 (H:List O) {k' k:Nat} (hk:k<H.length) (hk':k' <H.length) (hne:k'≠k) (j:Nat):
 hp (((H.map (Ze k' k)).set k (Wv (Ze k' k (H.getD k' .free)))).set k' .free) j=P9 (hp H) k' k j:=by
 unfold P9 hp
 simp only[List.getD_eq_getElem?_getD,List.getElem?_set,List.length_set,List.length_map,List.getElem?_map]
 by_cases h1:j=k'
 ·subst h1;simp[hk']
 ·rw[if_neg (fun h=>h1 h.symm),if_neg h1]
  by_cases h2:j=k
  ·subst h2;simp[hk]
  ·rw[if_neg (fun h=>h2 h.symm),if_neg h2]
   cases H[j]? <;>rfl
theorem Akh (s:St) (k:Nat):(kill s k).H.length=s.H.length:=by simp[kill]
theorem ACq {F:Fr} {st:List Tmp} {nt:Nat} {β:Nat→Base} {own:Nat→Option (Nat×List Nat)} {s:St} {a:Act} {w:World} (r:Rel F st nt β own s a w) {k' k:Nat} (hne:k'≠k)
 (hg:F.ngiven≤k) (hg':F.ngiven≤k') (hl:k<s.H.length) (hl':k' <s.H.length):∃β' own',Rel F st nt β' own' (rename s k' k) a w:=by
 have r1:=AzP r hg
 have hH:hp (rename s k' k).H=P9 (hp (kill s k).H) k' k:=funext fun j=>AC0 (kill s k).H (by rw[Akh];exact hl) (by rw[Akh];exact hl') hne j
 have hk:hp (kill s k).H k= .free:=by
  have:hp (kill s k).H k=PI (hp s.H) k k:=Aal s.H k k
  rw[this];simp[PI]
 refine⟨XK β k' k,AcF (Vp own k) k' k,?_,?_,r.nt,r.defers⟩
 ·rw[hH]
  refine AKM r1.inv hne hg hg' hk ?_
  intro j cs hj v hv
  have h2:hp (kill s k).H j=PI (hp s.H) k j:=Aal s.H k j
  rw[h2]at hj
  unfold PI at hj
  split at hj
  ·cases hj
  ·cases hH2:hp s.H j with
   | var cs0=>
    rw[hH2]at hj
    have h3:O.var (cs0.map (Vm k))= .var cs:=hj
    cases h3
    obtain⟨v0,_,rfl⟩:=List.mem_map.1 hv
    exact ADi k v0
   | tarr k2 off e t len c=>rw[hH2]at hj;simp only[Q9]at hj;split at hj<;>cases hj
   | free=>rw[hH2]at hj;cases hj
   | dead=>rw[hH2]at hj;cases hj
   | arr _ _ _ _=>rw[hH2]at hj;cases hj
 ·intro i t hi
  rw[hH]
  show VR F _ _ _ w (((kill s k).env.map (AfZ k' k)).getD i .undef) _
  rw[getD_map (d:=V.undef) (h:=by simp[AfZ,m3,m2,m1])]
  refine AHf hne (r1.env i t hi) ?_
  show m3 k ((s.env.map (Vm k)).getD i .undef)=false
  rw[getD_map (d:=V.undef) (h:=by simp[Vm,m3,m2,m1])]
  exact ADi k _
end Go.Eng
