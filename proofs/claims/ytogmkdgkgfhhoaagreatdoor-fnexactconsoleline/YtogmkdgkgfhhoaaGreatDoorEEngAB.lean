/- Own work: part 9 of the proof of FnExactConsoleLine. -/
import Derived.Test.YtogmkdgkgfhhoaaGreatDoorEEngV
set_option linter.unusedSimpArgs false
set_option linter.unusedVariables false
namespace Go.Eng
theorem Aed (o:O):Ac (Ns o)=Ac o:=by cases o<;>rfl
theorem Ud (k' k:Nat) (o:O):Ac (O3 k' k o)=Ac o:=by
 cases o with
 | tarr j off e t len cs=>simp only[O3];split<;>rfl
 | _=>rfl
theorem WY {k' k:Nat} {o:O}:O3 k' k o= .free↔o= .free:=by
 cases o with
 | tarr j off e t len cs=>simp only[O3];split<;>simp
 | _=>simp[O3]
theorem Agz {o:O}:Ns o= .free↔o= .free:=by cases o<;>simp[Ns]
def Js (H:Hp) (k' k:Nat):Hp:=fun j=>if j=k' then .free else if j=k then Ns (O3 k' k (H k'))else O3 k' k (H j)
def SA (own:Nat->Option (Nat×List Nat)) (k' k:Nat):Nat->Option (Nat×List Nat):=fun b=>
 match own b with
 | some (j,p)=>if j=k' then some (k,p)else some (j,p)
 | none=>none
def N9 (β:Nat->Base) (k' k:Nat):Nat->Base:=fun j=>if j=k then β k' else β j
section
variable {F:Fr} {β β':Nat->Base} {own own':Nat->Option (Nat×List Nat)} {H H':Hp} {w:World} {k' k:Nat}
theorem Ut {b:Nat} {p:List Nat} (h:own b=some (k',p)):SA own k' k b=some (k,p):=by unfold SA;rw[h];simp
theorem Rw {b j:Nat} {p:List Nat} (h:own b=some (j,p)) (hj:j≠k'):SA own k' k b=some (j,p):=by unfold SA;rw[h];simp[hj]
theorem AdB {b:Nat} {q:Nat×List Nat} (h:SA own k' k b=some q):∃j,own b=some (j,q.2):=by
 unfold SA at h
 cases ho:own b with
 | none=>rw[ho]at h;cases h
 | some r=>
  obtain⟨j,p⟩:=r
  rw[ho]at h
  simp only at h
  split at h<;>cases h<;>exact⟨j,rfl⟩
theorem AnA {fl b:Nat} (h1:1<=fl) (hs:F.S w own fl b):F.S w (SA own k' k) fl b:=by
 have two:F.bor=true/\b<w.heap.size/\(∀k,own b≠some (k,[]))->F.bor=true/\b<w.heap.size/\∀k2,SA own k' k b≠some (k2,[]):=fun hs=>⟨hs.1,hs.2.1,fun k2 hk2=>by
  obtain⟨j,hj⟩:=AdB hk2
  exact hs.2.2 j hj⟩
 match fl,h1 with
 | 1,_=>exact hs
 | 2,_=>exact two hs
 | 3,_=>exact hs
 | n+4,_=>exact two hs
theorem AgP:Ac (Js H k' k k)=if k=k' then none else Ac (H k'):=by
 unfold Js
 by_cases h:k=k'
 ·rw[if_pos h,if_pos h];rfl
 ·rw[if_neg h,if_pos rfl,if_neg h,Aed,Ud]
theorem AmW (hne:k'≠k) {v:V} {x:Value} (h:VR F β own H w v x) (hm:m3 k v=false):VR F (N9 β k' k) (SA own k' k) (Js H k' k) w (Y0 k' k v) x:=by
 have hk:N9 β k' k k=β k':=by simp[N9]
 have harr:Ac (Js H k' k k)=Ac (H k'):=by rw[AgP,if_neg (Ne.symm hne)]
 have hkk:Js H k' k k=Ns (O3 k' k (H k')):=by unfold Js;rw[if_neg (Ne.symm hne),if_pos rfl]
 have oth:m3 k' v=false->VR F (N9 β k' k) (SA own k' k) (Js H k' k) w v x:=by
  intro hm'
  refine h.other (ex:=fun j=>j=k∨j=k') (fun j hj=>by rcases hj with hj | hj<;>rw[hj]<;>assumption) (fun fl b h1 hs=>AnA h1 hs) ?_ ?_ ?_ ?_
  ·intro j hj;simp only[N9];rw[if_neg (fun e=>hj (.inl e))]
  ·intro j hj
   simp only[Js]
   rw[if_neg (fun e=>hj (.inr e)),if_neg (fun e=>hj (.inl e)),Ud]
  ·intro j cs hj hH
   exact⟨cs.map (Y0 k' k),by simp only[Js];rw[if_neg (fun e=>hj (.inr e)),if_neg (fun e=>hj (.inl e)),hH];rfl⟩
  ·intro j hj hH
   simp only[Js];rw[if_neg (fun e=>hj (.inr e)),if_neg (fun e=>hj (.inl e)),hH];rfl
 have gen:VR F (N9 β k' k) (SA own k' k) (Js H k' k) w (if m3 k' v then .undef else v) x:=by
  split
  ·exact .undef
  ·rename_i hh;exact oth (by simpa using hh)
 cases v with
 | arr j=>
  simp only[Y0]
  split
  ·rename_i hj
   subst hj
   cases h with
   | arr h=>rw[<-hk];exact .arr (by rw[harr];exact h)
   | goneA h=>exact .goneA (by rw[hkk,h];rfl)
  ·rename_i hj
   exact oth (by simpa[m3,m2,m1]using hj)
 | sub j o l=>
  simp only[Y0]
  split
  ·rename_i hj
   subst hj
   cases h with
   | sub h hn hx=>exact .sub (by rw[harr];exact h) hn (by rw[hk];exact hx)
   | goneS h=>exact .goneS (by rw[hkk,h];rfl)
  ·rename_i hj
   exact oth (by simpa[m3,m2,m1]using hj)
 | ptr j o=>
  simp only[Y0]
  split
  ·rename_i hj
   subst hj
   cases h with
   | ptr h hb=>
    refine .ptr ?_ (by rw[hk];exact hb)
    rcases h with h | ⟨cs,h⟩
    ·left;rw[EA]at h⊢;rw[harr];exact h
    ·right;exact⟨cs.map (Y0 j k),by rw[hkk,h];rfl⟩
   | goneP h=>exact .goneP (by rw[hkk,h];rfl)
  ·rename_i hj
   exact oth (by simpa[m3,m2,m1]using hj)
 | sc _=>exact gen
 | nil _=>exact gen
 | sl _ _ _ _=>exact gen
 | rptr _ _ _=>exact gen
 | fn _ _=>exact gen
 | agg _=>exact gen
 | tup _=>exact gen
 | undef=>exact gen
theorem Ahz {e t len:Nat} {cs:List V} {B:Base} (h:AR F own w k' B e t len cs):AR F (SA own k' k) w k B e t len cs:=by
 obtain⟨vs,g1,g2,g3,g4,g5⟩:=h
 refine⟨vs,g1,g2,g3,?_,?_⟩
 ·rcases g4 with g4 | ⟨b,o,q1,q2,q3⟩
  ·exact .inl g4
  ·exact .inr ⟨b,o,q1,Ut q2,q3⟩
 ·intro i v x hv hx
  exact(g5 i v x hv hx).move (Nat.le_refl _) (fun fl b h1 _ hs=>AnA h1 hs) (fun _ _ _ _ _=>rfl) (fun b q hb=>⟨Ut hb,rfl⟩)
theorem Abt {j:Nat} (hj:j≠k') {e t len:Nat} {cs:List V} {B:Base} (h:AR F own w j B e t len cs):AR F (SA own k' k) w j B e t len cs:=by
 obtain⟨vs,g1,g2,g3,g4,g5⟩:=h
 refine⟨vs,g1,g2,g3,?_,?_⟩
 ·rcases g4 with g4 | ⟨b,o,q1,q2,q3⟩
  ·exact .inl g4
  ·exact .inr ⟨b,o,q1,Rw q2 hj,q3⟩
 ·intro i v x hv hx
  exact(g5 i v x hv hx).move (Nat.le_refl _) (fun fl b h1 _ hs=>AnA h1 hs) (fun _ _ _ _ _=>rfl) (fun b q hb=>⟨Rw hb hj,rfl⟩)
theorem AoZ (inv:Inv F β own H w) (hne:k'≠k) (hg:F.ngiven<=k) (hg':F.ngiven<=k') (hfree:H k= .free) (hno:∀j cs,H j= .var cs->∀v,v∈cs->m3 k v=false):
 Inv F (N9 β k' k) (SA own k' k) (Js H k' k) w:=by
 have hhome:∀j off e t len cs,H j≠ .tarr k off e t len cs:=by
  intro j off e t len cs h
  have:=inv.objs j
  rw[h]at this
  exact this.2.2.1.2 hfree
 have hvar:∀ {cs:List V} {vs:List Value} {j:Nat},H j= .var cs->(∀(i:Nat) (v:V) (x:Value),cs[i]? =some v->vs[i]? =some x->VR F β own H w v x)->
  ∀(i:Nat) (v:V) (x:Value),(cs.map (Y0 k' k))[i]? =some v->vs[i]? =some x->VR F (N9 β k' k) (SA own k' k) (Js H k' k) w v x:=by
  intro cs vs j hj h i v x hv hx
  simp only[List.getElem?_map,Option.map_eq_some_iff]at hv
  obtain⟨v0,hv0,rfl⟩:=hv
  exact AmW hne (h i v0 x hv0 hx) (hno j cs hj v0 (List.mem_of_getElem? hv0))
 refine⟨inv.size,inv.keep,inv.os,inv.tape,inv.output,?_,inv.glob,?_,?_,?_⟩
 ·intro b p hp
  obtain⟨j,hj⟩:=AdB hp
  exact inv.ownb b _ hj
 ·intro j
  by_cases hjk':j=k'
  ·have:Js H k' k j= .free:=by simp[Js,hjk']
   rw[this];trivial
  by_cases hjk:j=k
  ·subst hjk
   have hkk:Js H k' j j=Ns (O3 k' j (H k')):=by unfold Js;rw[if_neg hjk',if_pos rfl]
   have hβ:N9 β k' j j=β k':=by simp[N9]
   rw[hkk]
   have ho:=inv.objs k'
   cases hH:H k' with
   | free=>trivial
   | dead=>trivial
   | var cs=>
    rw[hH]at ho
    obtain⟨b,o,vs,g1,g2,g3,g4,g5⟩:=ho
    exact⟨b,o,vs,by rw[hβ];exact g1,Ut g2,by simpa using g3,g4,hvar hH g5⟩
   | arr e t len cs=>
    rw[hH]at ho
    show AR F _ w j (N9 β k' j j) e t len cs
    rw[hβ];exact Ahz ho
   | tarr k2 off e t len cs=>
    rw[hH]at ho
    have:Ns (O3 k' j (.tarr k2 off e t len cs))= .arr e t len cs:=by simp only[O3];split<;>rfl
    rw[this]
    show AR F _ w j (N9 β k' j j) e t len cs
    rw[hβ];exact Ahz ho.1
  ·have hjj:Js H k' k j=O3 k' k (H j):=by unfold Js;rw[if_neg hjk',if_neg hjk]
   have hβ:N9 β k' k j=β j:=by simp[N9,hjk]
   rw[hjj]
   have ho:=inv.objs j
   cases hH:H j with
   | free=>trivial
   | dead=>trivial
   | var cs=>
    rw[hH]at ho
    obtain⟨b,o,vs,g1,g2,g3,g4,g5⟩:=ho
    exact⟨b,o,vs,by rw[hβ];exact g1,Rw g2 hjk',by simpa using g3,g4,hvar hH g5⟩
   | arr e t len cs=>
    rw[hH]at ho
    show AR F _ w j (N9 β k' k j) e t len cs
    rw[hβ];exact Abt hjk' ho
   | tarr k2 off e t len cs=>
    rw[hH]at ho
    obtain⟨g1,g2,⟨g3,g4⟩,g5⟩:=ho
    simp only[O3]
    split
    ·rename_i hk2
     subst hk2
     refine⟨by rw[hβ];exact Abt hjk' g1,g2,⟨Ne.symm hjk,?_⟩,?_⟩
     ·unfold Js
      rw[if_neg (Ne.symm hne),if_pos rfl]
      intro h
      exact g4 (WY.1 (Agz.1 h))
     ·intro ha
      rw[EA,AgP,if_neg (Ne.symm hne)]at ha
      obtain⟨b,o,q1,q2,q3⟩:=g5 (EA.2 ha)
      exact⟨b,o,by simpa[N9]using q1,Ut q2,by rw[hβ];exact q3⟩
    ·rename_i hk2
     have hk2k:k2≠k:=fun h=>hhome j off e t len cs (by rw[hH,h])
     have h2:Js H k' k k2=O3 k' k (H k2):=by unfold Js;rw[if_neg hk2,if_neg hk2k]
     refine⟨by rw[hβ];exact Abt hjk' g1,g2,⟨g3,?_⟩,?_⟩
     ·rw[h2];exact fun h=>g4 (WY.1 h)
     ·intro ha
      rw[EA,h2,Ud]at ha
      obtain⟨b,o,q1,q2,q3⟩:=g5 (EA.2 ha)
      exact⟨b,o,by simpa[N9,hk2k]using q1,Rw q2 hk2,by rw[hβ];exact q3⟩
 ·intro j hj hd
  have h1:j≠k:=by omega
  have h2:j≠k':=by omega
  have:N9 β k' k j=β j:=by simp[N9,h1]
  rw[this]
  refine inv.given j hj fun h=>hd ?_
  unfold Js
  rw[if_neg h2,if_neg h1,h];rfl
 ·intro j hj h
  have h1:j≠k:=by omega
  have h2:j≠k':=by omega
  unfold Js at h
  rw[if_neg h2,if_neg h1]at h
  exact inv.gfree j hj (WY.1 h)
end
theorem AiS (H:List O) {k' k:Nat} (hk:k<H.length) (hk':k' <H.length) (hne:k'≠k) (j:Nat):
 hp (((H.map (O3 k' k)).set k (Ns (O3 k' k (H.getD k' .free)))).set k' .free) j=Js (hp H) k' k j:=by
 unfold Js hp
 simp only[List.getD_eq_getElem?_getD,List.getElem?_set,List.length_set,List.length_map,List.getElem?_map]
 by_cases h1:j=k'
 ·subst h1;simp[hk']
 ·rw[if_neg (fun h=>h1 h.symm),if_neg h1]
  by_cases h2:j=k
  ·subst h2;simp[hk]
  ·rw[if_neg (fun h=>h2 h.symm),if_neg h2]
   cases H[j]? <;>rfl
theorem XU (s:St) (k:Nat):(kill s k).H.length=s.H.length:=by simp[kill]
theorem Aik {F:Fr} {st:List Tmp} {nt:Nat} {β:Nat->Base} {own:Nat->Option (Nat×List Nat)} {s:St} {a:Act} {w:World} (r:Rel F st nt β own s a w) {k' k:Nat} (hne:k'≠k)
 (hg:F.ngiven<=k) (hg':F.ngiven<=k') (hl:k<s.H.length) (hl':k' <s.H.length):∃β' own',Rel F st nt β' own' (rename s k' k) a w:=by
 have r1:=Agp r hg
 have hH:hp (rename s k' k).H=Js (hp (kill s k).H) k' k:=funext fun j=>AiS (kill s k).H (by rw[XU];exact hl) (by rw[XU];exact hl') hne j
 have hk:hp (kill s k).H k= .free:=by
  have:hp (kill s k).H k=Ir (hp s.H) k k:=QW s.H k k
  rw[this];simp[Ir]
 refine⟨N9 β k' k,SA (L6 own k) k' k,?_,?_,r.nt,r.defers⟩
 ·rw[hH]
  refine AoZ r1.inv hne hg hg' hk ?_
  intro j cs hj v hv
  have h2:hp (kill s k).H j=Ir (hp s.H) k j:=QW s.H k j
  rw[h2]at hj
  unfold Ir at hj
  split at hj
  ·cases hj
  ·cases hH2:hp s.H j with
   | var cs0=>
    rw[hH2]at hj
    have h3:O.var (cs0.map (OB k))= .var cs:=hj
    cases h3
    obtain⟨v0,_,rfl⟩:=List.mem_map.1 hv
    exact AjN k v0
   | tarr k2 off e t len c=>rw[hH2]at hj;simp only[M5]at hj;split at hj<;>cases hj
   | free=>rw[hH2]at hj;cases hj
   | dead=>rw[hH2]at hj;cases hj
   | arr _ _ _ _=>rw[hH2]at hj;cases hj
 ·intro i t hi
  rw[hH]
  show VR F _ _ _ w (((kill s k).env.map (Y0 k' k)).getD i .undef) _
  rw[getD_map (d:=V.undef) (h:=by simp[Y0,m3,m2,m1])]
  refine AmW hne (r1.env i t hi) ?_
  show m3 k ((s.env.map (OB k)).getD i .undef)=false
  rw[getD_map (d:=V.undef) (h:=by simp[OB,m3,m2,m1])]
  exact AjN k _
end Go.Eng
namespace Go.Eng
theorem QJ {H:List O} {k:Nat} (hk:k<H.length) (o:O):hp (H.set k o)=Al (hp H) [(k,o)]:=by
 funext j
 simp only[hp,Al,List.getD_eq_getElem?_getD,List.getElem?_set]
 by_cases h:j=k
 ·subst h;simp[hk]
 ·rw[if_neg (fun e=>h e.symm),if_neg h]
theorem getD_lt {H:List O} {k:Nat} {d o:O} (h:H.getD k d=o) (hd:d≠o):k<H.length/\hp H k=o:=by
 rw[List.getD_eq_getElem?_getD]at h
 cases hk:H[k]? with
 | none=>rw[hk]at h;exact absurd h hd
 | some x=>
  rw[hk]at h
  exact⟨(List.getElem?_eq_some_iff.1 hk).1,by simpa[hp,List.getD_eq_getElem?_getD,hk]using h⟩
section
variable {F:Fr} {st:List Tmp} {nt:Nat} {β:Nat->Base} {own:Nat->Option (Nat×List Nat)} {H:Hp} {s:St} {a:Act} {w:World}
theorem AdL (inv:Inv F β own H w) {k e:Nat} (hf:H k= .free):
 Step F β own H w (fun j=>if j=k then⟨none,0⟩else β j) own (Al H [(k,.arr e 0 0 [])]) w (fun j=>j=k)/\
 Inv F (fun j=>if j=k then⟨none,0⟩else β j) own (Al H [(k,.arr e 0 0 [])]) w:=by
 have hu:∀j,Al H [(k,.arr e 0 0 [])] j=if j=k then .arr e 0 0 []else H j:=fun j=>rfl
 have st:Step F β own H w (fun j=>if j=k then⟨none,0⟩else β j) own (Al H [(k,.arr e 0 0 [])]) w (fun j=>j=k):=by
  refine⟨Nat.le_refl _,rfl,rfl,rfl,fun _ _ _=>rfl,fun _ b _ h=>⟨rfl,h⟩,fun _ _ _ h _=>h,fun b p h=>⟨(inv.ownb b p h).1,fun _=>by rw[h];simp⟩,?_,?_,?_,?_,?_,?_⟩
  ·intro j hj;exact⟨by simp[hj],by rw[hu,if_neg hj]⟩
  ·intro j e t len cs hj h;subst hj;rw[hf]at h;cases h
  ·intro j cs hj h;subst hj;rw[hf]at h;cases h
  ·intro j hj h;subst hj;rw[hf]at h;cases h
  ·intro j hj h;subst hj;exact absurd hf h
  ·intro s j off e t len cs _ h hj _
   subst hj
   have:=inv.objs s
   rw[h]at this
   exact absurd hf this.2.2.1.2
 refine⟨st,st.inv inv ?_ ?_⟩
 ·intro j hj
  subst hj
  rw[hu,if_pos rfl]
  exact⟨[],rfl,by simp,by simp,.inl (by simp),by simp⟩
 ·intro j hj hlt _
  subst hj
  exact absurd hf (inv.gfree j hlt)
theorem Ape (r:Rel F st nt β own s a w) {slot k e:Nat} (hs:s.env.getD slot .undef= .nil e) (hk:s.H.getD k .dead= .free):
 ∃β' own',Rel F st nt β' own' ⟨s.env.set slot (.arr k),s.H.set k (.arr e 0 0 [])⟩ a w:=by
 obtain⟨hlt,hf⟩:=getD_lt hk (by simp)
 obtain⟨stp,inv'⟩:=AdL (e:=e) r.inv hf
 refine⟨_,own,by rw[QJ hlt];exact inv',?_,r.nt,r.defers⟩
 intro i t hi
 rw[QJ hlt]
 have hold:=r.env i t hi
 dsimp only
 by_cases his:i=slot
 ·subst his
  have hl:i<s.env.length:=by
   rw[List.getD_eq_getElem?_getD]at hs
   rcases Nat.lt_or_ge i s.env.length with h | h
   ·exact h
   ·rw[List.getElem?_eq_none h]at hs;cases hs
  rw[List.getD_eq_getElem?_getD,List.getElem?_set_self hl]
  rw[hs]at hold
  generalize a.tmps.getD t undef=y at hold⊢
  cases hold
  have:=VR.arr (F:=F) (β:=fun j=>if j=k then(⟨none,0⟩:Base)else β j) (own:=own) (H:=Al (hp s.H) [(k,.arr e 0 0 [])]) (w:=w) (k:=k) (e:=e) (t:=0) (len:=0) (cs:=[]) (by simp[Al,Ac])
  simpa using this
 ·rw[List.getD_eq_getElem?_getD,List.getElem?_set_ne (fun h=>his h.symm),<-List.getD_eq_getElem?_getD]
  exact stp.vr r.inv hold
theorem Amn (r:Rel F st nt β own s a w) (k:Nat):Rel F st nt β own ⟨s.env,s.H.set k .dead⟩ a w:=by
 rcases Nat.lt_or_ge k s.H.length with hlt | hge
 ·have hu:∀j,Al (hp s.H) [(k,.dead)] j=if j=k then .dead else hp s.H j:=fun j=>rfl
  have stp:Step F β own (hp s.H) w β own (Al (hp s.H) [(k,.dead)]) w (fun j=>j=k):=by
   refine⟨Nat.le_refl _,rfl,rfl,rfl,fun _ _ _=>rfl,fun _ b _ h=>⟨rfl,h⟩,fun _ _ _ h _=>h,fun b p h=>⟨(r.inv.ownb b p h).1,fun _=>by rw[h];simp⟩,?_,?_,?_,?_,?_,?_⟩
   ·intro j hj;exact⟨rfl,by rw[hu,if_neg hj]⟩
   ·intro j _ _ _ _ hj _;exact .inl (by rw[hu,if_pos hj])
   ·intro j _ hj _;exact .inl (by rw[hu,if_pos hj])
   ·intro j hj _;rw[hu,if_pos hj]
   ·intro j hj _;rw[hu,if_pos hj];simp
   ·intro _ j _ _ _ _ _ _ _ hj h;rw[hu,if_pos hj]at h;cases h
  refine⟨by rw[QJ hlt];exact stp.inv r.inv (fun j hj=>by rw[hu,if_pos hj];trivial) (fun j hj _ hd=>by rw[hu,if_pos hj]at hd;exact absurd rfl hd),?_,r.nt,r.defers⟩
  intro i t hi
  rw[QJ hlt]
  exact stp.vr r.inv (r.env i t hi)
 ·have:s.H.set k .dead=s.H:=List.set_eq_of_length_le hge
  rw[this]
  exact⟨r.inv,r.env,r.nt,r.defers⟩
theorem Amy (r : Rel F st nt β own s a w) {kv off k e : Nat} {cs : List V} (hv : s.H.getD kv .free = .var cs) (hc : cs.getD off .undef = .nil e) (hk : s.H.getD k .dead = .free) :
    ∃ β' own', Rel F st nt β' own' ⟨s.env, (s.H.set kv (.var (cs.set off (.arr k)))).set k (.arr e 0 0 [])⟩ a w := by
  obtain ⟨hlt, hf⟩ := getD_lt hk (by simp)
  obtain ⟨hltv, hfv⟩ := getD_lt hv (by simp)
  have hne : kv ≠ k := fun h => by rw [h, hf] at hfv; cases hfv
  obtain ⟨stp, inv1⟩ := AdL (e := e) r.inv hf
  have hl : off < cs.length := by
    rw [List.getD_eq_getElem?_getD] at hc
    rcases Nat.lt_or_ge off cs.length with h | h
    · exact h
    · rw [List.getElem?_eq_none h] at hc; cases hc
  have hHe : hp ((s.H.set kv (.var (cs.set off (.arr k)))).set k (.arr e 0 0 [])) = Al (Al (hp s.H) [(k, .arr e 0 0 [])]) [(kv, .var (cs.set off (.arr k)))] := by
    rw [QJ (by simpa using hlt), QJ hltv]
    funext j
    simp only [Al]
    by_cases h1 : j = k
    · by_cases h2 : j = kv
      · exact absurd (h2.symm.trans h1) hne
      · simp [h1, Ne.symm hne]
    · simp [h1]
  have hfv1 : Al (hp s.H) [(k, .arr e 0 0 [])] kv = .var cs := by simp only [Al]; rw [if_neg hne]; exact hfv
  generalize hH1 : Al (hp s.H) [(k, .arr e 0 0 [])] = H1 at *
  generalize hβ1 : (fun j => if j = k then (⟨none, 0⟩ : Base) else β j) = β1 at *
  have hu : ∀ j, Al H1 [(kv, .var (cs.set off (.arr k)))] j = if j = kv then .var (cs.set off (.arr k)) else H1 j := fun j => rfl
  have stp2 : Step F β1 own H1 w β1 own (Al H1 [(kv, .var (cs.set off (.arr k)))]) w (fun j => j = kv) := by
    refine ⟨Nat.le_refl _, rfl, rfl, rfl, fun _ _ _ => rfl, fun _ b _ h => ⟨rfl, h⟩, fun _ _ _ h _ => h, fun b p h => ⟨(inv1.ownb b p h).1, fun _ => by rw [h]; simp⟩, ?_, ?_, ?_, ?_, ?_, ?_⟩
    · intro j hj; exact ⟨rfl, by rw [hu, if_neg hj]⟩
    · intro j _ _ _ _ hj h; rw [hj, hfv1] at h; cases h
    · intro j _ hj _; exact .inr ⟨rfl, _, by rw [hu, if_pos hj]⟩
    · intro j hj h; rw [hj, hfv1] at h; cases h
    · intro j hj _; rw [hu, if_pos hj]; simp
    · intro _ j _ _ _ _ _ _ _ hj h; rw [hu, if_pos hj] at h; cases h
  have inv2 : Inv F β1 own (Al H1 [(kv, .var (cs.set off (.arr k)))]) w := by
    refine stp2.inv inv1 ?_ (fun j hj _ _ => ⟨rfl, by rw [hj, hfv1]; simp⟩)
    intro j hj
    subst hj
    rw [hu, if_pos rfl]
    have ho := inv1.objs j
    rw [hfv1] at ho
    obtain ⟨b, o, vs, g1, g2, g3, g4, g5⟩ := ho
    refine ⟨b, o, vs, g1, g2, by simpa using g3, g4, ?_⟩
    intro i v x hv' hx
    rw [List.getElem?_set] at hv'
    split at hv'
    · rename_i hio
      subst hio
      have hcell : cs[off]? = some (.nil e) := by
        rw [List.getD_eq_getElem?_getD] at hc
        rw [List.getElem?_eq_getElem hl] at hc ⊢
        simpa using hc
      have hx0 := g5 off _ x hcell hx
      first
      | (split at hv'
         · cases hv'
           cases hx0
           have := VR.arr (F := F) (β := β1) (own := own) (H := Al H1 [(j, .var (cs.set off (.arr k)))]) (w := w) (k := k) (e := e) (t := 0) (len := 0) (cs := []) (by
             rw [hu, if_neg (Ne.symm hne), <- hH1]; simp [Al, Ac])
           rw [<- hβ1] at this ⊢
           simpa using this
         · cases hv')
      | (cases hv'
         cases hx0
         have := VR.arr (F := F) (β := β1) (own := own) (H := Al H1 [(j, .var (cs.set off (.arr k)))]) (w := w) (k := k) (e := e) (t := 0) (len := 0) (cs := []) (by
           rw [hu, if_neg (Ne.symm hne), <- hH1]; simp [Al, Ac])
         rw [<- hβ1] at this ⊢
         simpa using this)
    · exact stp2.vr inv1 (g5 i v x hv' hx)
  refine ⟨β1, own, by rw [hHe]; exact inv2, ?_, r.nt, r.defers⟩
  · intro i t hi
    rw [hHe]
    exact stp2.vr inv1 (stp.vr r.inv (r.env i t hi))
end
end Go.Eng
namespace Go.Eng
def Yc (own:Nat->Option (Nat×List Nat)) (t k off:Nat):Nat->Option (Nat×List Nat):=fun b=>
 match own b with
 | some (j,p)=>if j=t then some (k,off::p)else some (j,p)
 | none=>none
section
variable {F:Fr} {st:List Tmp} {nt:Nat} {β:Nat->Base} {own:Nat->Option (Nat×List Nat)} {H:Hp} {s:St} {a:Act} {w:World}
theorem Agc {t k off b:Nat} {p:List Nat} (h:own b=some (t,p)):Yc own t k off b=some (k,off::p):=by unfold Yc;rw[h];simp
theorem OC {t k off b j:Nat} {p:List Nat} (h:own b=some (j,p)) (hj:j≠t):Yc own t k off b=some (j,p):=by unfold Yc;rw[h];simp[hj]
theorem Alr {t k off b:Nat} {q:Nat×List Nat} (h:Yc own t k off b=some q):∃r,own b=some r:=by
 unfold Yc at h
 cases ho:own b with
 | none=>rw[ho]at h;cases h
 | some r=>exact⟨r,rfl⟩
theorem AfP (inv:Inv F β own H w) {t k off e t' len:Nat} {cs:List V} (ht:H t= .tarr k off e t' len cs) (hkt:k≠t) {e2 t2 len2:Nat} {cs2:List V} (hk:Ac (H k)=some (e2,t2,len2,cs2))
 (hoff:off<cs2.length) {O':O} (hO:(H k= .arr e2 t2 len2 cs2/\O' = .arr e2 (max t2 t') len2 (cs2.set off (.sl 0 e len cs)))∨
  ∃k3 o3,H k= .tarr k3 o3 e2 t2 len2 cs2/\O' = .tarr k3 o3 e2 (max t2 t') len2 (cs2.set off (.sl 0 e len cs))):
 Inv F β (Yc own t k off) (Al H [(k,O'),(t,.dead)]) w/\∀z y,VR F β own H w z y->VR F β (Yc own t k off) (Al H [(k,O'),(t,.dead)]) w z y:=by
 have hot:=inv.objs t
 rw[ht]at hot
 obtain⟨hARt,_,_,hhome⟩:=hot
 obtain⟨b,o,hb,hlb,hcell⟩:=hhome (EA.2 ⟨_,_,_,_,hk⟩)
 obtain⟨vs,g1,g2,g3,g4,g5⟩:=Hz inv hk
 have hH:∀j,Al H [(k,O'),(t,.dead)] j=if j=t then .dead else if j=k then O' else H j:=fun j=>rfl
 have hO':Ac O' =some (e2,max t2 t',len2,cs2.set off (.sl 0 e len cs)):=by
  rcases hO with⟨_,h⟩ | ⟨_,_,_,h⟩<;>rw[h]<;>rfl
 have stp:Step F β own H w β (Yc own t k off) (Al H [(k,O'),(t,.dead)]) w (fun j=>j=k∨j=t):=by
  refine⟨Nat.le_refl _,rfl,rfl,rfl,fun _ _ _=>rfl,?_,?_,?_,?_,?_,?_,?_,?_,?_⟩
  ·intro _ b2 _ hn
   refine⟨rfl,fun k2 h2=> ?_⟩
   unfold Yc at h2
   cases ho:own b2 with
   | none=>rw[ho]at h2;cases h2
   | some r=>
    obtain⟨j,p⟩:=r
    rw[ho]at h2
    simp only at h2
    split at h2
    ·cases h2
    ·cases h2;exact hn k2 ho
  ·intro b2 j p h2 hK
   exact OC h2 (fun h=>hK (.inr h))
  ·intro b2 p h2
   obtain⟨r,hr⟩:=Alr h2
   exact⟨(inv.ownb b2 r hr).1,fun _=>by rw[hr];simp⟩
  ·intro j hj
   exact⟨rfl,by rw[hH,if_neg (fun h=>hj (.inr h)),if_neg (fun h=>hj (.inl h))]⟩
  ·intro j e4 t4 l4 c4 hj h
   by_cases hjt:j=t
   ·exact .inl (by rw[hH,if_pos hjt])
   ·rcases hj with hj | hj
    ·subst hj
     rw[hk]at h;cases h
     exact .inr ⟨rfl,_,_,by rw[hH,if_neg hjt,if_pos rfl];exact hO'⟩
    ·exact absurd hj hjt
  ·intro j c4 hj h
   by_cases hjt:j=t
   ·exact .inl (by rw[hH,if_pos hjt])
   ·rcases hj with hj | hj
    ·subst hj;rw[h]at hk;cases hk
    ·exact absurd hj hjt
  ·intro j hj h
   by_cases hjt:j=t
   ·rw[hH,if_pos hjt]
   ·rcases hj with hj | hj
    ·subst hj;rw[h]at hk;cases hk
    ·exact absurd hj hjt
  ·intro j hj _
   by_cases hjt:j=t
   ·rw[hH,if_pos hjt];simp
   ·rcases hj with hj | hj
    ·rw[hH,if_neg hjt,if_pos hj]
     rcases hO with⟨_,h⟩ | ⟨_,_,_,h⟩<;>rw[h]<;>simp
    ·exact absurd hj hjt
  ·intro s j o4 e4 t4 l4 c4 hs h hj ha
   by_cases hjt:j=t
   ·rw[hH,if_pos hjt]at ha;cases ha
   ·rcases hj with hj | hj
    ·subst hj
     exact⟨EA.2 ⟨_,_,_,_,hk⟩,fun b4 o5 h3 h4=>⟨OC h4 hjt,rfl⟩⟩
    ·exact absurd hj hjt
 have hsS:∀fl b2,1<=fl->F.S w own fl b2->F.S w (Yc own t k off) fl b2/\w.heap[b2]? =w.heap[b2]? :=fun fl b2 h1 h=>stp.sS inv fl b2 h1 h
 have hAR:AR F (Yc own t k off) w k (β k) e2 (max t2 t') len2 (cs2.set off (.sl 0 e len cs)):=by
  rcases g4 with g4 | ⟨b',o',q1,q2,q3⟩
  ·have:len2*e2<=(β k).cap*e2:=Nat.mul_le_mul_right _ g3.1
   omega
  rw[hb]at q1;cases q1
  refine⟨vs,by simp[g1],by simp[g2],g3,.inr ⟨b,o,hb,OC q2 hkt,q3⟩,?_⟩
  intro i v x hv hx
  by_cases hio:i=off
  ·subst hio
   rw[List.getElem?_set_self hoff]at hv
   cases hv
   have hxx:x= .slice (β t).a len (β t).cap:=by
    have h2:=(DF q3).2 i (by omega)
    rw[hcell,hx]at h2
    exact(Option.some.inj h2).symm
   subst hxx
   obtain⟨us,p1,p2,p3,p4,p5⟩:=hARt
   refine .own p3 p2 p1 ?_ ?_
   ·rcases p4 with p4 | ⟨b3,o3,r1,r2,r3⟩
    ·exact .inl p4
    ·exact .inr ⟨b3,o3,r1,Agc r2,r3⟩
   ·intro j v x hv hx
    refine He (p5 j v x hv hx) (Nat.le_max_right _ _) (fun b3 q h3=>⟨?_,rfl⟩) (fun fl b2 h1 h2=>hsS fl b2 h1 h2)
    have:=Agc (k:=k) (off:=i) h3
    simpa using this
  ·rw[List.getElem?_set_ne (fun h=>hio h.symm)]at hv
   exact He (g5 i v x hv hx) (Nat.le_max_left _ _) (fun b3 q h3=>⟨OC h3 hkt,rfl⟩) (fun fl b2 h1 h2=>hsS fl b2 h1 h2)
 refine⟨stp.inv inv ?_ ?_,fun z y h=>stp.vr inv h⟩
 ·intro j hj
  by_cases hjt:j=t
  ·rw[hH,if_pos hjt];trivial
  ·rcases hj with hj | hj
   ·subst hj
    rw[hH,if_neg hjt,if_pos rfl]
    rcases hO with⟨_,h2⟩ | ⟨k3,o3,h1,h2⟩
    ·subst h2;exact hAR
    ·subst h2
     have ho:=inv.objs j
     rw[h1]at ho
     obtain⟨_,p2,⟨p3,p4⟩,p5⟩:=ho
     refine⟨hAR,p2,⟨p3,?_⟩,?_⟩
     ·rw[hH]
      by_cases h3:k3=t
      ·rw[if_pos h3];simp
      ·rw[if_neg h3,if_neg p3];exact p4
     ·intro ha
      rw[hH]at ha
      by_cases h3:k3=t
      ·rw[if_pos h3]at ha;cases ha
      ·rw[if_neg h3,if_neg p3]at ha
       obtain⟨b3,ob3,r1,r2,r3⟩:=p5 ha
       exact⟨b3,ob3,r1,OC r2 h3,r3⟩
   ·exact absurd hj hjt
 ·intro j hj _ hd
  by_cases hjt:j=t
  ·rw[hH,if_pos hjt]at hd;exact absurd rfl hd
  ·rcases hj with hj | hj
   ·subst hj
    exact⟨rfl,fun h=>by rw[h]at hk;cases hk⟩
   ·exact absurd hj hjt
def Aoq (ngiven:Nat):Gh->Bool
 | .ren k' k=>decide (ngiven<=k')&&decide (ngiven<=k)
 | _=>true
theorem Als (r:Rel F st nt β own s a w) {g:Gh} (hok:Aoq F.ngiven g=true) {s':St} (h:ghost s g=some s'):∃β' own',Rel F st nt β' own' s' a w:=by
 cases g with
 | own slot k=>
  simp only[ghost]at h
  split at h
  ·rename_i e h1 h2
   cases h
   exact Ape r h1 h2
  ·cases h
 | ownc kv off k=>
  simp only[ghost]at h
  split at h
  ·rename_i cs h1 h2
   split at h
   ·rename_i e h3
    cases h
    exact Amy r h1 h3 h2
   ·cases h
  ·cases h
 | ren k' k=>
  simp only[ghost]at h
  split at h
  ·cases h
  ·rename_i hc
   cases h
   simp only[Aoq,Bool.and_eq_true,decide_eq_true_eq]at hok
   exact Aik r (by omega) hok.2 hok.1 (by omega) (by omega)
 | untake t=>
  simp only[ghost]at h
  split at h
  ·rename_i k off e t' len cs ht
   obtain⟨hlt,hft⟩:=getD_lt ht (by simp)
   have fin:∀ {e2 t2 len2:Nat} {cs2:List V} {O':O},k<s.H.length->k≠t->Ac (hp s.H k)=some (e2,t2,len2,cs2)->off<cs2.length->
    ((hp s.H k= .arr e2 t2 len2 cs2/\O' = .arr e2 (max t2 t') len2 (cs2.set off (.sl 0 e len cs)))∨∃k3 o3,hp s.H k= .tarr k3 o3 e2 t2 len2 cs2/\O' = .tarr k3 o3 e2 (max t2 t') len2 (cs2.set off (.sl 0 e len cs)))->
    ∃β' own',Rel F st nt β' own' ⟨s.env,(s.H.set k O').set t .dead⟩ a w:=by
    intro e2 t2 len2 cs2 O' hkl hkt hk hoff hO
    obtain⟨h1,h2⟩:=AfP r.inv hft hkt hk hoff hO
    have hHe:hp ((s.H.set k O').set t .dead)=Al (hp s.H) [(k,O'),(t,.dead)]:=by
     rw[QJ (by simpa using hlt),QJ hkl];rfl
    exact⟨β,_,by rw[hHe];exact h1,fun i t hi=>by rw[hHe];exact h2 _ _ (r.env i t hi),r.nt,r.defers⟩
   split at h
   ·rename_i e2 t2 len2 cs2 hk
    obtain⟨hkl,hfk⟩:=getD_lt hk (by simp)
    split at h
    ·cases h
    ·rename_i hkt
     split at h
     ·rename_i hoff
      cases h
      exact fin hkl hkt (by rw[hfk];rfl) hoff (.inl ⟨hfk,rfl⟩)
     ·cases h
   ·rename_i k3 o3 e2 t2 len2 cs2 hk
    obtain⟨hkl,hfk⟩:=getD_lt hk (by simp)
    split at h
    ·cases h
    ·rename_i hkt
     split at h
     ·rename_i hoff
      cases h
      exact fin hkl hkt (by rw[hfk];rfl) hoff (.inr ⟨k3,o3,hfk,rfl⟩)
     ·cases h
   ·cases h
  ·cases h
 | drop k=>
  cases h
  exact⟨β,own,Amn r k⟩
theorem AaN:∀ {gs:List Gh} {β:Nat->Base} {own:Nat->Option (Nat×List Nat)} {s:St} (_:Rel F st nt β own s a w) (_:gs.all (Aoq F.ngiven)=true) {s':St} (_:Gc s gs=some s'),
 ∃β' own',Rel F st nt β' own' s' a w
 | [],β,own,s,r,_,s',h=>by cases h;exact⟨β,own,r⟩
 | g::gs,β,own,s,r,hok,s',h=>by
  simp only[List.all_cons,Bool.and_eq_true]at hok
  simp only[Gc]at h
  split at h
  ·rename_i s1 h1
   obtain⟨β1,own1,r1⟩:=Als r hok.1 h1
   exact AaN r1 hok.2 h
  ·cases h
end
end Go.Eng
namespace Go.Eng
def SV:List Oper->List Nat->List Nat
 | [],acc=>acc
 | o::r,acc=>SV r (acc++ [o.after.toList.foldl (fun m e=>if Region.binds .any e then m|||(1 <<< e.on)|||acc.getD e.on 0 else m) 0])
def AmR (l:List Nat) (q j:Nat):Bool:=(l.getD q 0).testBit j
def Aes:List Tmp->Bool
 | []=>true
 | a::r=> !r.contains a&&Aes r
def opB (P:Program) (Ae:Nat->Option FuncId) (takes:List Nat) (st:List Tmp) (nt:Nat) (dsts:List (Option Tmp)) (anc:Nat->Nat->Bool) (q:Nat) (rop:I7) (o:Oper):Bool:=
 mOp P Ae takes (okS Ae st dsts anc q) rop.op o.op&&(o.guard==rop.guard)&&
 (match rop.guard with
  | none=>true
  | some (j,_)=>anc q j&&(match dsts[j]? with | some (some _)=>true | _=>false))&&
 (match o.dst with
  | none=>true
  | some t=>decide (t<nt))&&
 (!U1 rop.op||(match rop.tau with
  | none=>true
  | some l=>takes.all fun s=>l.contains s))
def ArM (st:List Tmp) (dsts:List (Option Tmp)) (p:Nat×Nat):Bool:=
 match st[p.1]?,dsts[p.2]? with
 | some t,some (some t')=>t==t'
 | _,_=>false
def Afm (dsts:List (Option Tmp)) (sets:List (Nat×Nat)) (clr:List Nat):List Tmp->Nat->Bool
 | [],_=>true
 | t::r,i=>(!dsts.contains (some t)||sets.any (fun p=>p.1==i)||clr.contains i)&&Afm dsts sets clr r (i+1)
def Aj2 (all:List I7) (anc:Nat->Nat->Bool) (q:Nat) (rq:I7):List I7->Nat->Bool
 | [],_=>true
 | rj::r,j=>((!(rq.om.any fun k=>(rj.tau.getD []).contains k&& !OD all rj k)&& !(rj.om.any fun k=>(rq.tau.getD []).contains k&& !OD all rq k))||anc j q)&&Aj2 all anc q rq r (j+1)
def Z5 (all:List I7) (anc:Nat->Nat->Bool):List I7->Nat->Bool
 | [],_=>true
 | rq::r,q=>Aj2 all anc q rq r (q+1)&&Z5 all anc r (q+1)
def Aqx (rop:I7):Bool:=
 match rop.tau with
 | some t=>rop.om.all fun k=>t.contains k
 | none=>false
def preB (o:Oper) (q:Nat):Bool:=o.after.toList.all fun e=> !Region.binds .any e||decide (e.on<q)
def Aou (P:Program) (Ae:Nat->Option FuncId) (takes:List Nat) (st:List Tmp) (nt:Nat) (dsts:List (Option Tmp)) (anc:Nat->Nat->Bool) (d:Bool):List I7->List Oper->Nat->Bool
 | [],[],_=>true
 | rop::r,o::t,q=>opB P Ae takes st nt dsts anc q rop o&&(!d||(Aqx rop&&preB o q))&&Aou P Ae takes st nt dsts anc d r t (q+1)
 | _,_,_=>false
def Aqq (P:Program) (Ae:Nat->Option FuncId) (takes:List Nat) (ngiven:Nat) (st:List Tmp) (nt:Nat) (r:Ce) (d:Bool) (ops:Array Oper):Bool:=
 let ol:=ops.toList
 let dsts:=ol.map (·.dst)
 let anc:=if d then AmR (SV ol [])else AfE
 Aou P Ae takes st nt dsts anc d r.ops ol 0&&Aes (dsts.filterMap id)&&r.sets.all (ArM st dsts)&&Afm dsts r.sets r.clr st 0&&r.fresh.all (fun k=>decide (ngiven<=k))&&
 r.Gc.all (Aoq ngiven)&&(!d||Z5 r.ops anc r.ops 0)
section
variable {P:Program} {F:Fr} {st:List Tmp} {nt:Nat} {β:Nat->Base} {own:Nat->Option (Nat×List Nat)} {s:St} {a:Act} {w:World}
theorem AdC {Ae:Nat->Option FuncId} {takes:List Nat} {dsts:List (Option Tmp)} {anc:Nat->Nat->Bool} {d:Bool}:∀ {rops:List I7} {ol:List Oper} {q:Nat},Aou P Ae takes st nt dsts anc d rops ol q=true->
 rops.length=ol.length/\∀(i:Nat) (rop:I7),rops[i]? =some rop->∃o,ol[i]? =some o/\opB P Ae takes st nt dsts anc (q+i) rop o=true/\(d=true->Aqx rop=true/\preB o (q+i)=true)
 | [],[],q,_=>by simp
 | [],_::_,q,h=>by cases h
 | _::_,[],q,h=>by cases h
 | rop::r,o::t,q,h=>by
  simp only[Aou,Bool.and_eq_true,Bool.or_eq_true,Bool.not_eq_true']at h
  obtain⟨h1,h2⟩:=AdC h.2
  refine⟨by simp[h1],?_⟩
  intro i rop' hi
  cases i with
  | zero=>
   simp at hi;subst hi
   refine⟨o,by simp,h.1.1,fun hd=> ?_⟩
   rcases h.1.2 with h3 | h3
   ·rw[hd]at h3;cases h3
   ·exact h3
  | succ i=>
   obtain⟨o',g1,g2,g3⟩:=h2 i rop' (by simpa using hi)
   refine⟨o',by simpa using g1,?_,?_⟩
   ·rwa [show q+(i+1)=q+1+i by omega]
   ·rwa [show q+(i+1)=q+1+i by omega]
theorem Rb:∀ {l:List (Option Tmp)},Aes (l.filterMap id)=true->∀(i j:Nat) (t:Tmp),l[i]? =some (some t)->l[j]? =some (some t)->i=j
 | [],_,i,j,t,h,_=>by simp at h
 | none::l,hn,i,j,t,hi,hj=>by
  cases i with
  | zero=>simp at hi
  | succ i=>
   cases j with
   | zero=>simp at hj
   | succ j=>
    have:=Rb (l:=l) (by simpa using hn) i j t (by simpa using hi) (by simpa using hj)
    omega
 | some a::l,hn,i,j,t,hi,hj=>by
  simp only[List.filterMap_cons,id,Aes,Bool.and_eq_true,Bool.not_eq_true']at hn
  have hmem:∀(m:Nat),l[m]? =some (some a)->False:=by
   intro m hm
   have:a∈l.filterMap id:=List.mem_filterMap.2 ⟨some a,List.mem_of_getElem? hm,rfl⟩
   have h2:(l.filterMap id).contains a=true:=by simpa using this
   rw[hn.1]at h2;cases h2
  cases i with
  | zero=>
   simp at hi;subst hi
   cases j with
   | zero=>rfl
   | succ j=>exact(hmem j (by simpa using hj)).elim
  | succ i=>
   cases j with
   | zero=>simp at hj;subst hj;exact(hmem i (by simpa using hi)).elim
   | succ j=>
    have:=Rb (l:=l) hn.2 i j t (by simpa using hi) (by simpa using hj)
    omega
theorem XW {dsts:List (Option Tmp)} {sets:List (Nat×Nat)} {clr:List Nat}:∀ {st:List Tmp} {q:Nat},Afm dsts sets clr st q=true->∀(i:Nat) (t:Tmp),st[i]? =some t->
 dsts.contains (some t)=false∨(∃j,(q+i,j)∈sets)∨q+i∈clr
 | [],q,_,i,t,hi=>by simp at hi
 | t'::r,q,h,i,t,hi=>by
  simp only[Afm,Bool.and_eq_true,Bool.or_eq_true,Bool.not_eq_true',List.any_eq_true,beq_iff_eq,List.contains_iff_mem]at h
  cases i with
  | zero=>
   simp at hi;subst hi
   rcases h.1 with(h1 | ⟨p,h1,h2⟩) | h1
   ·exact .inl h1
   ·exact .inr (.inl ⟨p.2,by rw[Nat.add_zero,<-h2];exact h1⟩)
   ·exact .inr (.inr h1)
  | succ i=>
   have:=XW h.2 i t (by simpa using hi)
   rwa [show q+1+i=q+(i+1)by omega]at this
theorem Aa7 {all:List I7} {anc:Nat->Nat->Bool} {q:Nat} {rq:I7}:∀ {l:List I7} {j0:Nat},Aj2 all anc q rq l j0=true->∀(j:Nat) (rj:I7),l[j]? =some rj->
 ∀k,(k∈rq.om/\k∈rj.tau.getD []/\OD all rj k=false∨k∈rq.tau.getD []/\k∈rj.om/\OD all rq k=false)->anc (j0+j) q=true
 | [],j0,_,j,rj,hj,_,_=>by simp at hj
 | r1::l,j0,h,j,rj,hj,k,hk=>by
  simp only[Aj2,Bool.and_eq_true,Bool.or_eq_true,Bool.not_eq_true',List.any_eq_false,List.contains_iff_mem,not_and]at h
  cases j with
  | zero=>
   simp at hj;subst hj
   rcases h.1 with h1 | h1
   ·rcases hk with hk | hk
    ·exact absurd hk.2.2 (h1.1 k hk.1 hk.2.1)
    ·exact absurd hk.2.2 (h1.2 k hk.2.1 hk.1)
   ·exact h1
  | succ j=>
   have:=Aa7 h.2 j rj (by simpa using hj) k hk
   rwa [show j0+1+j=j0+(j+1)by omega]at this
theorem X0 {all:List I7} {anc:Nat->Nat->Bool}:∀ {l:List I7} {q0:Nat},Z5 all anc l q0=true->∀(i j:Nat) (ri rj:I7),i<j->l[i]? =some ri->l[j]? =some rj->
 ∀k,(k∈ri.om/\k∈rj.tau.getD []/\OD all rj k=false∨k∈ri.tau.getD []/\k∈rj.om/\OD all ri k=false)->anc (q0+j) (q0+i)=true
 | [],q0,_,i,j,ri,rj,_,hi,_,_,_=>by simp at hi
 | r1::l,q0,h,i,j,ri,rj,hij,hi,hj,k,hk=>by
  simp only[Z5,Bool.and_eq_true]at h
  cases j with
  | zero=>omega
  | succ j=>
   cases i with
   | zero=>
    simp at hi;subst hi
    have:=Aa7 h.1 j rj (by simpa using hj) k hk
    rwa [show q0+1+j=q0+(j+1)by omega]at this
   | succ i=>
    have:=X0 h.2 i j ri rj (by omega) (by simpa using hi) (by simpa using hj) k hk
    rwa [show q0+1+j=q0+(j+1)by omega,show q0+1+i=q0+(i+1)by omega]at this
theorem Adu {acc:List Nat}:∀(es:List Edge) (m j:Nat),(es.foldl (fun m e=>if Region.binds .any e then m|||(1 <<< e.on)|||acc.getD e.on 0 else m) m).testBit j=true->
 m.testBit j=true∨∃e,e∈es/\Region.binds .any e=true/\(e.on=j∨(acc.getD e.on 0).testBit j=true)
 | [],m,j,h=> .inl h
 | e::es,m,j,h=>by
  simp only[List.foldl_cons]at h
  rcases Adu es _ j h with h1 | ⟨e',h1,h2,h3⟩
  ·split at h1
   ·rename_i hb
    simp only[Nat.testBit_or,Bool.or_eq_true]at h1
    rcases h1 with(h1 | h1) | h1
    ·exact .inl h1
    ·refine .inr ⟨e,by simp,hb,.inl ?_⟩
     rw[Nat.one_shiftLeft,Nat.testBit_two_pow]at h1
     simpa using h1
    ·exact .inr ⟨e,by simp,hb,.inr h1⟩
   ·exact .inl h1
  ·exact .inr ⟨e',by simp[h1],h2,h3⟩
theorem Ab0:∀(ol:List Oper) (acc:List Nat),(∀(i:Nat),i<acc.length->(SV ol acc)[i]? =acc[i]?)/\
 ∀(i:Nat) (o:Oper),ol[i]? =some o->∀j,((SV ol acc).getD (acc.length+i) 0).testBit j=true->
  ∃e,e∈o.after/\Region.binds .any e=true/\(e.on=j∨((SV ol acc).getD e.on 0).testBit j=true)
 | [],acc=>⟨fun _ _=>rfl,by simp⟩
 | o::r,acc=>by
  obtain⟨h1,h2⟩:=Ab0 r (acc++ [o.after.toList.foldl (fun m e=>if Region.binds .any e then m|||(1 <<< e.on)|||acc.getD e.on 0 else m) 0])
  refine⟨fun i hi=> ?_,?_⟩
  ·have:=h1 i (by simp;omega)
   rw[List.getElem?_append_left hi]at this
   exact this
  ·intro i o' hi j hj
   cases i with
   | zero=>
    simp at hi;subst hi
    have hrow:=h1 acc.length (by simp)
    rw[List.getElem?_append_right (Nat.le_refl _)]at hrow
    simp only[Nat.sub_self,List.getElem?_cons_zero]at hrow
    have hj':((o.after.toList.foldl (fun m e=>if Region.binds .any e then m|||(1 <<< e.on)|||acc.getD e.on 0 else m) 0)).testBit j=true:=by
     have h3:(SV (o::r) acc)[acc.length]? =_:=hrow
     rw[Nat.add_zero,List.getD_eq_getElem?_getD,h3]at hj
     exact hj
    rcases Adu _ 0 j hj' with h4 | ⟨e,h4,h5,h6⟩
    ·simp at h4
    ·refine⟨e,Array.mem_toList_iff.1 h4,h5,?_⟩
     rcases h6 with h6 | h6
     ·exact .inl h6
     ·right
      have hlt:e.on<acc.length:=by
       rcases Nat.lt_or_ge e.on acc.length with h | h
       ·exact h
       ·rw[List.getD_eq_getElem?_getD,List.getElem?_eq_none h]at h6;simp at h6
      have:=h1 e.on (by simp;omega)
      rw[List.getElem?_append_left hlt]at this
      show((SV r _).getD e.on 0).testBit j=true
      rw[List.getD_eq_getElem?_getD,this,<-List.getD_eq_getElem?_getD]
      exact h6
   | succ i=>
    have:=h2 i o' (by simpa using hi) j (by
     rw[show(acc++ [o.after.toList.foldl (fun m e=>if Region.binds .any e then m|||(1 <<< e.on)|||acc.getD e.on 0 else m) 0]).length+i=acc.length+(i+1)by simp;omega]
     exact hj)
    exact this
end
end Go.Eng
namespace Go.Eng
theorem Xz (vals:List V):∀(l:List (Nat×Nat)) (env:List V) (i:Nat),(∃j,(i,j)∈l/\(sets vals env l).getD i .undef=vals.getD j .undef)∨
 ((sets vals env l).getD i .undef=env.getD i .undef/\∀j,(i,j)∉l)∨(sets vals env l).getD i .undef= .undef
 | [],env,i=> .inr (.inl ⟨rfl,by simp⟩)
 | (k,j)::l,env,i=>by
  simp only[sets]
  rcases Xz vals l (env.set k (vals.getD j .undef)) i with⟨j',h1,h2⟩ | ⟨h1,h2⟩ | h1
  ·exact .inl ⟨j',by simp[h1],h2⟩
  ·by_cases hik:i=k
   ·subst hik
    rcases Nat.lt_or_ge i env.length with hl | hl
    ·refine .inl ⟨j,by simp,?_⟩
     rw[h1,List.getD_eq_getElem?_getD,List.getElem?_set_self hl]
     rfl
    ·refine .inr (.inr ?_)
     rw[h1,List.getD_eq_getElem?_getD,List.getElem?_eq_none (by simpa using hl)]
     rfl
   ·refine .inr (.inl ⟨?_,?_⟩)
    ·rw[h1,List.getD_eq_getElem?_getD,List.getElem?_set_ne (fun h=>hik h.symm),<-List.getD_eq_getElem?_getD]
    ·intro j' hj'
     rcases List.mem_cons.1 hj' with h | h
     ·cases h;exact hik rfl
     ·exact h2 j' h
  ·exact .inr (.inr h1)
theorem Aao:∀(l:List Nat) (env:List V) (i:Nat),(clear env l).getD i .undef=if i∈l then .undef else env.getD i .undef
 | [],env,i=>by simp[clear]
 | k::l,env,i=>by
  simp only[clear]
  rw[Aao l (env.set k .undef) i]
  by_cases hik:i=k
  ·subst hik
   simp only[List.mem_cons,true_or,if_true]
   split
   ·rfl
   ·rw[List.getD_eq_getElem?_getD,List.getElem?_set]
    simp
    split<;>rfl
  ·by_cases hil:i∈l
   ·simp[hil]
   ·simp only[List.mem_cons,hik,hil,or_self,if_false]
    rw[List.getD_eq_getElem?_getD,List.getElem?_set_ne (fun h=>hik h.symm),<-List.getD_eq_getElem?_getD]
section
variable {P:Program} {F:Fr} {st:List Tmp} {nt:Nat} {β:Nat->Base} {own:Nat->Option (Nat×List Nat)} {s:St} {a:Act} {w:World}
theorem AgJ {c:Cf} (hct:c.takes=F.takes) {dsts:List (Option Tmp)} {anc:Nat->Nat->Bool} {q:Nat} {rop:I7} {o:Oper} (h:opB P F.Ae F.takes st nt dsts anc q rop o=true) (hd:dsts[q]? =some o.dst):
 AeY P F c st nt dsts anc q rop o:=by
 simp only[opB,Bool.and_eq_true,Bool.or_eq_true,Bool.not_eq_true',beq_iff_eq]at h
 obtain⟨⟨⟨⟨h1,h2⟩,h3⟩,h4⟩,h5⟩:=h
 refine⟨by rw[hct];exact h1,h2,?_,hd,?_,?_⟩
 ·intro j t hg
  rw[hg]at h3
  simp only[Bool.and_eq_true]at h3
  refine⟨h3.1,?_⟩
  split at h3
  ·rename_i d hh;exact⟨d,hh⟩
  ·cases h3.2
 ·intro t ht
  rw[ht]at h4
  simpa using h4
 ·intro hn l hl s hs
  rcases h5 with h5 | h5
  ·rw[hn]at h5;cases h5
  ·rw[hl]at h5
   simp only[List.all_eq_true,List.contains_iff_mem]at h5
   exact h5 s (by rw[<-hct];exact hs)
theorem Akc (AhQ:P.follows .mixedOrders=true) {c:Cf} (hcb:c.bor=F.bor) (hct:c.takes=F.takes) {D:Dn} (hD:∀g a gi r o,D g a gi r o->Den P F.Ae F.G g a gi r o) (hF:∀g f,F.Ae g=some f->okF P f=true)
 {r:Ce} {d:Bool} {id:Nat} {ops:Array Oper} (hm:Aqq P F.Ae F.takes F.ngiven st nt r d ops=true) (rel:Rel F st nt β own s a w) {Qs:St->Prop} (h:AhA D c r Qs s) {Q:Exit->Act->World->Prop}
 (hQ:∀s' a' w' β' own',Qs s'->Rel F st nt β' own' s' a' w'->Q .normal a' w'):(Code.region id ops d).wp P Q a w:=by
 simp only[Aqq,Bool.and_eq_true,List.all_eq_true,decide_eq_true_eq]at hm
 obtain⟨⟨⟨⟨⟨⟨h1,h2⟩,h3⟩,h4⟩,h5⟩,h6⟩,h7⟩:=hm
 obtain⟨own1,rel1⟩:=XI rel h5
 generalize hdsts:ops.toList.map (·.dst)=dsts at *
 have hdd:∀j:Nat,dsts[j]? =(ops[j]?).map (·.dst):=by
  intro j;rw[<-hdsts];simp
 have huniq:=Rb h2
 obtain⟨hlen,hops⟩:=AdC h1
 simp only[Array.length_toList]at hlen
 have hlt:∀(j:Nat) (t:Tmp),dsts[j]? =some (some t)->t<nt:=by
  intro j t hj
  have hjo:j<ops.size:=by
   have:=(List.getElem?_eq_some_iff.1 hj).1
   rw[<-hdsts]at this;simpa using this
  obtain⟨rop,hrop⟩:∃rop,r.ops[j]? =some rop:=⟨r.ops[j]'(by omega),by simp⟩
  obtain⟨o,ho,hob,_⟩:=hops j rop hrop
  have hd:dsts[j]? =some o.dst:=by rw[hdd];simp at ho;simp[ho]
  rw[Nat.zero_add]at hob
  have so:=AgJ (c:=c) hct hob hd
  rw[hd]at hj
  exact so.lt t (by simpa using hj)
 have hstat:∀(i:Nat) (rop:I7),r.ops[i]? =some rop->∃o,ops[i]? =some o/\AeY P F c st nt dsts (if d then AmR (SV ops.toList [])else AfE) i rop o:=by
  intro i rop hi
  obtain⟨o,ho,hob,_⟩:=hops i rop hi
  rw[Nat.zero_add]at hob
  have ho':ops[i]? =some o:=by simpa using ho
  exact⟨o,ho',AgJ hct hob (by rw[hdd,ho'];rfl)⟩
 have hfin:∀ {vals':List V} {HL':List O} {a':Act} {w':World} {β':Nat->Base} {own':Nat->Option (Nat×List Nat)},
  (match Gc ⟨clear (sets vals' (Dp s r.fresh).env r.sets) r.clr,HL'⟩ r.Gc with | some s'=>Qs s' | none=>False)->
  At F st nt dsts (Dp s r.fresh).env β' own' (fun j=>vals'.getD j .undef) (fun j=>j<ops.size) (hp HL') a' w'->Q .normal a' w':=by
  intro vals' HL' a' w' β' own' hq at_
  have rel2:Rel F st nt β' own' ⟨clear (sets vals' (Dp s r.fresh).env r.sets) r.clr,HL'⟩ a' w':=by
   refine⟨at_.inv,?_,at_.nt,at_.defers⟩
   intro i t hi
   show VR F β' own' (hp HL') w' ((clear (sets vals' (Dp s r.fresh).env r.sets) r.clr).getD i .undef) _
   rw[Aao]
   split
   ·exact .undef
   rename_i hcl
   rcases Xz vals' r.sets (Dp s r.fresh).env i with⟨j,g1,g2⟩ | ⟨g1,g2⟩ | g1
   ·rw[g2]
    have hb:=h3 (i,j) g1
    simp only[ArM]at hb
    split at hb
    ·rename_i t1 t2 e1 e2
     have:t1=t2:=by simpa using hb
     subst this
     rw[hi]at e1;cases e1
     have hj:j<ops.size:=by
      have:=(List.getElem?_eq_some_iff.1 e2).1
      rw[<-hdsts]at this;simpa using this
     exact at_.loc j t hj e2
    ·cases hb
   ·rw[g1]
    refine at_.slot i t hi fun j hj hd=> ?_
    rcases XW h4 i t hi with g3 | ⟨j',g3⟩ | g3
    ·have:dsts.contains (some t)=true:=by simpa using List.mem_of_getElem? hd
     rw[g3]at this;cases this
    ·rw[Nat.zero_add]at g3;exact g2 j' g3
    ·rw[Nat.zero_add]at g3;exact hcl g3
   ·rw[g1];exact .undef
  split at hq
  ·rename_i s' hs'
   obtain⟨β2,own2,rel3⟩:=AaN rel2 (by simpa[List.all_eq_true]using h6) hs'
   exact hQ s' a' w' β2 own2 hq rel3
  ·exact hq.elim
 have h':Dk D c (Dp s r.fresh).env r.ops [] (Dp s r.fresh).H (fun vals H=>match Gc ⟨clear (sets vals (Dp s r.fresh).env r.sets) r.clr,H⟩ r.Gc with | some s'=>Qs s' | none=>False):=h
 have at0:∀(wd:World),wd.heap=w.heap->wd.os=w.os->wd.tape=w.tape->wd.output=w.output->∀(S:Nat->Prop) (vals:Nat->V),(∀j,¬S j)->
  At F st nt dsts (Dp s r.fresh).env β own1 vals S (hp (Dp s r.fresh).H) a wd:=by
  intro wd e1 e2 e3 e4 S vals hS
  have stp:=Step.refl' rel1.inv e1 e2 e3 e4
  exact⟨stp.inv rel1.inv (fun _ h=>by simp at h) (fun _ h=>by simp at h),fun j t hj _=>absurd hj (hS j),fun i t hi _=>stp.vr rel1.inv (rel1.env i t hi),rel1.nt,rel1.defers⟩
 cases d with
 | false=>
  refine wp_region ?_
  have:=run_text (F:=F) (st:=st) (nt:=nt) (dsts:=dsts) (env:=(Dp s r.fresh).env) hcb hct hD hF hdd huniq hlt (Q:=Q) (Qs:=fun vals H=>match Gc ⟨clear (sets vals (Dp s r.fresh).env r.sets) r.clr,H⟩ r.Gc with | some s'=>Qs s' | none=>False)
   (fun vals' HL' a' w' β' own' _ hq at_=>hfin hq at_) r.ops [] (Dp s r.fresh).H a w β own1 (fun i rop hi=>by
    have:=hstat i rop hi
    simpa using this) (by simpa using hlen) (at0 w rfl rfl rfl rfl _ _ (by simp)) h'
  rw[List.range_eq_range']
  simpa[hlen]using this
 | true=>
  refine wp_region_any AhQ ?_
  obtain⟨vs,us,t1,t2,t3,t4⟩:=trace h'
  have sr:Apt ops r.ops (AmR (SV ops.toList [])):=by
   obtain⟨_,g2⟩:=Ab0 ops.toList []
   refine⟨hlen,?_,?_,?_,?_⟩
   ·intro q o ho j hj
    obtain⟨e,p1,p2,p3⟩:=g2 q o (by simpa using ho) j (by simpa[AmR]using hj)
    exact⟨e,p1,p2,p3⟩
   ·intro q o ho e he hb
    have hq:q<ops.size:=(Array.getElem?_eq_some_iff.1 ho).1
    obtain⟨rop,hrop⟩:∃rop,r.ops[q]? =some rop:=⟨r.ops[q]'(by omega),by simp⟩
    obtain⟨o',ho',_,hp⟩:=hops q rop hrop
    have:o' =o:=by
     have h8:ops[q]? =some o':=by simpa using ho'
     rw[ho]at h8;cases h8;rfl
    subst this
    have hpre:=(hp rfl).2
    simp only[preB,List.all_eq_true,Bool.or_eq_true,Bool.not_eq_true',decide_eq_true_eq]at hpre
    rcases hpre e (Array.mem_toList_iff.2 he)with h8 | h8
    ·rw[hb]at h8;cases h8
    ·omega
   ·intro q rop hrop
    obtain⟨o',ho',_,hp⟩:=hops q rop hrop
    have ht:=(hp rfl).1
    unfold Aqx at ht
    split at ht
    ·rename_i t hh
     simp only[List.all_eq_true,List.contains_iff_mem]at ht
     exact⟨t,hh,ht⟩
    ·cases ht
   ·intro i j ri rj hij hi hj k hk
    have h8:Z5 r.ops (AmR (SV ops.toList [])) r.ops 0=true:=by
     rcases h7 with h7
     simpa using h7
    have:=X0 h8 i j ri rj hij hi hj k hk
    simpa using this
  have hunl:unl ops.size (Array.replicate ops.size false)<=ops.size:=by
   unfold unl
   have:=List.countP_le_length (p:=fun j=> !(Array.replicate ops.size false).getD j false) (l:=List.range ops.size)
   simpa using this
  have hfalse:∀j,¬(Array.replicate ops.size false).getD j false=true:=by
   intro j
   rw[Array.getD_eq_getD_getElem?]
   by_cases hj:j<ops.size<;>simp[hj]
  refine Akf (F:=F) (st:=st) (nt:=nt) (dsts:=dsts) (env:=(Dp s r.fresh).env) hcb hct hD hF hdd huniq hlt sr hstat t1 t2 (HL:=(Dp s r.fresh).H) (fun i rop hi=>by simpa using t4 i rop hi) (Q:=Q)
   (fun a' w' β' own' at_=>hfin (vals':=vs) (HL':=Gx (Dp s r.fresh).H us) (by simpa using t3) at_) ops.size (Array.replicate ops.size false) a _ β own1 (hp (Dp s r.fresh).H) (by simp) hunl
   (fun j i hj _=>absurd hj (hfalse j)) (at0 {w with drawn:=w.drawn+1} rfl rfl rfl rfl _ _ hfalse) ?_ (fun _ _=>rfl)
  have hom:∀j,∀k,k∈(us.getD j []).map (·.1)->k∈PI r.ops j:=by
   intro j k hk
   cases hj:r.ops[j]? with
   | none=>
    have:us[j]? =none:=by rw[List.getElem?_eq_none_iff]at hj⊢;omega
    simp[List.getD_eq_getElem?_getD,this]at hk
   | some rop=>
    have tr:=t4 j rop hj
    have hgo:okU rop.tau rop.om (hp (Gx (Dp s r.fresh).H (us.take j))) (us.getD j [])=true->k∈PI r.ops j:=by
     intro h
     obtain⟨t,ht,_⟩:=sr.tau j rop hj
     rw[ht]at h
     simp only[okU,List.all_eq_true,Bool.and_eq_true,List.contains_iff_mem]at h
     obtain⟨p,hp',hpk⟩:=List.mem_map.1 hk
     have:=(h p hp').1
     rw[hpk]at this
     simpa[PI,hj]using this
    cases hg:rop.guard with
    | none=>exact hgo (by simpa using(tr.go (.inl hg)).2)
    | some g=>
     obtain⟨jj,t⟩:=g
     rcases tr.skip jj t hg with⟨b,hb,hs⟩ | ⟨_,_,hu⟩
     ·by_cases hbt:b=t
      ·subst hbt
       exact hgo (by simpa using(tr.go (.inr ⟨jj,b,hg,by simpa using hb⟩)).2)
      ·rw[(hs hbt).2]at hk;simp at hk
     ·rw[hu]at hk;simp at hk
  have ag:=Agree.start (om:=PI r.ops) (n:=ops.size) (HL:=(Dp s r.fresh).H) (us:=us) (by rw[t2,hlen]) hom
  intro i k hi hc
  exact ag i k hi fun j hj hk=>⟨fun h=>h.elim,fun h=>(hfalse j ((hc j hj hk).2 h)).elim⟩
end
end Go.Eng
namespace Go.Eng
section
variable {P:Program} {F:Fr} {β:Nat->Base} {own:Nat->Option (Nat×List Nat)} {H:Hp} {w w':World}
abbrev AmT (F:Fr) (own:Nat->Option (Nat×List Nat)) (w:World) (q:List Nat) (v':V) (x:Value) (t:Nat) (ks:List Nat):Prop:=
 ∃μ:Nat->List Nat,(∀k1,∃r,μ k1=q++r)/\
  ∀ {own':Nat->Option (Nat×List Nat)} {w':World} {S':Nat->Nat->Prop} {lim k:Nat} {μ':Nat->List Nat},t<=lim->(∀k1,k1∈ks->μ' k1=μ k1)->
   Moved F own w own' w' S' t ks k μ'->Ow F.Ae w' own' S' lim k q v' x
theorem Xl {o:O} (h:(Ac o).isSome=true):alive o=true:=by cases o<;>simp_all[Ac,alive]
theorem AaJ (inv:Inv F β own H w) {Hm:Hp} (hm:∀k,Hm k=H k∨Hm k= .dead) {v v':V} {x:Value} {t:Nat} {ks:List Nat} (hv:VR F β own H w v x)
 (h:Agk Hm v=some (v',t,ks)) (q:List Nat):(∀k1,k1∈ks->alive (Hm k1)=true)/\ks.Nodup/\AmT F own w q v' x t ks:=by
 have atom:MX Hm v=some (v',t,ks)->(∀k1,k1∈ks->alive (Hm k1)=true)/\ks.Nodup/\AmT F own w q v' x t ks:=by
  intro h
  obtain⟨a1,a2,a3,a4⟩:=AaF inv hm hv h
  refine⟨fun k1 hk=>Xl (a1 k1 hk),a2,fun _=>q,fun _=>⟨[],by simp⟩,?_⟩
  intro own' w' S' lim k μ' hl hμ mv
  exact a4 hl hμ mv
 unfold Agk at h
 split at h
 ·rename_i cs
  split at h
  ·rename_i cs' t' ks' hg
   cases h
   cases hv with
   | @agg _ vs h1 hvl hc=>
    obtain⟨b1,b2,b3,b4,μ,b5,b6⟩:=Px inv 0 q hm ⟨hvl,hc⟩ hg
    refine⟨fun k1 hk=>Xl (b1 k1 hk),b2,μ,fun k1=> ?_,?_⟩
    ·obtain⟨i,hi⟩:=b5 k1
     exact⟨[0+i],hi⟩
    ·intro own' w' S' lim k μ' hl hμ mv
     refine .agg h1 (by rw[hvl,b4]) fun i v x hv hx=> ?_
     have:=b6 (lim:=lim) (k:=k) hl hμ mv i v x hv hx
     rwa [Nat.zero_add]at this
  ·cases h
 ·rename_i k
  split at h
  ·rename_i cs hc
   split at h
   ·rename_i cs' t' ks' hg
    cases h
    have hk:H k= .var cs:=by
     rcases hm k with g | g
     ·rw[<-g];exact hc
     ·rw[g]at hc;cases hc
    have ho:=inv.objs k
    rw[hk]at ho
    obtain⟨b,o,vs,g1,g2,g3,g4,g5⟩:=ho
    obtain⟨b1,b2,b3,b4,μ,b5,b6⟩:=Px inv 0 q (PS hm [k]) ⟨g3,g5⟩ hg
    have hkk:∀k1,k1∈ks'->k1≠k/\alive (Hm k1)=true:=by
     intro k1 hk1
     obtain⟨r,hr⟩:=Option.isSome_iff_exists.1 (b1 k1 hk1)
     obtain⟨p1,p2⟩:=Gs hr
     exact⟨by simpa using p1,Xl (by rw[p2];rfl)⟩
    refine⟨?_,?_,fun k1=>if k1=k then q else μ k1,?_,?_⟩
    ·intro k1 hk1
     rcases List.mem_cons.1 hk1 with h | h
     ·subst h;rw[hc];rfl
     ·exact(hkk k1 h).2
    ·simp only[List.nodup_cons]
     exact⟨fun h=>(hkk k h).1 rfl,b2⟩
    ·intro k1
     dsimp only
     split
     ·exact⟨[],by simp⟩
     ·obtain⟨i,hi⟩:=b5 k1
      exact⟨[0+i],hi⟩
    ·intro own' w' S' lim kk μ' hl hμ mv
     cases hv with
     | goneP h=>rw[hk]at h;cases h
     | @ptr _ _ b' o' h1 h2=>
      rw[g1]at h2;cases h2
      have hlk:=mv.lab b k [] (by simp) g2
      rw[hμ k (by simp)]at hlk;dsimp only at hlk;rw[if_pos rfl,List.append_nil]at hlk
      refine .ptr (vs:=vs) (by rw[b4];exact g3) hlk.1 (EU g4 hlk.2) fun i v x hv hx=> ?_
      have:=b6 (lim:=lim) (k:=kk) (μ':=μ') hl (fun k1 hk1=>by rw[hμ k1 (by simp[hk1])];dsimp only;rw[if_neg (hkk k1 hk1).1]) (mv.sub (fun k1 hk1=>by simp[hk1]) (Nat.le_refl _)) i v x hv hx
      rwa [Nat.zero_add]at this
   ·cases h
  ·cases h
 ·exact atom h
theorem Pd {Hm:Hp} {ks:List Nat} {k:Nat} (h:alive (BK ks Hm k)=true):k∉ks/\alive (Hm k)=true:=by
 obtain⟨h1,h2⟩:=AaV h
 exact⟨h1,by rw[<-h2];exact h⟩
theorem AfL (inv:Inv F β own H w):∀ {vs vs':List V} {xs:List Value} {Hm:Hp} {t:Nat} {ks:List Nat} (i0:Nat),(∀k,Hm k=H k∨Hm k= .dead)->
 Pw (VR F β own H w) vs xs->AaK Hm vs=some (vs',t,ks)->(∀k1,k1∈ks->alive (Hm k1)=true)/\ks.Nodup/\vs'.length=vs.length/\∃μ:Nat->List Nat,
 ∀ {own':Nat->Option (Nat×List Nat)} {w':World} {S':Nat->Nat->Prop} {lim k:Nat} {μ':Nat->List Nat},t<=lim->(∀k1,k1∈ks->μ' k1=μ k1)->
  Moved F own w own' w' S' t ks k μ'->∀(i:Nat) (v:V) (x:Value),vs'[i]? =some v->xs[i]? =some x->Ow F.Ae w' own' S' lim k [i0+i] v x:=by
 intro vs
 induction vs with
 | nil=>
  intro vs' xs Hm t ks i0 hm hv h
  cases h
  rw[hv.N8]
  exact⟨by simp,by simp,rfl,fun _=> [],by simp⟩
 | cons v r ih=>
  intro vs' xs Hm t ks i0 hm hv h
  obtain⟨x,xr,rfl,hvx,hr⟩:=hv.Nf
  simp only[AaK]at h
  split at h
  ·cases h
  ·rename_i v1 t1 ks1 h1
   split at h
   ·cases h
   ·rename_i r2 t2 ks2 h2
    cases h
    obtain⟨a1,a2,μ1,_,a4⟩:=AaJ inv hm hvx h1 [i0]
    obtain⟨b1,b2,b3,μ2,b4⟩:=ih (i0+1) (PS hm ks1) hr h2
    refine⟨?_,?_,by simp[b3],fun k1=>if k1∈ks1 then μ1 k1 else μ2 k1,?_⟩
    ·intro k1 hk1
     rcases List.mem_append.1 hk1 with g | g
     ·exact a1 k1 g
     ·exact(Pd (b1 k1 g)).2
    ·rw[List.nodup_append]
     exact⟨a2,b2,fun a ha b hb hab=>(Pd (b1 b hb)).1 (hab▸ha)⟩
    ·intro own' w' S' lim k μ' hl hμ mv i u y hu hy
     cases i with
     | zero=>
      simp at hu hy;subst hu;subst hy
      exact a4 (μ':=μ') (by omega) (fun k1 hk1=>by rw[hμ k1 (by simp[hk1])];dsimp only;rw[if_pos hk1]) (mv.sub (by simp;intro k hk;exact .inl hk) (by omega))
     | succ i=>
      have:=b4 (own':=own') (w':=w') (S':=S') (lim:=lim) (k:=k) (μ':=μ') (by omega) (fun k1 hk1=>by rw[hμ k1 (by simp[hk1])];dsimp only;rw[if_neg (Pd (b1 k1 hk1)).1])
       (mv.sub (by simp;intro k hk;exact .inr hk) (by omega)) i u y (by simpa using hu) (by simpa using hy)
      rw[show i0+(i+1)=i0+1+i by omega];exact this
theorem AlE (inv:Inv F β own H w) {Hm:Hp} (hm:∀k,Hm k=H k∨Hm k= .dead) {v v':V} {x:Value} {t:Nat} {ks:List Nat} (hv:VR F β own H w v x)
 (h:give Hm v=some (v',t,ks)):(∀k1,k1∈ks->alive (Hm k1)=true)/\ks.Nodup/\∃μ:Nat->List Nat,
 ∀ {own':Nat->Option (Nat×List Nat)} {w':World} {S':Nat->Nat->Prop} {lim k:Nat} {μ':Nat->List Nat},t<=lim->(∀k1,k1∈ks->μ' k1=μ k1)->
  Moved F own w own' w' S' t ks k μ'->Ow F.Ae w' own' S' lim k [] v' x:=by
 unfold give at h
 split at h
 ·split at h
  ·rename_i vs vs' t' ks' hg
   cases h
   cases hv with
   | tup hvl hc=>
    obtain⟨b1,b2,b3,μ,b4⟩:=AfL inv 0 hm ⟨hvl,hc⟩ hg
    refine⟨b1,b2,μ,?_⟩
    intro own' w' S' lim k μ' hl hμ mv
    refine .tup (by rw[hvl,b3]) fun i v x hv hx=> ?_
    have:=b4 (lim:=lim) (k:=k) hl hμ mv i v x hv hx
    simpa using this
  ·cases h
 ·obtain⟨a1,a2,μ,_,a4⟩:=AaJ inv hm hv h []
  exact⟨a1,a2,μ,a4⟩
end
end Go.Eng
namespace Go.Eng
def Io (P:Program) (Ae:Nat->Option FuncId) (takes:List Nat) (ngiven:Nat) (st:List Tmp) (nt:Nat):SC->Code->Bool
 | .skip,.skip=>true
 | .reg r,.region _ ops d=>Aqq P Ae takes ngiven st nt r d ops
 | .seq a b,.seq x y=>Io P Ae takes ngiven st nt a x&&Io P Ae takes ngiven st nt b y
 | .cond k a b,.cond (.tmp t) x y=>st[k]? ==some t&&Io P Ae takes ngiven st nt a x&&Io P Ae takes ngiven st nt b y
 | .block id a,.block id' x=>id==id'&&Io P Ae takes ngiven st nt a x
 | .loop a,.loop x=>Io P Ae takes ngiven st nt a x
 | .exit id,.exit id'=>id==id'
 | .ret,.ret=>true
 | .stuck,_=>true
 | _,_=>false
def AqB:Out->Exit
 | .normal=> .normal
 | .exit id=> .exit id
 | .ret=> .ret
section
variable {P:Program} {F:Fr} {st:List Tmp} {nt:Nat}
theorem AiI (AhQ:P.follows .mixedOrders=true) {c:Cf} (hcb:c.bor=F.bor) (hct:c.takes=F.takes) {D:Dn} (hD:∀g a gi r o,D g a gi r o->Den P F.Ae F.G g a gi r o) (hF:∀g f,F.Ae g=some f->okF P f=true):
 ∀(sc:SC) (code:Code) {β:Nat->Base} {own:Nat->Option (Nat×List Nat)} {s:St} {a:Act} {w:World} {Qs:Out->St->Prop} {Q:Exit->Act->World->Prop},Io P F.Ae F.takes F.ngiven st nt sc code=true->
  Rel F st nt β own s a w->swp D c sc Qs s->(∀o s' a' w' β' own',Qs o s'->Rel F st nt β' own' s' a' w'->Q (AqB o) a' w')->code.wp P Q a w:=by
 intro sc
 induction sc with
 | skip=>
  intro code β own s a w Qs Q hm rel h hQ
  cases code<;>simp only[Io,Bool.false_eq_true]at hm
  exact wp_skip (hQ .normal s a w β own h rel)
 | reg r=>
  intro code β own s a w Qs Q hm rel h hQ
  cases code<;>simp only[Io,Bool.false_eq_true]at hm
  exact Akc AhQ hcb hct hD hF hm rel h (fun s' a' w' β' own' hq r'=>hQ .normal s' a' w' β' own' hq r')
 | seq x y ihx ihy=>
  intro code β own s a w Qs Q hm rel h hQ
  cases code<;>simp only[Io,Bool.false_eq_true,Bool.and_eq_true]at hm
  refine wp_seq (ihx _ hm.1 rel h ?_)
  intro o s' a' w' β' own' hq r'
  cases o with
  | normal=>exact ihy _ hm.2 r' hq hQ
  | exit id=>exact hQ (.exit id) s' a' w' β' own' hq r'
  | ret=>exact hQ .ret s' a' w' β' own' hq r'
 | cond k x y ihx ihy=>
  intro code β own s a w Qs Q hm rel h hQ
  cases code with
  | cond cc x' y'=>
   cases cc with
   | tmp t=>
    simp only[Io,Bool.and_eq_true,beq_iff_eq]at hm
    have hv:=rel.env k t hm.1.1
    have h':(match s.env.getD k .undef with
     | .sc (.bool t)=>if t then swp D c x Qs ⟨s.env.set k .undef,s.H⟩else swp D c y Qs ⟨s.env.set k .undef,s.H⟩
     | _=>False):=h
    have rel':Rel F st nt β own ⟨s.env.set k .undef,s.H⟩ a w:=by
     refine⟨rel.inv,fun i t' hi=> ?_,rel.nt,rel.defers⟩
     dsimp only
     by_cases hik:i=k
     ·subst hik
      have:(s.env.set i V.undef).getD i .undef= .undef:=by
       rw[List.getD_eq_getElem?_getD,List.getElem?_set]
       simp
       split<;>rfl
      rw[this];exact .undef
     ·rw[List.getD_eq_getElem?_getD,List.getElem?_set_ne (fun h=>hik h.symm),<-List.getD_eq_getElem?_getD]
      exact rel.env i t' hi
    split at h'
    ·rename_i b hb
     rw[hb]at hv
     have he:=JE hv
     refine wp_cond (t:=b) he ?_
     cases b with
     | true=>exact ihx _ hm.1.2 rel' (by simpa using h') hQ
     | false=>exact ihy _ hm.2 rel' (by simpa using h') hQ
    ·exact h'.elim
   | _=>simp only[Io,Bool.false_eq_true]at hm
  | _=>simp only[Io,Bool.false_eq_true]at hm
 | block id x ihx=>
  intro code β own s a w Qs Q hm rel h hQ
  cases code<;>simp only[Io,Bool.false_eq_true,Bool.and_eq_true,beq_iff_eq]at hm
  obtain⟨rfl,hm⟩:=hm
  refine wp_block (ihx _ hm rel h ?_)
  intro o s' a' w' β' own' hq r'
  cases o with
  | normal=>exact hQ .normal s' a' w' β' own' hq r'
  | exit i=>
   show Exit.inBlock _ Q (.exit i) a' w'
   simp only[Exit.inBlock]
   have hq':if i=id then Qs .normal s' else Qs (.exit i) s':=hq
   split at hq'
   ·rename_i hi;rw[if_pos hi];exact hQ .normal s' a' w' β' own' hq' r'
   ·rename_i hi;rw[if_neg hi];exact hQ (.exit i) s' a' w' β' own' hq' r'
  | ret=>exact hQ .ret s' a' w' β' own' hq r'
 | loop x ihx=>
  intro code β own s a w Qs Q hm rel h hQ
  cases code<;>simp only[Io,Bool.false_eq_true]at hm
  rename_i body
  obtain⟨n,h⟩:=h
  intro b k cs
  have key:∀(n:Nat) {β:Nat->Base} {own:Nat->Option (Nat×List Nat)} {s:St} {a:Act} {w:World},Rel F st nt β own s a w->
   Nat.rec (motive:=fun _=>St->Prop) (fun _=>False) (fun _ ih s=>swp D c x (fun o s'=>match o with | .normal=>ih s' | o=>Qs o s') s) n s->
   ∃e a' w',Q e a' w'/\Arrives P (lone (b.at a (.code body:: .inLoop body::k)) cs w) b k cs e a' w':=by
   intro n
   induction n with
   | zero=>intro β own s a w _ h;exact h.elim
   | succ n ih=>
    intro β own s a w rel h
    have hb:=ihx body (Q:=Exit.then (fun a' w'=>∃(s':St) (β':Nat->Base) (own':Nat->Option (Nat×List Nat)),Rel F st nt β' own' s' a' w'/\
     Nat.rec (motive:=fun _=>St->Prop) (fun _=>False) (fun _ ih s=>swp D c x (fun o s'=>match o with | .normal=>ih s' | o=>Qs o s') s) n s') Q) hm rel h (by
     intro o s' a' w' β' own' hq r'
     cases o with
     | normal=>exact⟨s',β',own',r',hq⟩
     | exit id=>exact hQ (.exit id) s' a' w' β' own' hq r'
     | ret=>exact hQ .ret s' a' w' β' own' hq r')
    obtain⟨e,a₁,w₁,hq,harr⟩:=hb b (.inLoop body::k) cs
    cases e with
    | normal=>
     obtain⟨s',β',own',r',hr⟩:=hq
     obtain⟨e₂,a₂,w₂,hq₂,harr₂⟩:=ih r' hr
     exact⟨e₂,a₂,w₂,hq₂,.of_steps (Steps.trans harr (.one step_inLoop)) harr₂⟩
    | exit id=>exact⟨_,a₁,w₁,hq,.pass (x:= .inLoop body) rfl (fun _ _=> .inl (by simp)) harr⟩
    | goto l=>exact⟨_,a₁,w₁,hq,.pass (x:= .inLoop body) rfl (fun _ _=> .inl (by simp)) harr⟩
    | ret=>exact⟨_,a₁,w₁,hq,.pass (x:= .inLoop body) rfl (fun _ _=> .inl (by simp)) harr⟩
    | panic ch=>exact⟨_,a₁,w₁,hq,.pass (x:= .inLoop body) rfl (fun _ _=> .inl (by simp)) harr⟩
    | outgrown=>exact⟨_,a₁,w₁,hq,.pass (x:= .inLoop body) rfl (fun _ _=> .inl (by simp)) harr⟩
  obtain⟨e,a',w',hq,harr⟩:=key n rel h
  exact⟨e,a',w',hq,.of_steps (.one step_loop) harr⟩
 | exit id=>
  intro code β own s a w Qs Q hm rel h hQ
  cases code<;>simp only[Io,Bool.false_eq_true,beq_iff_eq]at hm
  subst hm
  exact wp_exit (hQ (.exit id) s a w β own h rel)
 | ret=>
  intro code β own s a w Qs Q hm rel h hQ
  cases code<;>simp only[Io,Bool.false_eq_true]at hm
  exact wp_ret (hQ .ret s a w β own h rel)
 | stuck=>intro code β own s a w Qs Q hm rel h hQ;exact h.elim
end
end Go.Eng
namespace Go.Eng
def Wd (P:Program) (st:List Tmp):List Res->List ResultVar->Bool
 | [],[]=>true
 | .slot i::r,.tmp t::l=>st[i]? ==some t&&Wd P st r l
 | .cell i n::r,.cell t ty::l=>st[i]? ==some t&&nB P ty n&&Wd P st r l
 | _,_=>false
def CQ (P:Program) (Ae:Nat->Option FuncId) (st:List Tmp) (f:Cm) (fn:Func):Bool:=
 (match fn.body with | some code=>Io P Ae f.takes f.ngiven st fn.ntmps f.body code | none=>false)&&
 (f.params.zipIdx.all fun p=>st[p.1]? ==some p.2)&&decide (f.params.length<=fn.ntmps)&&Wd P st f.results fn.results.toList
theorem AmV (given:List O) (n:Nat):hp (given++List.replicate n .free)=hp given:=by
 funext k
 simp only[hp,List.getD_eq_getElem?_getD,List.getElem?_append]
 split
 ·rfl
 ·rename_i h
  rw[List.getElem?_eq_none (by omega:given.length<=k),List.getElem?_replicate]
  split<;>rfl
section
variable {P:Program} {F:Fr} {st:List Tmp} {nt:Nat} {β:Nat->Base} {own:Nat->Option (Nat×List Nat)} {H:Hp} {w:World}
def Fr.as (F:Fr) (bor:Bool) (takes:List Nat):Fr:={F with bor:=bor,takes:=takes}
theorem ApY (hb:F.bor=false) {bor:Bool} {takes:List Nat} {fl b:Nat} (h1:1<=fl) (h:F.S w own fl b):(F.as bor takes).S w own fl b:=by
 match fl,h1 with
 | 1,_=>exact h
 | 2,_=>have:=h.1;rw[hb]at this;cases this
 | 3,_=>exact h
 | n+4,_=>have:=h.1;rw[hb]at this;cases this
theorem App (hb:F.bor=false) {bor:Bool} {takes:List Nat} {v:V} {x:Value} (h:VR F β own H w v x):VR (F.as bor takes) β own H w v x:=by
 induction h with
 | sc h1=>exact .sc h1
 | nil e=>exact .nil e
 | rd h1 h=>exact .rd h1 (h.move (fun b hb'=>ApY hb h1 hb') (fun _ _=>rfl))
 | rptr h1 h=>exact .rptr h1 (h.move (fun b hb'=>ApY hb h1 hb') (fun _ _=>rfl))
 | arr h=>exact .arr h
 | sub h hn hx=>exact .sub h hn hx
 | ptr h hb'=>exact .ptr h hb'
 | goneA h=>exact .goneA h
 | goneS h=>exact .goneS h
 | goneP h=>exact .goneP h
 | fn hf hv hc ih=>exact .fn hf hv ih
 | agg h1 hv hc ih=>exact .agg h1 hv ih
 | tup hv hc ih=>exact .tup hv ih
 | undef=>exact .undef
theorem ArV (hb:F.bor=false) {bor:Bool} {takes:List Nat} {k:Nat} {B:Base} {e t len:Nat} {cs:List V} (h:AR F own w k B e t len cs):AR (F.as bor takes) own w k B e t len cs:=by
 obtain⟨vs,g1,g2,g3,g4,g5⟩:=h
 refine⟨vs,g1,g2,g3,g4,fun i v x hv hx=> ?_⟩
 exact(g5 i v x hv hx).move (Nat.le_refl _) (fun fl b h1 _ hs=>ApY hb h1 hs) (fun _ _ _ _ _=>rfl) (fun b q hb'=>⟨hb',rfl⟩)
theorem ApG (hb:F.bor=false) (ht:F.takes=[]) {bor:Bool} {takes:List Nat} (inv:Inv F β own H w):Inv (F.as bor takes) β own H w:=by
 refine⟨inv.size,inv.keep,inv.os,inv.tape,inv.output,inv.ownb,inv.glob,?_,inv.given,inv.gfree⟩
 intro k
 have ho:=inv.objs k
 cases hH:H k with
 | free=>trivial
 | dead=>trivial
 | var cs=>
  rw[hH]at ho
  obtain⟨b,o,vs,g1,g2,g3,g4,g5⟩:=ho
  exact⟨b,o,vs,g1,g2,g3,g4,fun i v x hv hx=>App hb (g5 i v x hv hx)⟩
 | arr e t len cs=>rw[hH]at ho;exact ArV hb ho
 | tarr k' off e t len cs=>
  rw[hH]at ho
  have:=ho.2.1
  rw[ht]at this;cases this
def Aoj (tmps:Array Value):ResultVar->Sem Value
 | .tmp t=>pure (tmps.getD t undef)
 | .cell a t=>do loadVar t (<-asAddr (tmps.getD a undef))
theorem AeB {β:Nat->Base} {own:Nat->Option (Nat×List Nat)} {s:St} {a:Act} {w:World} (rel:Rel F st nt β own s a w):∀ {rs:List Res} {ls:List ResultVar} {vs:List V},Wd P st rs ls=true->Tf s rs=some vs->
 ∃xs:List Value,(ls.mapM (Aoj a.tmps)).run P w= .ok xs w/\Pw (VR F β own (hp s.H) w) vs xs
 | [],[],vs,_,h=>by cases h;exact⟨[],by simp,.nil⟩
 | [],_::_,vs,hm,_=>by simp[Wd]at hm
 | .slot _::_,[],vs,hm,_=>by simp[Wd]at hm
 | .cell _ _::_,[],vs,hm,_=>by simp[Wd]at hm
 | .slot i::rs,.cell p ty::ls,vs,hm,_=>by simp[Wd]at hm
 | .cell i n::rs,.tmp t::ls,vs,hm,_=>by simp[Wd]at hm
 | .slot i::rs,.tmp t::ls,vs,hm,h=>by
  simp only[Wd,Bool.and_eq_true,beq_iff_eq]at hm
  simp only[Tf]at h
  split at h
  ·rename_i v l hv hl
   cases h
   obtain⟨xs,h1,h2⟩:=AeB rel hm.2 hl
   have:v=s.env.getD i .undef:=by simpa[Ang]using hv.symm
   subst this
   exact⟨a.tmps.getD t undef::xs,by rw[List.mapM_cons];simp only[Aoj,Sem.run_bind,Sem.run_pure,Result.andThen_ok,h1],.cons (rel.env i t hm.1) h2⟩
  ·cases h
 | .cell i n::rs,.cell p ty::ls,vs,hm,h=>by
  simp only[Wd,Bool.and_eq_true,beq_iff_eq]at hm
  simp only[Tf]at h
  split at h
  ·rename_i v l hv hl
   cases h
   obtain⟨xs,h1,h2⟩:=AeB rel hm.2 hl
   have henv:=rel.env i p hm.1.1
   have hload:X4 F.bor (hp s.H) n (s.env.getD i .undef)=some v:=by
    simp only[Ang]at hv
    split at hv
    ·rename_i k off hk
     rw[hk]
     split at hv
     ·rename_i cs hc
      simp only[X4,SL,hc,ER]
      have hlt:=(List.getElem?_eq_some_iff.1 hv)
      obtain⟨h3,h4⟩:=hlt
      rw[if_pos (by omega)]
      have:(cs.drop off).take 1=[v]:=by
       rw[<-h4]
       rw[List.drop_eq_getElem_cons h3,List.take_succ_cons,List.take_zero]
      rw[this]
     ·cases hv
    ·rename_i k off n' hk
     rw[hk]
     split at hv
     ·rename_i cs hc
      simp only[X4,SL,hc]
      split at hv
      ·rename_i c hg
       cases hv
       first | rw[hg] | rfl
      ·cases hv
     ·cases hv
    ·cases hv
   obtain⟨x,hx1,hx2⟩:=AjB (P:=P) rel.inv (fun k=> .inl rfl) hm.1.2 henv hload
   have hptr:∃ad,a.tmps.getD p undef= .pointer (some ad):=by
    generalize a.tmps.getD p undef=y at henv
    simp only[Ang]at hv
    split at hv
    ·rename_i k off hk
     rw[hk]at henv
     cases henv<;>exact⟨_,rfl⟩
    ·rename_i k off n' hk
     rw[hk]at henv
     cases henv<;>exact⟨_,rfl⟩
    ·cases hv
   obtain⟨ad,had⟩:=hptr
   have hld:(Aoj a.tmps (.cell p ty)).run P w= .ok x w:=by
    rw[<-hx1]
    simp only[Aoj,had,asAddr,Instr.loadAt,Instr.sureAddr]
   exact⟨x::xs,by rw[List.mapM_cons];simp only[Sem.run_bind,hld,Result.andThen_ok,Sem.run_pure,h1],.cons hx2 h2⟩
  ·cases h
theorem AqA {β:Nat->Base} {own:Nat->Option (Nat×List Nat)} {H:Hp} {vs:List V} {xs:List Value} (h:Pw (VR F β own H w) vs xs):
 VR F β own H w (tie vs) (if h:xs.toArray.size=1 then xs.toArray[0]else .tuple xs.toArray):=by
 match vs,h with
 | [],h=>rw[h.N8];exact .tup rfl (by simp)
 | [v],h=>
  obtain⟨x,r,rfl,h1,h2⟩:=h.Nf
  rw[h2.N8]
  simpa[tie]using h1
 | v::u::r,h=>
  have hl:=h.1
  have:¬xs.toArray.size=1:=by simp at hl⊢;omega
  rw[dif_neg this]
  exact .tup h.1 h.2
theorem Ahs {β:Nat->Base} {own:Nat->Option (Nat×List Nat)} {s:St} {a:Act} {w:World} (rel:Rel F st nt β own s a w) {fn:Func} {rs:List Res} {vs:List V} (hm:Wd P st rs fn.results.toList=true)
 (h:Tf s rs=some vs):∃x,(results fn a.tmps).run P w= .ok x w/\VR F β own (hp s.H) w (tie vs) x:=by
 obtain⟨xs,h1,h2⟩:=AeB (P:=P) rel hm h
 refine⟨_,?_,AqA h2⟩
 unfold results
 rw[show fn.results=fn.results.toList.toArray by simp,List.mapM_toArray]
 simp only[Sem.run_bind,Sem.run_map]
 have key:∀f:ResultVar->Sem Value,(∀u,f (.tmp u)=pure (a.tmps.getD u undef))->(∀q t,f (.cell q t)=(do loadVar t (<-asAddr (a.tmps.getD q undef))))->(fn.results.toList.mapM f).run P w= .ok xs w:=by
  intro f hf hc
  rw[<-h1]
  congr 2
  funext x
  cases x with
  | tmp u=>exact hf u
  | cell q t=>exact hc q t
 rw[key]
 ·simp
 ·intro u;rfl
 ·intro q t;rfl
end
end Go.Eng
namespace Go.Eng
def AiE (own:Nat->Option (Nat×List Nat)) (n:Nat) (ks:List Nat) (μ:Nat->List Nat):Nat->Option (Nat×List Nat):=fun b=>
 match own b with
 | some (k,p)=>if k∈ks then some (n,μ k++p)else if k<n then some (k,p)else none
 | none=>none
section
variable {P:Program} {F:Fr} {st:List Tmp} {nt:Nat}
theorem XL {β:Nat->Base} {own:Nat->Option (Nat×List Nat)} {s:St} {a:Act} {w:World} (rel:Rel F st nt β own s a w) {fn:Func} {f:Cm} (hm:Wd P st f.results fn.results.toList=true)
 (hng:F.ngiven=f.ngiven) {res:V} {outs:List O} (h:finish f s res outs):∃x own',(results fn a.tmps).run P w= .ok x w/\Post F outs res x w own':=by
 unfold finish at h
 split at h
 ·exact h.elim
 rename_i l hl
 split at h
 ·rename_i v ks hg
  obtain⟨rfl,rfl⟩:=h
  obtain⟨x,hx,hv⟩:=Ahs rel hm hl
  obtain⟨b1,b2,μ,b3⟩:=AlE rel.inv (fun _=> .inl rfl) hv hg
  refine⟨x,AiE own F.ngiven ks μ,hx,?_⟩
  have hlab:∀b k p,k∈ks->own b=some (k,p)->AiE own F.ngiven ks μ b=some (F.ngiven,μ k++p):=by
   intro b k p hk hb;unfold AiE;rw[hb];simp[hk]
  have hlab2:∀b k p,k∉ks->k<F.ngiven->own b=some (k,p)->AiE own F.ngiven ks μ b=some (k,p):=by
   intro b k p hk hlt hb;unfold AiE;rw[hb];simp[hk,hlt]
  refine⟨rel.inv.size,rel.inv.os,rel.inv.tape,rel.inv.output,rel.inv.keep,?_,?_,?_,?_⟩
  ·intro b p hb
   unfold AiE at hb
   cases ho:own b with
   | none=>rw[ho]at hb;cases hb
   | some q=>exact rel.inv.ownb b q ho
  ·refine b3 (own':=AiE own F.ngiven ks μ) (w':=w) (S':=fun _ b=>F.G b) (lim:=0) (k:=F.ngiven) (μ':=μ) (Nat.le_refl 0) (fun _ _=>rfl) ⟨fun b k1 p h1 h2=>⟨hlab b k1 p h1 h2,rfl⟩,?_⟩
   intro fl b h1 h2 h3
   have:=ZA h1 (by omega)
   subst this
   exact⟨h3,rfl⟩
  ·simp[hng]
  ·intro i o hi
   simp only[List.getElem?_map,Option.map_eq_some_iff]at hi
   obtain⟨j,hj,rfl⟩:=hi
   have hj2:j=i/\i<f.ngiven:=by
    have:=List.getElem?_eq_some_iff.1 hj
    obtain⟨h1,h2⟩:=this
    simp at h1 h2
    exact⟨h2.symm,h1⟩
   obtain⟨rfl,hjn⟩:=hj2
   split
   ·trivial
   rename_i hks
   have hks':j∉ks:=by simpa using hks
   have ho:=rel.inv.objs j
   cases hH:hp s.H j with
   | free=>trivial
   | dead=>trivial
   | tarr _ _ _ _ _ _=>trivial
   | arr e t len cs=>
    rw[hH]at ho
    cases t with
    | succ t=>trivial
    | zero=>
     refine⟨rfl,?_⟩
     have hβ:β j=F.β0 j:=rel.inv.given j (by omega) (by rw[hH];simp)
     obtain⟨vs,g1,g2,g3,g4,g5⟩:=(ho:AR F own w j (β j) e 0 len cs)
     rw[<-hβ]
     refine⟨vs,g1,g2,g3,?_,?_⟩
     ·rcases g4 with g4 | ⟨b,ob,q1,q2,q3⟩
      ·exact .inl g4
      ·exact .inr ⟨b,ob,q1,hlab2 b j [] hks' (by omega) q2,q3⟩
     ·intro i v x hv hx
      refine(g5 i v x hv hx).move (Nat.le_refl 0) ?_ (fun _ _ _ _ _=>rfl) (fun b q hb=>⟨hlab2 b j _ hks' (by omega) hb,rfl⟩)
      intro fl b h1 h2 h3
      have:=ZA h1 (by omega)
      subst this
      exact h3
   | var cs=>
    rw[hH]at ho
    simp only[Cu]
    split
    ·rename_i hpl
     have hβ:β j=F.β0 j:=rel.inv.given j (by omega) (by rw[hH];simp)
     obtain⟨b,ob,vs,g1,g2,g3,g4,g5⟩:=ho
     refine⟨b,ob,vs,by rw[<-hβ];exact g1,hlab2 b j [] hks' (by omega) g2,g3,g4,?_⟩
     intro i v x hv hx
     have:=g5 i v x hv hx
     rcases Oz hpl hv with⟨u,rfl⟩ | ⟨e,len,c,rfl⟩
     ·cases this;exact .sc ‹_›
     ·cases this with
      | rd h1 hr=>exact hr
    ·trivial
 ·exact h.elim
theorem Post.as {bor:Bool} {takes:List Nat} {outs:List O} {res:V} {x:Value} {w:World} {own:Nat->Option (Nat×List Nat)} (h:Post (F.as bor takes) outs res x w own):Post F outs res x w own:=by
 refine⟨h.size,h.os,h.tape,h.output,h.keep,h.lab,h.res,h.outl,fun i o ho=> ?_⟩
 have:=h.out i o ho
 cases o<;>exact this
theorem Ame (AhQ:P.follows .mixedOrders=true) {Ae:Nat->Option FuncId} {G:Gl} {D:Dn} (hD:∀g a gi r o,D g a gi r o->Den P Ae G g a gi r o) (hF:∀g f,Ae g=some f->okF P f=true)
 {g:Nat} {f:Cm} {fn:Func} (hfn:∀id,Ae g=some id->P.funcs[id]? =some fn) (hm:CQ P Ae st f fn=true) {args:List V} {given:List O} {res:V} {outs:List O} (h:Body D f args given res outs):
 Den P Ae G g args given res outs:=by
 intro id hid F hFf hFG hFb hFt hFn inv xs hxs
 simp only[CQ,Bool.and_eq_true,decide_eq_true_eq,List.all_eq_true,beq_iff_eq]at hm
 obtain⟨⟨⟨hb,hp⟩,hlen⟩,hr⟩:=hm
 obtain⟨ha,hgl,hsw⟩:=h
 split at hb
 rotate_left
 ·cases hb
 rename_i code hcode
 subst hFf;subst hFG
 have hxl:xs.length=f.params.length:=by rw[hxs.1,ha]
 refine calls_of_wp (hfn id hid) hcode ?_
 have inv':Inv (F.as f.bor f.takes) F.β0 F.own0 (Eng.hp given) F.w0:=ApG hFb hFt inv
 have rel:Rel (F.as f.bor f.takes) st fn.ntmps F.β0 F.own0 (Xc f args given) {tmps:=xs.toArray++Array.replicate (fn.ntmps-xs.toArray.size) undef,defers:=[]} F.w0:=by
  refine⟨?_,?_,?_,rfl⟩
  ·show Inv _ _ _ (Eng.hp (given++List.replicate _ .free)) _
   rw[AmV];exact inv'
  ·intro i t hi
   show VR _ _ _ (Eng.hp (given++List.replicate _ .free)) _ ((ZF f args).getD i .undef) _
   rw[AmV]
   unfold ZF
   rcases Xz args f.params.zipIdx (List.replicate f.nslots .undef) i with⟨j,g1,g2⟩ | ⟨g1,g2⟩ | g1
   ·rw[g2]
    have hst:=hp (i,j) g1
    dsimp only at hst
    rw[hi]at hst
    have htj:t=j:=by simpa using hst
    subst htj
    have hj:t<f.params.length:=by
     obtain⟨_,h2,_⟩:=List.mem_zipIdx g1
     rw[Nat.zero_add]at h2
     exact h2
    have hjx:t<xs.length:=by rw[hxl];exact hj
    have hja:t<args.length:=by rw[ha];exact hj
    have:=hxs.2 t args[t] xs[t] (by simp) (by simp)
    have e1:args.getD t .undef=args[t]:=by simp[List.getD_eq_getElem?_getD,hja]
    have e2:(xs.toArray++Array.replicate (fn.ntmps-xs.toArray.size) undef).getD t undef=xs[t]:=by
     rw[Array.getD_eq_getD_getElem?,Array.getElem?_append_left (by simpa using hjx)]
     simp[hjx]
    rw[e1]
    show VR _ _ _ _ _ _ ((xs.toArray++Array.replicate (fn.ntmps-xs.toArray.size) undef).getD t undef)
    rw[e2]
    exact App hFb this
   ·rw[g1]
    have:(List.replicate f.nslots V.undef).getD i .undef= .undef:=by
     rw[List.getD_eq_getElem?_getD,List.getElem?_replicate]
     split<;>rfl
    rw[this];exact .undef
   ·rw[g1];exact .undef
  ·simp
   omega
 have hng:F.ngiven=f.ngiven:=by rw[hFn,hgl]
 have hcode2:Io P F.Ae f.takes F.ngiven st fn.ntmps f.body code=true:=by rw[hng];exact hb
 refine AiI AhQ (F:=F.as f.bor f.takes) (c:=⟨f.bor,f.takes⟩) rfl rfl hD hF f.body code hcode2 rel hsw ?_
 intro o s' a' w' β' own' hq r'
 cases o with
 | normal=>
  obtain⟨x,own2,h1,h2⟩:=XL r' hr hng hq
  exact⟨r'.defers,x,h1,own2,h2.as⟩
 | exit i=>exact hq.elim
 | ret=>
  obtain⟨x,own2,h1,h2⟩:=XL r' hr hng hq
  exact⟨r'.defers,x,h1,own2,h2.as⟩
end
end Go.Eng
namespace Go.Eng
theorem TY {D:Dn} {c:Cf} {H:Hp} {K K':V->DL->Prop} (h:∀v u,K v u->K' v u) {g:Nat} {args:List (Bool×V)} {sites:List Nat} (hh:EX D c H K g args sites):EX D c H K' g args sites:=by
 unfold EX at *
 split at hh
 ·exact hh.elim
 ·split at hh
  ·exact hh.elim
  ·rename_i hc
   rw[if_neg hc]
   split at hh
   ·exact hh.elim
   ·obtain⟨res,outs,h1,h2⟩:=hh
    refine⟨res,outs,h1,?_⟩
    split at h2
    ·exact h _ _ h2
    ·exact h2.elim
theorem WR {K K':V->DL->Prop} (h:∀v u,K v u->K' v u) {r:Option (V×DL)} (hh:LZ r K):LZ r K':=by
 cases r with
 | none=>exact hh
 | some p=>exact h _ _ hh
theorem AbQ {D:Dn} {c:Cf} {H:Hp} {ev:Src->V} {op:LG} {K K':V->DL->Prop} (h:∀v u,K v u->K' v u) (hh:stepW D c H ev op K):stepW D c H ev op K':=by
 cases op with
 | call g args sites=>exact TY (D:=D) (c:=c) (H:=H) h hh
 | callp g args sites=>exact TY (D:=D) (c:=⟨true,c.takes⟩) (H:=H) h hh
 | callv f args sites=>
  have h':(match ev f with | .fn g caps=>EX D c H K g ((args.map fun(b,x)=>(b,ev x))++caps.map fun v=>(false,v)) sites | _=>False):=hh
  show(match ev f with | .fn g caps=>EX D c H K' g ((args.map fun(b,x)=>(b,ev x))++caps.map fun v=>(false,v)) sites | _=>False)
  split at h'
  ·exact TY h h'
  ·exact h'.elim
 | mv x=>exact WR (r:=some (ev x,[])) h (show LZ (some (ev x,[])) K from hh)
 | makeFunc g caps=>exact WR (r:=some (.fn g (caps.map ev),[])) h (show LZ (some (.fn g (caps.map ev),[])) K from hh)
 | _=>exact WR h hh
theorem Ig {D:Dn} {c:Cf} {env:List V} {Q Q':List V->List O->Prop} (h:∀v u,Q v u->Q' v u):∀ {rops:List I7} {vals:List V} {H:List O},Dk D c env rops vals H Q->Dk D c env rops vals H Q'
 | [],_,_,hh=>h _ _ hh
 | rop::r,vals,H,hh=>by
  unfold Dk at *
  dsimp only at *
  have go:∀ {K K':V->DL->Prop},(∀v u,K v u->K' v u)->stepW D c (masked rop.tau (hp H)) (evs vals env) rop.op K->stepW D c (masked rop.tau (hp H)) (evs vals env) rop.op K':=fun h hh=>AbQ h hh
  split at hh
  ·exact go (fun v u hk=>⟨hk.1,Ig h hk.2⟩) hh
  ·split at hh
   ·split at hh
    ·rename_i hb;rw[if_pos hb];exact go (fun v u hk=>⟨hk.1,Ig h hk.2⟩) hh
    ·rename_i hb;rw[if_neg hb];exact Ig h hh
   ·exact Ig h hh
   ·exact hh.elim
theorem Adk {D:Dn} {c:Cf} {r:Ce} {Q Q':St->Prop} (h:∀s,Q s->Q' s) {s:St} (hh:AhA D c r Q s):AhA D c r Q' s:=by
 refine Ig (D:=D) (c:=c) ?_ hh
 intro vals H hq
 split at hq
 ·exact h _ hq
 ·exact hq.elim
theorem F5 {D:Dn} {c:Cf}:∀(sc:SC) {Q Q':Out->St->Prop} {s:St},(∀o s,Q o s->Q' o s)->swp D c sc Q s->swp D c sc Q' s:=by
 intro sc
 induction sc with
 | skip=>intro Q Q' s h hh;exact h _ _ hh
 | reg r=>intro Q Q' s h hh;exact Adk (fun s hs=>h _ s hs) hh
 | seq a b iha ihb=>
  intro Q Q' s h hh
  refine iha (Q:=fun o s'=>match o with | .normal=>swp D c b Q s' | o=>Q o s') ?_ hh
  intro o s' hq
  cases o with
  | normal=>exact ihb h hq
  | exit i=>exact h _ _ hq
  | ret=>exact h _ _ hq
 | cond k a b iha ihb=>
  intro Q Q' s h hh
  have h':(match s.env.getD k .undef with
   | .sc (.bool t)=>if t then swp D c a Q ⟨s.env.set k .undef,s.H⟩else swp D c b Q ⟨s.env.set k .undef,s.H⟩
   | _=>False):=hh
  show(match s.env.getD k .undef with
   | .sc (.bool t)=>if t then swp D c a Q' ⟨s.env.set k .undef,s.H⟩else swp D c b Q' ⟨s.env.set k .undef,s.H⟩
   | _=>False)
  split at h'
  ·split at h'
   ·rename_i hb;rw[if_pos hb];exact iha h h'
   ·rename_i hb;rw[if_neg hb];exact ihb h h'
  ·exact h'.elim
 | block id a iha=>
  intro Q Q' s h hh
  refine iha (Q:=fun o s'=>match o with | .exit i=>if i=id then Q .normal s' else Q (.exit i) s' | o=>Q o s') ?_ hh
  intro o s' hq
  cases o with
  | normal=>exact h _ _ hq
  | exit i=>
   have hq':if i=id then Q .normal s' else Q (.exit i) s':=hq
   show if i=id then Q' .normal s' else Q' (.exit i) s'
   split at hq'
   ·rename_i hi;rw[if_pos hi];exact h _ _ hq'
   ·rename_i hi;rw[if_neg hi];exact h _ _ hq'
  | ret=>exact h _ _ hq
 | loop a iha=>
  intro Q Q' s h hh
  obtain⟨n,hn⟩:=hh
  refine⟨n,?_⟩
  induction n generalizing s with
  | zero=>exact hn
  | succ n ih=>
   refine iha (Q:=fun o s'=>match o with | .normal=>Nat.rec (motive:=fun _=>St->Prop) (fun _=>False) (fun _ ih s=>swp D c a (fun o s'=>match o with | .normal=>ih s' | o=>Q o s') s) n s' | o=>Q o s') ?_ hn
   intro o s' hq
   cases o with
   | normal=>exact ih hq
   | exit i=>exact h _ _ hq
   | ret=>exact h _ _ hq
 | exit id=>intro Q Q' s h hh;exact h _ _ hh
 | ret=>intro Q Q' s h hh;exact h _ _ hh
 | stuck=>intro Q Q' s h hh;exact hh.elim
theorem Ag {D:Dn} {c:Cf} {a:SC} {Q:Out->St->Prop} (I:Nat->St->Prop) (h:∀k s,I k s->swp D c a (fun o s'=>match o with | .normal=>∃k',k' <k/\I k' s' | o=>Q o s') s):
 ∀(k:Nat) (s:St),I k s->swp D c (.loop a) Q s:=by
 have key:∀(n k:Nat) (s:St),k<n->I k s->Nat.rec (motive:=fun _=>St->Prop) (fun _=>False) (fun _ ih s=>swp D c a (fun o s'=>match o with | .normal=>ih s' | o=>Q o s') s) n s:=by
  intro n
  induction n with
  | zero=>intro k s hk;omega
  | succ n ih=>
   intro k s hk hI
   refine F5 a ?_ (h k s hI)
   intro o s' hq
   cases o with
   | normal=>
    obtain⟨k',h1,h2⟩:=hq
    exact ih k' s' (by omega) h2
   | exit i=>exact hq
   | ret=>exact hq
 intro k s hI
 exact⟨k+1,key (k+1) k s (by omega) hI⟩
end Go.Eng
