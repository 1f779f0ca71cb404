/- Own work: part 27 of the proof of FnTop. -/
import Derived.Test.YtdoefikagfghnabGreatEngZ
set_option linter.unusedSimpArgs false
set_option linter.unusedVariables false
namespace Go.Eng
set_option linter.unusedVariables false
theorem ABz {k:Nat} {v:V} (h:m1 k v=false):m3 k v=false:=by
 cases v<;>first | exact h | (simp[m1]at h)
theorem AEH {k:Nat} {v:V} (h:m2 k v=false):m3 k v=false:=by
 cases v<;>first | exact h | (simp[m2,m1]at h)
theorem Ar9 (k:Nat) (v:V):m3 k (O8 k v)=false:=by
 unfold O8
 split
 ·rfl
 ·rename_i h;simpa using h
section
variable {F:Fr} {β β':Nat→Base} {own own':Nat→Option (Nat×List Nat)} {H H':Hp} {w:World}
theorem VR.other {v:V} {x:Value} (h:VR F β own H w v x) {ex:Nat→Prop} (hm:∀k,ex k→m3 k v=false) (hS:∀fl b,1≤fl→F.S w own fl b→F.S w own' fl b)
 (hβ:∀j,¬ex j→β' j=β j) (ha:∀j,¬ex j→Ag (H' j)=Ag (H j)) (hv:∀j cs,¬ex j→H j= .var cs→∃cs',H' j= .var cs') (hd:∀j,¬ex j→H j= .dead→H' j= .dead):
 VR F β' own' H' w v x:=by
 induction h with
 | sc h1=>exact .sc h1
 | nil e=>exact .nil e
 | rd h1 h=>exact .rd h1 (h.move (fun b=>hS _ b h1) (fun _ _=>rfl))
 | rptr h1 h=>exact .rptr h1 (h.move (fun b=>hS _ b h1) (fun _ _=>rfl))
 | @arr k e t len cs h=>
  have hk:¬ex k:=fun hh=>by have:=hm k hh;simp[m3,m2,m1]at this
  rw[←hβ k hk]
  exact .arr (by rw[ha k hk];exact h)
 | @sub k off e t len n cs x h hn hx=>
  have hk:¬ex k:=fun hh=>by have:=hm k hh;simp[m3,m2,m1]at this
  exact .sub (by rw[ha k hk];exact h) hn (by rw[hβ k hk];exact hx)
 | @ptr k off b o h hb=>
  have hk:¬ex k:=fun hh=>by have:=hm k hh;simp[m3,m2,m1]at this
  refine .ptr ?_ (by rw[hβ k hk];exact hb)
  rcases h with h | ⟨cs,h⟩
  ·left
   rw[EL]at h⊢
   rw[ha k hk];exact h
  ·right;exact hv k cs hk h
 | @goneA k _ _ _ h=>
  have hk:¬ex k:=fun hh=>by have:=hm k hh;simp[m3,m2,m1]at this
  exact .goneA (hd k hk h)
 | @goneS k _ _ _ _ _ h=>
  have hk:¬ex k:=fun hh=>by have:=hm k hh;simp[m3,m2,m1]at this
  exact .goneS (hd k hk h)
 | @goneP k _ _ _ h=>
  have hk:¬ex k:=fun hh=>by have:=hm k hh;simp[m3,m2,m1]at this
  exact .goneP (hd k hk h)
 | @fn g caps f vs hf hv2 hc ih=>
  refine .fn hf hv2 fun i v x hv' hx=>ih i v x hv' hx fun k hk=> ?_
  have:=hm k hk
  simp only[m3,m2,List.any_eq_false]at this
  exact ABz (by simpa using this v (List.mem_of_getElem? hv'))
 | @agg cs vs h1 hv2 hc ih=>
  refine .agg h1 hv2 fun i v x hv' hx=>ih i v x hv' hx fun k hk=> ?_
  have:=hm k hk
  simp only[m3,m2,List.any_eq_false]at this
  exact ABz (by simpa using this v (List.mem_of_getElem? hv'))
 | @tup cs vs hv2 hc ih=>
  refine .tup hv2 fun i v x hv' hx=>ih i v x hv' hx fun k hk=> ?_
  have:=hm k hk
  simp only[m3,List.any_eq_false]at this
  exact AEH (by simpa using this v (List.mem_of_getElem? hv'))
 | undef=>exact .undef
def PZ (own:Nat→Option (Nat×List Nat)) (k:Nat):Nat→Option (Nat×List Nat):=fun b=>
 match own b with
 | some (k',p)=>if k' =k then none else some (k',p)
 | none=>none
theorem Nu {k b:Nat} {q:Nat×List Nat} (h:PZ own k b=some q):own b=some q∧q.1≠k:=by
 unfold PZ at h
 cases ho:own b with
 | none=>simp[ho]at h
 | some r=>
  obtain⟨k',p⟩:=r
  simp only[ho]at h
  split at h
  ·cases h
  ·cases h;exact⟨rfl,‹_›⟩
theorem VS {k b:Nat} {q:Nat×List Nat} (h:own b=some q) (hk:q.1≠k):PZ own k b=some q:=by
 unfold PZ
 rw[h]
 obtain⟨k',p⟩:=q
 simp at hk⊢
 exact hk
theorem AcD (k:Nat) (o:O):Ag (Nv k o)=Ag o:=by
 cases o with
 | tarr j off e t len cs=>simp only[Nv];split<;>rfl
 | _=>rfl
theorem Aht {k:Nat} {o:O}:Nv k o= .free↔o= .free:=by
 cases o with
 | tarr j off e t len cs=>simp only[Nv];split<;>simp
 | _=>simp[Nv]
theorem ADk {k:Nat} {o:O}:Nv k o= .dead↔o= .dead:=by
 cases o with
 | tarr j off e t len cs=>simp only[Nv];split<;>simp
 | _=>simp[Nv]
def Kz (H:Hp) (k:Nat):Hp:=fun j=>if j=k then .free else Nv k (H j)
theorem AAs (inv:Inv F β own H w) {k:Nat} {v:V} {x:Value} (h:VR F β own H w v x) (hm:m3 k v=false):VR F β (PZ own k) (Kz H k) w v x:=by
 refine h.other (ex:=fun j=>j=k) (fun j hj=>by rw[hj];exact hm) ?_ (fun _ _=>rfl) ?_ ?_ ?_
 ·intro fl b h1 hs
  match fl,h1 with
  | 1,_=>exact hs
  | 2,_=>exact⟨hs.1,hs.2.1,fun k' hk'=>hs.2.2 k' (Nu hk').1⟩
  | 3,_=>exact hs
  | n+4,_=>exact⟨hs.1,hs.2.1,fun k' hk'=>hs.2.2 k' (Nu hk').1⟩
 ·intro j hj
  simp only[Kz,if_neg hj]
  exact AcD k (H j)
 ·intro j cs hj h
  exact⟨cs.map (O8 k),by simp only[Kz,if_neg hj,h,Nv]⟩
 ·intro j hj h
  simp only[Kz,if_neg hj,h,Nv]
theorem Am3 (inv:Inv F β own H w) {k:Nat} {v:V} {x:Value} (h:VR F β own H w v x):VR F β (PZ own k) (Kz H k) w (O8 k v) x:=by
 unfold O8
 split
 ·exact .undef
 ·rename_i hm
  exact AAs inv h (by simpa using hm)
theorem ACS {k fl b:Nat} (h1:1≤fl) (hs:F.S w own fl b):F.S w (PZ own k) fl b:=by
 match fl,h1 with
 | 1,_=>exact hs
 | 2,_=>exact⟨hs.1,hs.2.1,fun k' hk'=>hs.2.2 k' (Nu hk').1⟩
 | 3,_=>exact hs
 | n+4,_=>exact⟨hs.1,hs.2.1,fun k' hk'=>hs.2.2 k' (Nu hk').1⟩
theorem AkZ {j k:Nat} (hj:j≠k) {B:Base} {e t len:Nat} {cs:List V} (h:AR F own w j B e t len cs):AR F (PZ own k) w j B e t len cs:=by
 obtain⟨vs,g1,g2,g3,g4,g5⟩:=h
 refine⟨vs,g1,g2,g3,?_,?_⟩
 ·rcases g4 with g4 | ⟨b,o,q1,q2,q3⟩
  ·exact .inl g4
  ·exact .inr ⟨b,o,q1,VS q2 hj,q3⟩
 ·intro i v x hv hx
  exact(g5 i v x hv hx).move (Nat.le_refl _) (fun fl b h1 _ hs=>ACS h1 hs) (fun _ _ _ _ _=>rfl) (fun b q hb=>⟨VS hb hj,rfl⟩)
theorem AwX (inv:Inv F β own H w) {k:Nat} (hk:F.ngiven≤k):Inv F β (PZ own k) (Kz H k) w:=by
 refine⟨inv.size,inv.keep,inv.os,inv.tape,inv.output,?_,inv.glob,?_,?_,?_⟩
 ·intro b p hp
  exact inv.ownb b p (Nu hp).1
 ·intro j
  by_cases hj:j=k
  ·subst hj;simp only[Kz,if_true];trivial
  ·have ho:=inv.objs j
   simp only[Kz,if_neg hj]
   cases hH:H j with
   | free=>trivial
   | dead=>trivial
   | var cs=>
    rw[hH]at ho
    obtain⟨b,o,vs,g1,g2,g3,g4,g5⟩:=ho
    refine⟨b,o,vs,g1,VS g2 hj,by simpa using g3,g4,?_⟩
    intro i v x hv hx
    simp only[List.getElem?_map,Option.map_eq_some_iff]at hv
    obtain⟨v0,hv0,rfl⟩:=hv
    exact Am3 inv (g5 i v0 x hv0 hx)
   | arr e t len cs=>rw[hH]at ho;exact AkZ hj ho
   | tarr k2 off e t len cs=>
    rw[hH]at ho
    obtain⟨g1,g2,⟨g3,g4⟩,g5⟩:=ho
    simp only[Nv]
    split
    ·exact AkZ hj g1
    ·rename_i hk2
     refine⟨AkZ hj g1,g2,⟨g3,?_⟩,?_⟩
     ·simp only[Kz,if_neg hk2]
      exact fun h=>g4 (Aht.1 h)
     ·intro ha
      simp only[Kz,if_neg hk2]at ha
      obtain⟨b,o,q1,q2,q3⟩:=g5 (by
       rw[EL]at ha⊢
       rw[AcD]at ha;exact ha)
      exact⟨b,o,q1,VS q2 hk2,q3⟩
 ·intro j hj hd
  refine inv.given j hj fun h=>hd ?_
  have hne:j≠k:=by omega
  simp only[Kz,if_neg hne,h,Nv]
 ·intro j hj h
  have hne:j≠k:=by omega
  simp only[Kz,if_neg hne]at h
  exact inv.gfree j hj (Aht.1 h)
end
theorem Vb (H:List O) (k j:Nat):hp ((H.map (Nv k)).set k .free) j=Kz (hp H) k j:=by
 unfold Kz hp
 by_cases hj:j=k
 ·subst hj
  rw[if_pos rfl,List.getD_eq_getElem?_getD,List.getElem?_set]
  simp
  split<;>rfl
 ·rw[if_neg hj,List.getD_eq_getElem?_getD,List.getElem?_set,if_neg (fun h=>hj h.symm),List.getElem?_map,List.getD_eq_getElem?_getD]
  cases H[j]? <;>rfl
structure Rel (F:Fr) (st:List Tmp) (nt:Nat) (β:Nat→Base) (own:Nat→Option (Nat×List Nat)) (s:St) (a:Act) (w:World):Prop where
 inv:Inv F β own (hp s.H) w
 env:∀(i:Nat) (t:Tmp),st[i]? =some t→VR F β own (hp s.H) w (s.env.getD i .undef) (a.tmps.getD t undef)
 nt:a.tmps.size=nt
 defers:a.defers=[]
theorem getD_map {α β:Type} (l:List α) (f:α→β) (i:Nat) (d:α) (d':β) (h:f d=d'):(l.map f).getD i d' =f (l.getD i d):=by
 simp only[List.getD_eq_getElem?_getD,List.getElem?_map]
 cases l[i]? <;>simp[h]
theorem Anp {F:Fr} {st:List Tmp} {nt:Nat} {β:Nat→Base} {own:Nat→Option (Nat×List Nat)} {s:St} {a:Act} {w:World} (r:Rel F st nt β own s a w) {k:Nat} (hk:F.ngiven≤k):
 Rel F st nt β (PZ own k) (kill s k) a w:=by
 have hH:hp (kill s k).H=Kz (hp s.H) k:=funext fun j=>Vb s.H k j
 refine⟨by rw[hH];exact AwX r.inv hk,?_,r.nt,r.defers⟩
 intro i t hi
 rw[hH]
 show VR F β _ _ w ((s.env.map (O8 k)).getD i .undef) _
 rw[getD_map (d:=V.undef) (h:=by simp[O8,m3,m2,m1])]
 exact Am3 r.inv (r.env i t hi)
theorem AcM {F:Fr} {st:List Tmp} {nt:Nat} {a:Act} {w:World}:∀ {ks:List Nat} {β:Nat→Base} {own:Nat→Option (Nat×List Nat)} {s:St},Rel F st nt β own s a w→(∀k,k∈ks→F.ngiven≤k)→
 ∃own',Rel F st nt β own' (Dp s ks) a w
 | [],_,own,_,r,_=>⟨own,r⟩
 | k::ks,_,_,_,r,h=>AcM (ks:=ks) (Anp r (h k (by simp))) fun k hk=>h k (by simp[hk])
end Go.Eng
