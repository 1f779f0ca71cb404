/- Own work: part 27 of the proof of FnEvents. -/
import Derived.Test.YtfdnolfnbmnafaaGreatEngZ
set_option linter.unusedSimpArgs false
set_option linter.unusedVariables false
namespace Go.Eng
set_option linter.unusedVariables false
theorem ALv {k:Nat} {v:V} (h:m1 k v=false):m3 k v=false:=by
 cases v<;>first | exact h | (simp[m1]at h)
theorem AN3 {k:Nat} {v:V} (h:m2 k v=false):m3 k v=false:=by
 cases v<;>first | exact h | (simp[m2,m1]at h)
theorem ADi (k:Nat) (v:V):m3 k (Vm k v)=false:=by
 unfold Vm
 split
 ·rfl
 ·rename_i h;simpa using h
section
variable {F:Fr} {β β':Nat→Base} {own own':Nat→Option (Nat×List Nat)} {H H':Hp} {w:World}
theorem VR.other {v:V} {x:Value} (h:VR F β own H w v x) {ex:Nat→Prop} (hm:∀k,ex k→m3 k v=false) (hS:∀fl b,1≤fl→F.S w own fl b→F.S w own' fl b)
 (hβ:∀j,¬ex j→β' j=β j) (ha:∀j,¬ex j→Al (H' j)=Al (H j)) (hv:∀j cs,¬ex j→H j= .var cs→∃cs',H' j= .var cs') (hd:∀j,¬ex j→H j= .dead→H' j= .dead):
 VR F β' own' H' w v x:=by
 induction h with
 | sc h1=>exact .sc h1
 | nil e=>exact .nil e
 | rd h1 h=>exact .rd h1 (h.move (fun b=>hS _ b h1) (fun _ _=>rfl))
 | rptr h1 h=>exact .rptr h1 (h.move (fun b=>hS _ b h1) (fun _ _=>rfl))
 | @arr k e t len cs h=>
  have hk:¬ex k:=fun hh=>by have:=hm k hh;simp[m3,m2,m1]at this
  rw[←hβ k hk]
  exact .arr (by rw[ha k hk];exact h)
 | @sub k off e t len n cs x h hn hx=>
  have hk:¬ex k:=fun hh=>by have:=hm k hh;simp[m3,m2,m1]at this
  exact .sub (by rw[ha k hk];exact h) hn (by rw[hβ k hk];exact hx)
 | @ptr k off b o h hb=>
  have hk:¬ex k:=fun hh=>by have:=hm k hh;simp[m3,m2,m1]at this
  refine .ptr ?_ (by rw[hβ k hk];exact hb)
  rcases h with h | ⟨cs,h⟩
  ·left
   rw[Hq]at h⊢
   rw[ha k hk];exact h
  ·right;exact hv k cs hk h
 | @goneA k _ _ _ h=>
  have hk:¬ex k:=fun hh=>by have:=hm k hh;simp[m3,m2,m1]at this
  exact .goneA (hd k hk h)
 | @goneS k _ _ _ _ _ h=>
  have hk:¬ex k:=fun hh=>by have:=hm k hh;simp[m3,m2,m1]at this
  exact .goneS (hd k hk h)
 | @goneP k _ _ _ h=>
  have hk:¬ex k:=fun hh=>by have:=hm k hh;simp[m3,m2,m1]at this
  exact .goneP (hd k hk h)
 | @fn g caps f vs hf hv2 hc ih=>
  refine .fn hf hv2 fun i v x hv' hx=>ih i v x hv' hx fun k hk=> ?_
  have:=hm k hk
  simp only[m3,m2,List.any_eq_false]at this
  exact ALv (by simpa using this v (List.mem_of_getElem? hv'))
 | @agg cs vs h1 hv2 hc ih=>
  refine .agg h1 hv2 fun i v x hv' hx=>ih i v x hv' hx fun k hk=> ?_
  have:=hm k hk
  simp only[m3,m2,List.any_eq_false]at this
  exact ALv (by simpa using this v (List.mem_of_getElem? hv'))
 | @tup cs vs hv2 hc ih=>
  refine .tup hv2 fun i v x hv' hx=>ih i v x hv' hx fun k hk=> ?_
  have:=hm k hk
  simp only[m3,List.any_eq_false]at this
  exact AN3 (by simpa using this v (List.mem_of_getElem? hv'))
 | undef=>exact .undef
def Vp (own:Nat→Option (Nat×List Nat)) (k:Nat):Nat→Option (Nat×List Nat):=fun b=>
 match own b with
 | some (k',p)=>if k' =k then none else some (k',p)
 | none=>none
theorem RD {k b:Nat} {q:Nat×List Nat} (h:Vp own k b=some q):own b=some q∧q.1≠k:=by
 unfold Vp at h
 cases ho:own b with
 | none=>simp[ho]at h
 | some r=>
  obtain⟨k',p⟩:=r
  simp only[ho]at h
  split at h
  ·cases h
  ·cases h;exact⟨rfl,‹_›⟩
theorem AbU {k b:Nat} {q:Nat×List Nat} (h:own b=some q) (hk:q.1≠k):Vp own k b=some q:=by
 unfold Vp
 rw[h]
 obtain⟨k',p⟩:=q
 simp at hk⊢
 exact hk
theorem Ake (k:Nat) (o:O):Al (Q9 k o)=Al o:=by
 cases o with
 | tarr j off e t len cs=>simp only[Q9];split<;>rfl
 | _=>rfl
theorem AqZ {k:Nat} {o:O}:Q9 k o= .free↔o= .free:=by
 cases o with
 | tarr j off e t len cs=>simp only[Q9];split<;>simp
 | _=>simp[Q9]
theorem AMG {k:Nat} {o:O}:Q9 k o= .dead↔o= .dead:=by
 cases o with
 | tarr j off e t len cs=>simp only[Q9];split<;>simp
 | _=>simp[Q9]
def PI (H:Hp) (k:Nat):Hp:=fun j=>if j=k then .free else Q9 k (H j)
theorem AKJ (inv:Inv F β own H w) {k:Nat} {v:V} {x:Value} (h:VR F β own H w v x) (hm:m3 k v=false):VR F β (Vp own k) (PI H k) w v x:=by
 refine h.other (ex:=fun j=>j=k) (fun j hj=>by rw[hj];exact hm) ?_ (fun _ _=>rfl) ?_ ?_ ?_
 ·intro fl b h1 hs
  match fl,h1 with
  | 1,_=>exact hs
  | 2,_=>exact⟨hs.1,hs.2.1,fun k' hk'=>hs.2.2 k' (RD hk').1⟩
  | 3,_=>exact hs
  | n+4,_=>exact⟨hs.1,hs.2.1,fun k' hk'=>hs.2.2 k' (RD hk').1⟩
 ·intro j hj
  simp only[PI,if_neg hj]
  exact Ake k (H j)
 ·intro j cs hj h
  exact⟨cs.map (Vm k),by simp only[PI,if_neg hj,h,Q9]⟩
 ·intro j hj h
  simp only[PI,if_neg hj,h,Q9]
theorem AyX (inv:Inv F β own H w) {k:Nat} {v:V} {x:Value} (h:VR F β own H w v x):VR F β (Vp own k) (PI H k) w (Vm k v) x:=by
 unfold Vm
 split
 ·exact .undef
 ·rename_i hm
  exact AKJ inv h (by simpa using hm)
theorem AME {k fl b:Nat} (h1:1≤fl) (hs:F.S w own fl b):F.S w (Vp own k) fl b:=by
 match fl,h1 with
 | 1,_=>exact hs
 | 2,_=>exact⟨hs.1,hs.2.1,fun k' hk'=>hs.2.2 k' (RD hk').1⟩
 | 3,_=>exact hs
 | n+4,_=>exact⟨hs.1,hs.2.1,fun k' hk'=>hs.2.2 k' (RD hk').1⟩
theorem Awk {j k:Nat} (hj:j≠k) {B:Base} {e t len:Nat} {cs:List V} (h:AR F own w j B e t len cs):AR F (Vp own k) w j B e t len cs:=by
 obtain⟨vs,g1,g2,g3,g4,g5⟩:=h
 refine⟨vs,g1,g2,g3,?_,?_⟩
 ·rcases g4 with g4 | ⟨b,o,q1,q2,q3⟩
  ·exact .inl g4
  ·exact .inr ⟨b,o,q1,AbU q2 hj,q3⟩
 ·intro i v x hv hx
  exact(g5 i v x hv hx).move (Nat.le_refl _) (fun fl b h1 _ hs=>AME h1 hs) (fun _ _ _ _ _=>rfl) (fun b q hb=>⟨AbU hb hj,rfl⟩)
theorem AIS (inv:Inv F β own H w) {k:Nat} (hk:F.ngiven≤k):Inv F β (Vp own k) (PI H k) w:=by
 refine⟨inv.size,inv.keep,inv.os,inv.tape,inv.output,?_,inv.glob,?_,?_,?_⟩
 ·intro b p hp
  exact inv.ownb b p (RD hp).1
 ·intro j
  by_cases hj:j=k
  ·subst hj;simp only[PI,if_true];trivial
  ·have ho:=inv.objs j
   simp only[PI,if_neg hj]
   cases hH:H j with
   | free=>trivial
   | dead=>trivial
   | var cs=>
    rw[hH]at ho
    obtain⟨b,o,vs,g1,g2,g3,g4,g5⟩:=ho
    refine⟨b,o,vs,g1,AbU g2 hj,by simpa using g3,g4,?_⟩
    intro i v x hv hx
    simp only[List.getElem?_map,Option.map_eq_some_iff]at hv
    obtain⟨v0,hv0,rfl⟩:=hv
    exact AyX inv (g5 i v0 x hv0 hx)
   | arr e t len cs=>rw[hH]at ho;exact Awk hj ho
   | tarr k2 off e t len cs=>
    rw[hH]at ho
    obtain⟨g1,g2,⟨g3,g4⟩,g5⟩:=ho
    simp only[Q9]
    split
    ·exact Awk hj g1
    ·rename_i hk2
     refine⟨Awk hj g1,g2,⟨g3,?_⟩,?_⟩
     ·simp only[PI,if_neg hk2]
      exact fun h=>g4 (AqZ.1 h)
     ·intro ha
      simp only[PI,if_neg hk2]at ha
      obtain⟨b,o,q1,q2,q3⟩:=g5 (by
       rw[Hq]at ha⊢
       rw[Ake]at ha;exact ha)
      exact⟨b,o,q1,AbU q2 hk2,q3⟩
 ·intro j hj hd
  refine inv.given j hj fun h=>hd ?_
  have hne:j≠k:=by omega
  simp only[PI,if_neg hne,h,Q9]
 ·intro j hj h
  have hne:j≠k:=by omega
  simp only[PI,if_neg hne]at h
  exact inv.gfree j hj (AqZ.1 h)
end
theorem Aal (H:List O) (k j:Nat):hp ((H.map (Q9 k)).set k .free) j=PI (hp H) k j:=by
 unfold PI hp
 by_cases hj:j=k
 ·subst hj
  rw[if_pos rfl,List.getD_eq_getElem?_getD,List.getElem?_set]
  simp
  split<;>rfl
 ·rw[if_neg hj,List.getD_eq_getElem?_getD,List.getElem?_set,if_neg (fun h=>hj h.symm),List.getElem?_map,List.getD_eq_getElem?_getD]
  cases H[j]? <;>rfl
structure Rel (F:Fr) (st:List Tmp) (nt:Nat) (β:Nat→Base) (own:Nat→Option (Nat×List Nat)) (s:St) (a:Act) (w:World):Prop where
 inv:Inv F β own (hp s.H) w
 env:∀(i:Nat) (t:Tmp),st[i]? =some t→VR F β own (hp s.H) w (s.env.getD i .undef) (a.tmps.getD t undef)
 nt:a.tmps.size=nt
 defers:a.defers=[]
theorem getD_map {α β:Type} (l:List α) (f:α→β) (i:Nat) (d:α) (d':β) (h:f d=d'):(l.map f).getD i d' =f (l.getD i d):=by
 simp only[List.getD_eq_getElem?_getD,List.getElem?_map]
 cases l[i]? <;>simp[h]
theorem AzP {F:Fr} {st:List Tmp} {nt:Nat} {β:Nat→Base} {own:Nat→Option (Nat×List Nat)} {s:St} {a:Act} {w:World} (r:Rel F st nt β own s a w) {k:Nat} (hk:F.ngiven≤k):
 Rel F st nt β (Vp own k) (kill s k) a w:=by
 have hH:hp (kill s k).H=PI (hp s.H) k:=funext fun j=>Aal s.H k j
 refine⟨by rw[hH];exact AIS r.inv hk,?_,r.nt,r.defers⟩
 intro i t hi
 rw[hH]
 show VR F β _ _ w ((s.env.map (Vm k)).getD i .undef) _
 rw[getD_map (d:=V.undef) (h:=by simp[Vm,m3,m2,m1])]
 exact AyX r.inv (r.env i t hi)
theorem Akv {F:Fr} {st:List Tmp} {nt:Nat} {a:Act} {w:World}:∀ {ks:List Nat} {β:Nat→Base} {own:Nat→Option (Nat×List Nat)} {s:St},Rel F st nt β own s a w→(∀k,k∈ks→F.ngiven≤k)→
 ∃own',Rel F st nt β own' (Fu s ks) a w
 | [],_,own,_,r,_=>⟨own,r⟩
 | k::ks,_,_,_,r,h=>Akv (ks:=ks) (AzP r (h k (by simp))) fun k hk=>h k (by simp[hk])
end Go.Eng
