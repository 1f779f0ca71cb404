/- Own work: part 27 of the proof of FnExactApplyEvent. -/
import Derived.Test.YtdoefikagfghnaaGreatEngZ
set_option linter.unusedSimpArgs false
set_option linter.unusedVariables false
namespace Go.Eng
set_option linter.unusedVariables false
theorem AEJ {k:Nat} {v:V} (h:m1 k v=false):m3 k v=false:=by
 cases v<;>first | exact h | (simp[m1]at h)
theorem AGQ {k:Nat} {v:V} (h:m2 k v=false):m3 k v=false:=by
 cases v<;>first | exact h | (simp[m2,m1]at h)
theorem AwG (k:Nat) (v:V):m3 k (RU k v)=false:=by
 unfold RU
 split
 ·rfl
 ·rename_i h;simpa using h
section
variable {F:Fr} {β β':Nat→Base} {own own':Nat→Option (Nat×List Nat)} {H H':Hp} {w:World}
theorem VR.other {v:V} {x:Value} (h:VR F β own H w v x) {ex:Nat→Prop} (hm:∀k,ex k→m3 k v=false) (hS:∀fl b,1≤fl→F.S w own fl b→F.S w own' fl b)
 (hβ:∀j,¬ex j→β' j=β j) (ha:∀j,¬ex j→Ah (H' j)=Ah (H j)) (hv:∀j cs,¬ex j→H j= .var cs→∃cs',H' j= .var cs') (hd:∀j,¬ex j→H j= .dead→H' j= .dead):
 VR F β' own' H' w v x:=by
 induction h with
 | sc h1=>exact .sc h1
 | nil e=>exact .nil e
 | rd h1 h=>exact .rd h1 (h.move (fun b=>hS _ b h1) (fun _ _=>rfl))
 | rptr h1 h=>exact .rptr h1 (h.move (fun b=>hS _ b h1) (fun _ _=>rfl))
 | @arr k e t len cs h=>
  have hk:¬ex k:=fun hh=>by have:=hm k hh;simp[m3,m2,m1]at this
  rw[←hβ k hk]
  exact .arr (by rw[ha k hk];exact h)
 | @sub k off e t len n cs x h hn hx=>
  have hk:¬ex k:=fun hh=>by have:=hm k hh;simp[m3,m2,m1]at this
  exact .sub (by rw[ha k hk];exact h) hn (by rw[hβ k hk];exact hx)
 | @ptr k off b o h hb=>
  have hk:¬ex k:=fun hh=>by have:=hm k hh;simp[m3,m2,m1]at this
  refine .ptr ?_ (by rw[hβ k hk];exact hb)
  rcases h with h | ⟨cs,h⟩
  ·left
   rw[FJ]at h⊢
   rw[ha k hk];exact h
  ·right;exact hv k cs hk h
 | @goneA k _ _ _ h=>
  have hk:¬ex k:=fun hh=>by have:=hm k hh;simp[m3,m2,m1]at this
  exact .goneA (hd k hk h)
 | @goneS k _ _ _ _ _ h=>
  have hk:¬ex k:=fun hh=>by have:=hm k hh;simp[m3,m2,m1]at this
  exact .goneS (hd k hk h)
 | @goneP k _ _ _ h=>
  have hk:¬ex k:=fun hh=>by have:=hm k hh;simp[m3,m2,m1]at this
  exact .goneP (hd k hk h)
 | @fn g caps f vs hf hv2 hc ih=>
  refine .fn hf hv2 fun i v x hv' hx=>ih i v x hv' hx fun k hk=> ?_
  have:=hm k hk
  simp only[m3,m2,List.any_eq_false]at this
  exact AEJ (by simpa using this v (List.mem_of_getElem? hv'))
 | @agg cs vs h1 hv2 hc ih=>
  refine .agg h1 hv2 fun i v x hv' hx=>ih i v x hv' hx fun k hk=> ?_
  have:=hm k hk
  simp only[m3,m2,List.any_eq_false]at this
  exact AEJ (by simpa using this v (List.mem_of_getElem? hv'))
 | @tup cs vs hv2 hc ih=>
  refine .tup hv2 fun i v x hv' hx=>ih i v x hv' hx fun k hk=> ?_
  have:=hm k hk
  simp only[m3,List.any_eq_false]at this
  exact AGQ (by simpa using this v (List.mem_of_getElem? hv'))
 | undef=>exact .undef
def Rj (own:Nat→Option (Nat×List Nat)) (k:Nat):Nat→Option (Nat×List Nat):=fun b=>
 match own b with
 | some (k',p)=>if k' =k then none else some (k',p)
 | none=>none
theorem OL {k b:Nat} {q:Nat×List Nat} (h:Rj own k b=some q):own b=some q∧q.1≠k:=by
 unfold Rj at h
 cases ho:own b with
 | none=>simp[ho]at h
 | some r=>
  obtain⟨k',p⟩:=r
  simp only[ho]at h
  split at h
  ·cases h
  ·cases h;exact⟨rfl,‹_›⟩
theorem YJ {k b:Nat} {q:Nat×List Nat} (h:own b=some q) (hk:q.1≠k):Rj own k b=some q:=by
 unfold Rj
 rw[h]
 obtain⟨k',p⟩:=q
 simp at hk⊢
 exact hk
theorem AfB (k:Nat) (o:O):Ah (O4 k o)=Ah o:=by
 cases o with
 | tarr j off e t len cs=>simp only[O4];split<;>rfl
 | _=>rfl
theorem AkH {k:Nat} {o:O}:O4 k o= .free↔o= .free:=by
 cases o with
 | tarr j off e t len cs=>simp only[O4];split<;>simp
 | _=>simp[O4]
theorem AFn {k:Nat} {o:O}:O4 k o= .dead↔o= .dead:=by
 cases o with
 | tarr j off e t len cs=>simp only[O4];split<;>simp
 | _=>simp[O4]
def M9 (H:Hp) (k:Nat):Hp:=fun j=>if j=k then .free else O4 k (H j)
theorem AEt (inv:Inv F β own H w) {k:Nat} {v:V} {x:Value} (h:VR F β own H w v x) (hm:m3 k v=false):VR F β (Rj own k) (M9 H k) w v x:=by
 refine h.other (ex:=fun j=>j=k) (fun j hj=>by rw[hj];exact hm) ?_ (fun _ _=>rfl) ?_ ?_ ?_
 ·intro fl b h1 hs
  match fl,h1 with
  | 1,_=>exact hs
  | 2,_=>exact⟨hs.1,hs.2.1,fun k' hk'=>hs.2.2 k' (OL hk').1⟩
  | 3,_=>exact hs
  | n+4,_=>exact⟨hs.1,hs.2.1,fun k' hk'=>hs.2.2 k' (OL hk').1⟩
 ·intro j hj
  simp only[M9,if_neg hj]
  exact AfB k (H j)
 ·intro j cs hj h
  exact⟨cs.map (RU k),by simp only[M9,if_neg hj,h,O4]⟩
 ·intro j hj h
  simp only[M9,if_neg hj,h,O4]
theorem Asp (inv:Inv F β own H w) {k:Nat} {v:V} {x:Value} (h:VR F β own H w v x):VR F β (Rj own k) (M9 H k) w (RU k v) x:=by
 unfold RU
 split
 ·exact .undef
 ·rename_i hm
  exact AEt inv h (by simpa using hm)
theorem AE9 {k fl b:Nat} (h1:1≤fl) (hs:F.S w own fl b):F.S w (Rj own k) fl b:=by
 match fl,h1 with
 | 1,_=>exact hs
 | 2,_=>exact⟨hs.1,hs.2.1,fun k' hk'=>hs.2.2 k' (OL hk').1⟩
 | 3,_=>exact hs
 | n+4,_=>exact⟨hs.1,hs.2.1,fun k' hk'=>hs.2.2 k' (OL hk').1⟩
theorem Aqy {j k:Nat} (hj:j≠k) {B:Base} {e t len:Nat} {cs:List V} (h:AR F own w j B e t len cs):AR F (Rj own k) w j B e t len cs:=by
 obtain⟨vs,g1,g2,g3,g4,g5⟩:=h
 refine⟨vs,g1,g2,g3,?_,?_⟩
 ·rcases g4 with g4 | ⟨b,o,q1,q2,q3⟩
  ·exact .inl g4
  ·exact .inr ⟨b,o,q1,YJ q2 hj,q3⟩
 ·intro i v x hv hx
  exact(g5 i v x hv hx).move (Nat.le_refl _) (fun fl b h1 _ hs=>AE9 h1 hs) (fun _ _ _ _ _=>rfl) (fun b q hb=>⟨YJ hb hj,rfl⟩)
theorem Az0 (inv:Inv F β own H w) {k:Nat} (hk:F.ngiven≤k):Inv F β (Rj own k) (M9 H k) w:=by
 refine⟨inv.size,inv.keep,inv.os,inv.tape,inv.output,?_,inv.glob,?_,?_,?_⟩
 ·intro b p hp
  exact inv.ownb b p (OL hp).1
 ·intro j
  by_cases hj:j=k
  ·subst hj;simp only[M9,if_true];trivial
  ·have ho:=inv.objs j
   simp only[M9,if_neg hj]
   cases hH:H j with
   | free=>trivial
   | dead=>trivial
   | var cs=>
    rw[hH]at ho
    obtain⟨b,o,vs,g1,g2,g3,g4,g5⟩:=ho
    refine⟨b,o,vs,g1,YJ g2 hj,by simpa using g3,g4,?_⟩
    intro i v x hv hx
    simp only[List.getElem?_map,Option.map_eq_some_iff]at hv
    obtain⟨v0,hv0,rfl⟩:=hv
    exact Asp inv (g5 i v0 x hv0 hx)
   | arr e t len cs=>rw[hH]at ho;exact Aqy hj ho
   | tarr k2 off e t len cs=>
    rw[hH]at ho
    obtain⟨g1,g2,⟨g3,g4⟩,g5⟩:=ho
    simp only[O4]
    split
    ·exact Aqy hj g1
    ·rename_i hk2
     refine⟨Aqy hj g1,g2,⟨g3,?_⟩,?_⟩
     ·simp only[M9,if_neg hk2]
      exact fun h=>g4 (AkH.1 h)
     ·intro ha
      simp only[M9,if_neg hk2]at ha
      obtain⟨b,o,q1,q2,q3⟩:=g5 (by
       rw[FJ]at ha⊢
       rw[AfB]at ha;exact ha)
      exact⟨b,o,q1,YJ q2 hk2,q3⟩
 ·intro j hj hd
  refine inv.given j hj fun h=>hd ?_
  have hne:j≠k:=by omega
  simp only[M9,if_neg hne,h,O4]
 ·intro j hj h
  have hne:j≠k:=by omega
  simp only[M9,if_neg hne]at h
  exact inv.gfree j hj (AkH.1 h)
end
theorem X4 (H:List O) (k j:Nat):hp ((H.map (O4 k)).set k .free) j=M9 (hp H) k j:=by
 unfold M9 hp
 by_cases hj:j=k
 ·subst hj
  rw[if_pos rfl,List.getD_eq_getElem?_getD,List.getElem?_set]
  simp
  split<;>rfl
 ·rw[if_neg hj,List.getD_eq_getElem?_getD,List.getElem?_set,if_neg (fun h=>hj h.symm),List.getElem?_map,List.getD_eq_getElem?_getD]
  cases H[j]? <;>rfl
structure Rel (F:Fr) (st:List Tmp) (nt:Nat) (β:Nat→Base) (own:Nat→Option (Nat×List Nat)) (s:St) (a:Act) (w:World):Prop where
 inv:Inv F β own (hp s.H) w
 env:∀(i:Nat) (t:Tmp),st[i]? =some t→VR F β own (hp s.H) w (s.env.getD i .undef) (a.tmps.getD t undef)
 nt:a.tmps.size=nt
 defers:a.defers=[]
theorem getD_map {α β:Type} (l:List α) (f:α→β) (i:Nat) (d:α) (d':β) (h:f d=d'):(l.map f).getD i d' =f (l.getD i d):=by
 simp only[List.getD_eq_getElem?_getD,List.getElem?_map]
 cases l[i]? <;>simp[h]
theorem Ars {F:Fr} {st:List Tmp} {nt:Nat} {β:Nat→Base} {own:Nat→Option (Nat×List Nat)} {s:St} {a:Act} {w:World} (r:Rel F st nt β own s a w) {k:Nat} (hk:F.ngiven≤k):
 Rel F st nt β (Rj own k) (kill s k) a w:=by
 have hH:hp (kill s k).H=M9 (hp s.H) k:=funext fun j=>X4 s.H k j
 refine⟨by rw[hH];exact Az0 r.inv hk,?_,r.nt,r.defers⟩
 intro i t hi
 rw[hH]
 show VR F β _ _ w ((s.env.map (RU k)).getD i .undef) _
 rw[getD_map (d:=V.undef) (h:=by simp[RU,m3,m2,m1])]
 exact Asp r.inv (r.env i t hi)
theorem AfH {F:Fr} {st:List Tmp} {nt:Nat} {a:Act} {w:World}:∀ {ks:List Nat} {β:Nat→Base} {own:Nat→Option (Nat×List Nat)} {s:St},Rel F st nt β own s a w→(∀k,k∈ks→F.ngiven≤k)→
 ∃own',Rel F st nt β own' (Ej s ks) a w
 | [],_,own,_,r,_=>⟨own,r⟩
 | k::ks,_,_,_,r,h=>AfH (ks:=ks) (Ars r (h k (by simp))) fun k hk=>h k (by simp[hk])
end Go.Eng
