/- Own work: part 18 of the proof of FnEvents. -/
import Derived.Test.YtfdnolfnbmnafaaGreatEngQ
set_option linter.unusedSimpArgs false
set_option linter.unusedVariables false
namespace Go.Eng
def ARS (Ah:Nat→Option FuncId) (S:Nat→Nat→Prop) (own:Nat→Option (Nat×List Nat)) (w:World) (k:Nat) (B:Base) (e t len:Nat) (cs:List V):Prop:=
 ∃vs:List Value,vs.length=cs.length∧cs.length=len*e∧(len≤B.cap∧B.cap≤9223372036854775807)∧
  (B.cap*e=0∨∃b o,B.a=some ⟨b,o,none⟩∧own b=some (k,[])∧Has w b o vs (B.cap*e))∧
  ∀(i:Nat) (v:V) (x:Value),cs[i]? =some v→vs[i]? =some x→Ow Ah w own S t k [i] v x
def BR (F:Fr) (own:Nat→Option (Nat×List Nat)) (w:World) (i:Nat):O→Prop
 | .dead=>True
 | .arr e t len cs=>t=0∧ARS F.Ah (fun _ b=>F.G b) own w i (F.β0 i) e 0 len cs
 | .var cs=>∃(b o:Nat) (vs:List Value),(F.β0 i).a=some ⟨b,o,none⟩∧own b=some (i,[])∧vs.length=cs.length∧Has w b o vs vs.length∧
  ∀(j:Nat) (v:V) (x:Value),cs[j]? =some v→vs[j]? =some x→Rd F.Ah w F.G v x
 | _=>False
structure Post (F:Fr) (outs:List O) (res:V) (x:Value) (w':World) (own':Nat→Option (Nat×List Nat)):Prop where
 size:F.w0.heap.size≤w'.heap.size
 os:w'.os=F.w0.os
 tape:w'.tape=F.w0.tape
 output:w'.output=F.w0.output
 keep:∀b,b<F.w0.heap.size→F.own0 b=none→w'.heap[b]? =F.w0.heap[b]?
 lab:∀b p,own' b=some p→b<w'.heap.size∧(b<F.w0.heap.size→F.own0 b≠none)
 res:Ow F.Ah w' own' (fun _ b=>F.G b) 0 F.ngiven [] res x
 outl:outs.length=F.ngiven
 out:∀i o,outs[i]? =some o→BR F own' w' i o
def Den (P:Program) (Ah:Nat→Option FuncId) (G:Gl):Dn:=fun g args given res outs=>
 ∀id,Ah g=some id→∀F:Fr,F.Ah=Ah→F.G=G→F.bor=false→F.takes=[]→F.ngiven=given.length→Inv F F.β0 F.own0 (hp given) F.w0→
  ∀xs,Pw (VR F F.β0 F.own0 (hp given) F.w0) args xs→
   Calls P id xs.toArray F.w0 fun | .returned x,w'=>∃own',Post F outs res x w' own' | _,_=>False
def idx (ks:List Nat) (k:Nat):Option Nat:=if k∈ks then some (ks.idxOf k)else none
def FH (ks:List Nat) (own:Nat→Option (Nat×List Nat)):Nat→Option (Nat×List Nat):=fun b=>
 match own b with
 | some (k,p)=>(idx ks k).map fun i=>(i,p)
 | none=>none
theorem AN4 {ks:List Nat} {k i:Nat} (h:idx ks k=some i):ks[i]? =some k:=by
 unfold idx at h
 split at h
 ·rename_i hk
  cases h
  rw[List.getElem?_eq_getElem (List.idxOf_lt_length_of_mem hk)]
  simp
 ·cases h
theorem AJ3 {ks:List Nat} (hn:ks.Nodup) {k i:Nat} (h:ks[i]? =some k):idx ks k=some i:=by
 have hk:k∈ks:=List.mem_of_getElem? h
 unfold idx
 rw[if_pos hk]
 congr 1
 obtain⟨h1,h2⟩:=List.getElem?_eq_some_iff.1 h
 subst h2
 exact hn.idxOf_getElem i h1
section
variable {P:Program} {F:Fr} {β:Nat→Base} {own:Nat→Option (Nat×List Nat)} {H:Hp} {w w':World} {ks:List Nat}
theorem NT {b:Nat} (h:own b=none):FH ks own b=none:=by unfold FH;rw[h]
theorem J6 {b k:Nat} {p:List Nat} (h:own b=some (k,p)) (hk:k∉ks):FH ks own b=none:=by
 unfold FH;rw[h];simp[idx,hk]
theorem Ayg {b:Nat} {q:Nat×List Nat} (h:FH ks own b=some q):∃k,own b=some (k,q.2)∧idx ks k=some q.1:=by
 unfold FH at h
 cases ho:own b with
 | none=>simp[ho]at h
 | some r=>
  obtain⟨k,p⟩:=r
  simp only[ho,Option.map_eq_some_iff]at h
  obtain⟨i,h1,rfl⟩:=h
  exact⟨k,rfl,h1⟩
def callee (F:Fr) (β:Nat→Base) (own:Nat→Option (Nat×List Nat)) (w:World) (ks:List Nat):Fr:=
 {Ah:=F.Ah,w0:=w,own0:=FH ks own,β0:=fun i=>β (ks.getD i 0),ngiven:=ks.length,G:=F.G,bor:=false,takes:=[]}
theorem AHQ (inv:Inv F β own H w) (hbor:F.bor=true→∀k b p,k∈ks→own b=some (k,p)→p=[]) {fl b:Nat} (h1:1≤fl) (h:F.S w own fl b):b<w.heap.size∧FH ks own b=none:=by
 have key:b<F.w0.heap.size→F.own0 b=none→b<w.heap.size∧FH ks own b=none:=by
  intro h1 h2
  refine⟨Nat.lt_of_lt_of_le h1 inv.size,?_⟩
  cases ho:own b with
  | none=>exact NT ho
  | some q=>exact absurd h2 ((inv.ownb b q ho).2 h1)
 have two:F.bor=true→b<w.heap.size→(∀k,own b≠some (k,[]))→b<w.heap.size∧FH ks own b=none:=by
  intro hb hs hr
  refine⟨hs,?_⟩
  cases ho:own b with
  | none=>exact NT ho
  | some q=>exact J6 (k:=q.1) (p:=q.2) ho (fun hk=>hr q.1 (by rw[ho];have:=hbor hb q.1 b q.2 hk ho;rw[←this]))
 match fl,h1 with
 | 1,_=>exact key h.1 h.2
 | 2,_=>exact two h.1 h.2.1 h.2.2
 | 3,_=>exact key (inv.glob b h).1 (inv.glob b h).2.1
 | n+4,_=>exact two h.1 h.2.1 h.2.2
abbrev Q1 (ks:List Nat) (own:Nat→Option (Nat×List Nat)) (w:World):Nat→Prop:=fun b=>b<w.heap.size∧FH ks own b=none
theorem AIy (inv:Inv F β own H w) (hbor:F.bor=true→∀k b p,k∈ks→own b=some (k,p)→p=[]) {fl:Nat} (h1:1≤fl) {v:V} {x:Value} (h:Rd F.Ah w (F.S w own fl) v x):Rd F.Ah w (Q1 ks own w) v x:=
 h.move (fun _ hb=>AHQ inv hbor h1 hb) (fun _ _=>rfl)
theorem ANN (inv:Inv F β own H w) (hbor:F.bor=true→∀k b p,k∈ks→own b=some (k,p)→p=[]) {t k:Nat} (hk:k∉ks) {p:List Nat} {v:V} {x:Value} (h:Ow F.Ah w own (F.S w own) t k p v x):
 Rd F.Ah w (Q1 ks own w) v x:=by
 induction h with
 | sc h1=>exact .sc h1
 | @own p e len cells a cap vs hl hw hv hm hc ih=>
  refine .sl hl.1 hw hv ?_ ih
  rcases hm with hm | ⟨b,o,ha,hb,hr⟩
  ·left
   have:len*e≤cap*e:=Nat.mul_le_mul_right _ hl.1
   exact List.eq_nil_of_length_eq_zero (by omega)
  ·exact .inr ⟨b,o,ha,⟨Sj hr,J6 hb hk⟩,EF hr⟩
 | ro h1 h2 h=>exact AIy inv hbor h1 h
 | @ptr p cells b o vs hv hb hm hc ih=>
  have:=Rd.rptr (Ah:=F.Ah) (w:=w) (P:=Q1 ks own w) (fl:=0) (cells:=cells) (off:=0) (b:=b) (o:=o) (vs:=vs) hv ⟨Sj hm,J6 hb hk⟩ (EF hm) ih
  simpa using this
 | rptr h1 h2 h=>exact AIy inv hbor h1 h
 | fn h2 h=>exact AIy inv hbor (Nat.le_refl 1) h
 | agg h1 hv hc ih=>exact .agg h1 hv ih
 | tup hv hc ih=>exact .tup hv ih
 | undef=>exact .undef
variable {β1:Nat→Base} {H1:Hp}
theorem AgE {Ah:Nat→Option FuncId} {Q:Nat→Prop} {fl fl' e len:Nat} {cs:List V} {x:Value} (h:Rd Ah w Q (.sl fl e len cs) x):Rd Ah w Q (.sl fl' e len (cs.map (Be 0))) x:=by
 cases h with
 | @sl _ _ _ _ a cap vs hl hw hv hm hc=>
  refine .sl hl (by simpa using hw) (by simpa using hv) ?_ ?_
  ·rcases hm with hm | hm
   ·exact .inl (by simp[hm])
   ·exact .inr hm
  ·intro i v x hv' hx
   simp only[List.getElem?_map,Option.map_eq_some_iff]at hv'
   obtain⟨u,hu,rfl⟩:=hv'
   exact(hc i u x hu hx).flag 0
theorem Az6 {Ah:Nat→Option FuncId} {Q:Nat→Prop} {fl fl' off:Nat} {cs:List V} {x:Value} (h:Rd Ah w Q (.rptr fl cs off) x):Rd Ah w Q (.rptr fl' (cs.map (Be 0)) off) x:=by
 cases h with
 | @rptr _ _ _ b o vs hv hP hm hc=>
  refine .rptr (by simpa using hv) hP hm ?_
  intro i v x hv' hx
  simp only[List.getElem?_map,Option.map_eq_some_iff]at hv'
  obtain⟨u,hu,rfl⟩:=hv'
  exact(hc i u x hu hx).flag 0
theorem U2 (inv:Inv F β own H w) (hbor:F.bor=true→∀k b p,k∈ks→own b=some (k,p)→p=[]) {Hm:Hp} (hm:∀k,Hm k=H k∨Hm k= .dead) (hks:∀k,k∈ks→Hm k= .dead) {v v':V} {x:Value} (hv:VR F β own H w v x)
 (h:ro1 Hm v=some v'):Rd F.Ah w (Q1 ks own w) v' x∧VR (callee F β own w ks) β1 (FH ks own) H1 w v' x:=by
 have one:∀ {e len:Nat} {cs:List V} {x:Value},Rd F.Ah w (Q1 ks own w) (.sl 1 e len cs) x→VR (callee F β own w ks) β1 (FH ks own) H1 w (.sl 1 e len cs) x:=
  fun h=> .rd (Nat.le_refl 1) h
 have nks:∀ {k:Nat} {r:Nat×Nat×Nat×List V},Al (Hm k)=some r→k∉ks:=by
  intro k r hr hk
  rw[hks k hk]at hr
  simp[Al]at hr
 cases v with
 | sc u=>cases h;cases hv;exact⟨.sc ‹_›,.sc ‹_›⟩
 | nil e=>
  cases h;cases hv
  have:Rd F.Ah w (Q1 ks own w) (.sl 1 e 0 []) (.slice none 0 0):= .sl (vs:=[]) (Nat.le_refl 0) (by simp) rfl (.inl rfl) (by simp)
  exact⟨this,one this⟩
 | undef=>cases h;exact⟨.undef,.undef⟩
 | sl fl e len cs=>
  cases hv with
  | rd h1 hr=>
   have h2:=AIy inv hbor h1 hr
   have h1':Rd F.Ah w (Q1 ks own w) (.sl 1 e len (cs.map (Be 0))) x:=AgE h2
   match fl,h1 with
   | 1,_=>cases h;exact⟨h1',one h1'⟩
   | 2,_=>cases h;exact⟨h1',one h1'⟩
   | 3,_=>cases h;exact⟨h2,.rd (by omega) hr⟩
   | n+4,_=>cases h;exact⟨h1',one h1'⟩
 | arr k=>
  simp only[ro1]at h
  cases hk:Al (Hm k)with
  | none=>simp[hk]at h
  | some r=>
   obtain⟨e,t,len,cs⟩:=r
   simp only[hk]at h
   cases h
   have hk':=IY hm hk
   obtain⟨vs,g1,g2,g3,g4,g5⟩:=Nj inv hk'
   rw[IW hv hk']
   have:Rd F.Ah w (Q1 ks own w) (.sl 1 e len cs) (.slice (β k).a len (β k).cap):=by
    refine .sl g3.1 g2 g1 ?_ (fun i v x hv hx=>ANN inv hbor (nks hk) (g5 i v x hv hx))
    rcases g4 with g4 | ⟨b,o,q1,q2,q3⟩
    ·left
     have:len*e≤(β k).cap*e:=Nat.mul_le_mul_right _ g3.1
     exact List.eq_nil_of_length_eq_zero (by omega)
    ·exact .inr ⟨b,o,q1,⟨Sj q3,J6 q2 (nks hk)⟩,EF q3⟩
   exact⟨AgE this,one (AgE this)⟩
 | sub k off len=>
  simp only[ro1]at h
  cases hk:Al (Hm k)with
  | none=>simp[hk]at h
  | some r=>
   obtain⟨e,t,n,cs⟩:=r
   simp only[hk]at h
   cases h
   have hk':=IY hm hk
   obtain⟨vs,g1,g2,g3,g4,g5⟩:=Nj inv hk'
   obtain⟨hn,a',rfl,hcap,ha'⟩:=QW hv hk'
   have hpl:(part cs e off len).length=len*e:=Va cs e off len n g2 hn
   have:Rd F.Ah w (Q1 ks own w) (.sl 1 e len (part cs e off len)) (.slice a' len ((β k).cap-off)):=by
    refine .sl (vs:=(vs.drop (off*e)).take (len*e)) (by omega) hpl (by rw[hpl];exact Va vs e off len n (by rw[g1];exact g2) hn) ?_ ?_
    ·rcases ha' with ha' | ha'
     ·left
      have h0:len=0:=by omega
      subst h0
      exact List.eq_nil_of_length_eq_zero (by rw[hpl];simp)
     ·rcases g4 with g4 | ⟨b,o,q1,q2,q3⟩
      ·left
       have h3:(off+len)*e≤(β k).cap*e:=Nat.mul_le_mul_right _ hcap
       rw[Nat.add_mul]at h3
       exact List.eq_nil_of_length_eq_zero (by rw[hpl];omega)
      ·refine .inr ⟨b,o+off*e,by rw[ha',q1];simp[Q7],⟨Sj q3,J6 q2 (nks hk)⟩,AnO (EF q3)⟩
    ·intro i v x hv hx
     unfold part at hv
     rw[Ie]at hv hx
     split at hv
     ·rename_i hi
      rw[if_pos hi]at hx
      exact ANN inv hbor (nks hk) (g5 _ v x hv hx)
     ·cases hv
   exact⟨AgE this,one (AgE this)⟩
 | _=>simp[ro1]at h
theorem Aze (inv:Inv F β own H w) (hbor:F.bor=true→∀k b p,k∈ks→own b=some (k,p)→p=[]) {Hm:Hp} (hm:∀k,Hm k=H k∨Hm k= .dead) (hks:∀k,k∈ks→Hm k= .dead):∀ {vs vs':List V} {xs:List Value},
 Pw (VR F β own H w) vs xs→roL Hm vs=some vs'→Pw (Rd F.Ah w (Q1 ks own w)) vs' xs∧Pw (VR (callee F β own w ks) β1 (FH ks own) H1 w) vs' xs:=by
 intro vs
 induction vs with
 | nil=>intro vs' xs hv h;cases h;rw[hv.PO];exact⟨.nil,.nil⟩
 | cons v r ih=>
  intro vs' xs hv h
  obtain⟨x,xr,rfl,hvx,hr⟩:=hv.Ju
  simp only[roL]at h
  split at h
  ·rename_i a b ha hb
   cases h
   obtain⟨g1,g2⟩:=U2 (β1:=β1) (H1:=H1) inv hbor hm hks hvx ha
   obtain⟨g3,g4⟩:=ih hr hb
   exact⟨.cons g1 g3,.cons g2 g4⟩
  ·cases h
theorem OA (inv:Inv F β own H w) (hbor:F.bor=true→∀k b p,k∈ks→own b=some (k,p)→p=[]) {Hm:Hp} (hm:∀k,Hm k=H k∨Hm k= .dead) (hks:∀k,k∈ks→Hm k= .dead) {v v':V} {x:Value} (hv:VR F β own H w v x)
 (h:ro2 Hm v=some v'):VR (callee F β own w ks) β1 (FH ks own) H1 w v' x:=by
 cases v with
 | ptr k off=>
  simp only[ro2]at h
  split at h
  ·rename_i cs hc
   split at h
   ·rename_i cs' hcs
    cases h
    have hkd:k∉ks:=fun hk=>by rw[hks k hk]at hc;cases hc
    have hk:H k= .var cs:=by
     rcases hm k with g | g
     ·rw[←g];exact hc
     ·rw[g]at hc;cases hc
    have ho:=inv.objs k
    rw[hk]at ho
    obtain⟨b,o,vs,g1,g2,g3,g4,g5⟩:=ho
    obtain⟨q1,_⟩:=Aze (β1:=β1) (H1:=H1) inv hbor hm hks (vs:=cs) (xs:=vs) ⟨g3,g5⟩ hcs
    cases hv with
    | goneP g=>rw[hk]at g;cases g
    | @ptr _ _ b' o' h1 h2=>
     rw[g1]at h2
     cases h2
     exact .rptr (Nat.le_refl 1) (Az6 (fl:=1) (.rptr q1.1 ⟨Sj g4,J6 g2 hkd⟩ (EF g4) q1.2))
   ·cases h
  ·cases h
 | rptr fl cs off=>
  simp only[ro2]at h
  split at h
  ·cases h
  ·rename_i hfl
   cases h
   cases hv with
   | rptr h1 hr=>
    by_cases h3:fl=3
    ·subst h3
     rw[if_pos rfl]
     exact .rptr (by omega) hr
    ·rw[if_neg h3]
     exact .rptr (Nat.le_refl 1) (Az6 (AIy inv hbor h1 hr))
 | sc _=>exact(U2 inv hbor hm hks hv h).2
 | nil _=>exact(U2 inv hbor hm hks hv h).2
 | sl _ _ _ _=>exact(U2 inv hbor hm hks hv h).2
 | arr _=>exact(U2 inv hbor hm hks hv h).2
 | sub _ _ _=>exact(U2 inv hbor hm hks hv h).2
 | undef=>exact(U2 inv hbor hm hks hv h).2
 | fn _ _=>simp[ro2,ro1]at h
 | agg _=>simp[ro2,ro1]at h
 | tup _=>simp[ro2,ro1]at h
theorem AF7 (inv:Inv F β own H w) (hbor:F.bor=true→∀k b p,k∈ks→own b=some (k,p)→p=[]) {Hm:Hp} (hm:∀k,Hm k=H k∨Hm k= .dead) (hks:∀k,k∈ks→Hm k= .dead):∀ {vs vs':List V} {xs:List Value},
 Pw (VR F β own H w) vs xs→ABV Hm vs=some vs'→Pw (VR (callee F β own w ks) β1 (FH ks own) H1 w) vs' xs:=by
 intro vs
 induction vs with
 | nil=>intro vs' xs hv h;cases h;rw[hv.PO];exact .nil
 | cons v r ih=>
  intro vs' xs hv h
  obtain⟨x,xr,rfl,hvx,hr⟩:=hv.Ju
  simp only[ABV]at h
  split at h
  ·rename_i a b ha hb
   cases h
   exact .cons (OA inv hbor hm hks hvx ha) (ih hr hb)
  ·cases h
theorem AKj (inv:Inv F β own H w) (hbor:F.bor=true→∀k b p,k∈ks→own b=some (k,p)→p=[]) {Hm:Hp} (hm:∀k,Hm k=H k∨Hm k= .dead) (hks:∀k,k∈ks→Hm k= .dead) {v v':V} {x:Value} (hv:VR F β own H w v x)
 (h:ro Hm v=some v'):VR (callee F β own w ks) β1 (FH ks own) H1 w v' x:=by
 cases v with
 | fn g caps=>
  simp only[ro]at h
  split at h
  ·rename_i cs hcs
   cases h
   cases hv with
   | fn hf hv hc=>
    have:=AF7 (β1:=β1) (H1:=H1) inv hbor hm hks ⟨hv,hc⟩ hcs
    exact .fn hf this.1 this.2
  ·cases h
 | agg cs=>
  simp only[ro]at h
  split at h
  ·rename_i cs' hcs
   cases h
   cases hv with
   | agg h1 hv hc=>
    have:=(Aze (β1:=β1) (H1:=H1) inv hbor hm hks ⟨hv,hc⟩ hcs).2
    exact .agg h1 this.1 this.2
  ·cases h
 | sc _=>exact OA inv hbor hm hks hv h
 | nil _=>exact OA inv hbor hm hks hv h
 | sl _ _ _ _=>exact OA inv hbor hm hks hv h
 | arr _=>exact OA inv hbor hm hks hv h
 | sub _ _ _=>exact OA inv hbor hm hks hv h
 | ptr _ _=>exact OA inv hbor hm hks hv h
 | rptr _ _ _=>exact OA inv hbor hm hks hv h
 | undef=>exact OA inv hbor hm hks hv h
 | tup _=>simp[ro,ro2,ro1]at h
end
end Go.Eng
