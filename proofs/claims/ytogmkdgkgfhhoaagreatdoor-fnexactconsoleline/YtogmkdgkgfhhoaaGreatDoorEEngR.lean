/- Own work: part 7 of the proof of FnExactConsoleLine. -/
import Derived.Test.YtogmkdgkgfhhoaaGreatDoorEEngN
set_option linter.unusedSimpArgs false
set_option linter.unusedVariables false
namespace Go.Eng
def ARS (Ae:Nat->Option FuncId) (S:Nat->Nat->Prop) (own:Nat->Option (Nat×List Nat)) (w:World) (k:Nat) (B:Base) (e t len:Nat) (cs:List V):Prop:=
 ∃vs:List Value,vs.length=cs.length/\cs.length=len*e/\(len<=B.cap/\B.cap<=9223372036854775807)/\
  (B.cap*e=0∨∃b o,B.a=some ⟨b,o,none⟩/\own b=some (k,[])/\Has w b o vs (B.cap*e))/\
  ∀(i:Nat) (v:V) (x:Value),cs[i]? =some v->vs[i]? =some x->Ow Ae w own S t k [i] v x
def BR (F:Fr) (own:Nat->Option (Nat×List Nat)) (w:World) (i:Nat):O->Prop
 | .dead=>True
 | .arr e t len cs=>t=0/\ARS F.Ae (fun _ b=>F.G b) own w i (F.β0 i) e 0 len cs
 | .var cs=>∃(b o:Nat) (vs:List Value),(F.β0 i).a=some ⟨b,o,none⟩/\own b=some (i,[])/\vs.length=cs.length/\Has w b o vs vs.length/\
  ∀(j:Nat) (v:V) (x:Value),cs[j]? =some v->vs[j]? =some x->Rd F.Ae w F.G v x
 | _=>False
structure Post (F:Fr) (outs:List O) (res:V) (x:Value) (w':World) (own':Nat->Option (Nat×List Nat)):Prop where
 size:F.w0.heap.size<=w'.heap.size
 os:w'.os=F.w0.os
 tape:w'.tape=F.w0.tape
 output:w'.output=F.w0.output
 keep:∀b,b<F.w0.heap.size->F.own0 b=none->w'.heap[b]? =F.w0.heap[b]?
 lab:∀b p,own' b=some p->b<w'.heap.size/\(b<F.w0.heap.size->F.own0 b≠none)
 res:Ow F.Ae w' own' (fun _ b=>F.G b) 0 F.ngiven [] res x
 outl:outs.length=F.ngiven
 out:∀i o,outs[i]? =some o->BR F own' w' i o
def Den (P:Program) (Ae:Nat->Option FuncId) (G:Gl):Dn:=fun g args given res outs=>
 ∀id,Ae g=some id->∀F:Fr,F.Ae=Ae->F.G=G->F.bor=false->F.takes=[]->F.ngiven=given.length->Inv F F.β0 F.own0 (hp given) F.w0->
  ∀xs,Pw (VR F F.β0 F.own0 (hp given) F.w0) args xs->
   Calls P id xs.toArray F.w0 fun | .returned x,w'=>∃own',Post F outs res x w' own' | _,_=>False
def idx (ks:List Nat) (k:Nat):Option Nat:=if k∈ks then some (ks.idxOf k)else none
def Dv (ks:List Nat) (own:Nat->Option (Nat×List Nat)):Nat->Option (Nat×List Nat):=fun b=>
 match own b with
 | some (k,p)=>(idx ks k).map fun i=>(i,p)
 | none=>none
theorem AoT {ks:List Nat} (hn:ks.Nodup) {k i:Nat} (h:ks[i]? =some k):idx ks k=some i:=by
 have hk:k∈ks:=List.mem_of_getElem? h
 unfold idx
 rw[if_pos hk]
 congr 1
 obtain⟨h1,h2⟩:=List.getElem?_eq_some_iff.1 h
 subst h2
 exact hn.idxOf_getElem i h1
section
variable {P:Program} {F:Fr} {β:Nat->Base} {own:Nat->Option (Nat×List Nat)} {H:Hp} {w w':World} {ks:List Nat}
theorem Ih {b:Nat} (h:own b=none):Dv ks own b=none:=by unfold Dv;rw[h]
theorem FT {b k:Nat} {p:List Nat} (h:own b=some (k,p)) (hk:k∉ks):Dv ks own b=none:=by
 unfold Dv;rw[h];simp[idx,hk]
theorem AgG {b:Nat} {q:Nat×List Nat} (h:Dv ks own b=some q):∃k,own b=some (k,q.2)/\idx ks k=some q.1:=by
 unfold Dv at h
 cases ho:own b with
 | none=>simp[ho]at h
 | some r=>
  obtain⟨k,p⟩:=r
  simp only[ho,Option.map_eq_some_iff]at h
  obtain⟨i,h1,rfl⟩:=h
  exact⟨k,rfl,h1⟩
def callee (F:Fr) (β:Nat->Base) (own:Nat->Option (Nat×List Nat)) (w:World) (ks:List Nat):Fr:=
 {Ae:=F.Ae,w0:=w,own0:=Dv ks own,β0:=fun i=>β (ks.getD i 0),ngiven:=ks.length,G:=F.G,bor:=false,takes:=[]}
theorem Amk (inv:Inv F β own H w) (hbor:F.bor=true->∀k b p,k∈ks->own b=some (k,p)->p=[]) {fl b:Nat} (h1:1<=fl) (h:F.S w own fl b):b<w.heap.size/\Dv ks own b=none:=by
 have key:b<F.w0.heap.size->F.own0 b=none->b<w.heap.size/\Dv ks own b=none:=by
  intro h1 h2
  refine⟨Nat.lt_of_lt_of_le h1 inv.size,?_⟩
  cases ho:own b with
  | none=>exact Ih ho
  | some q=>exact absurd h2 ((inv.ownb b q ho).2 h1)
 have two:F.bor=true->b<w.heap.size->(∀k,own b≠some (k,[]))->b<w.heap.size/\Dv ks own b=none:=by
  intro hb hs hr
  refine⟨hs,?_⟩
  cases ho:own b with
  | none=>exact Ih ho
  | some q=>exact FT (k:=q.1) (p:=q.2) ho (fun hk=>hr q.1 (by rw[ho];have:=hbor hb q.1 b q.2 hk ho;rw[<-this]))
 match fl,h1 with
 | 1,_=>exact key h.1 h.2
 | 2,_=>exact two h.1 h.2.1 h.2.2
 | 3,_=>exact key (inv.glob b h).1 (inv.glob b h).2.1
 | n+4,_=>exact two h.1 h.2.1 h.2.2
abbrev Q1 (ks:List Nat) (own:Nat->Option (Nat×List Nat)) (w:World):Nat->Prop:=fun b=>b<w.heap.size/\Dv ks own b=none
theorem AmQ (inv:Inv F β own H w) (hbor:F.bor=true->∀k b p,k∈ks->own b=some (k,p)->p=[]) {fl:Nat} (h1:1<=fl) {v:V} {x:Value} (h:Rd F.Ae w (F.S w own fl) v x):Rd F.Ae w (Q1 ks own w) v x:=
 h.move (fun _ hb=>Amk inv hbor h1 hb) (fun _ _=>rfl)
theorem Ary (inv:Inv F β own H w) (hbor:F.bor=true->∀k b p,k∈ks->own b=some (k,p)->p=[]) {t k:Nat} (hk:k∉ks) {p:List Nat} {v:V} {x:Value} (h:Ow F.Ae w own (F.S w own) t k p v x):
 Rd F.Ae w (Q1 ks own w) v x:=by
 induction h with
 | sc h1=>exact .sc h1
 | @own p e len cells a cap vs hl hw hv hm hc ih=>
  refine .sl hl.1 hw hv ?_ ih
  rcases hm with hm | ⟨b,o,ha,hb,hr⟩
  ·left
   have:len*e<=cap*e:=Nat.mul_le_mul_right _ hl.1
   exact List.eq_nil_of_length_eq_zero (by omega)
  ·exact .inr ⟨b,o,ha,⟨TT hr,FT hb hk⟩,DF hr⟩
 | ro h1 h2 h=>exact AmQ inv hbor h1 h
 | @ptr p cells b o vs hv hb hm hc ih=>
  have:=Rd.rptr (Ae:=F.Ae) (w:=w) (P:=Q1 ks own w) (fl:=0) (cells:=cells) (off:=0) (b:=b) (o:=o) (vs:=vs) hv ⟨TT hm,FT hb hk⟩ (DF hm) ih
  simpa using this
 | rptr h1 h2 h=>exact AmQ inv hbor h1 h
 | fn h2 h=>exact AmQ inv hbor (Nat.le_refl 1) h
 | agg h1 hv hc ih=>exact .agg h1 hv ih
 | tup hv hc ih=>exact .tup hv ih
 | undef=>exact .undef
variable {β1:Nat->Base} {H1:Hp}
theorem UN {Ae:Nat->Option FuncId} {Q:Nat->Prop} {fl fl' e len:Nat} {cs:List V} {x:Value} (h:Rd Ae w Q (.sl fl e len cs) x):Rd Ae w Q (.sl fl' e len (cs.map (AO 0))) x:=by
 cases h with
 | @sl _ _ _ _ a cap vs hl hw hv hm hc=>
  refine .sl hl (by simpa using hw) (by simpa using hv) ?_ ?_
  ·rcases hm with hm | hm
   ·exact .inl (by simp[hm])
   ·exact .inr hm
  ·intro i v x hv' hx
   simp only[List.getElem?_map,Option.map_eq_some_iff]at hv'
   obtain⟨u,hu,rfl⟩:=hv'
   exact(hc i u x hu hx).flag 0
theorem Af1 {Ae:Nat->Option FuncId} {Q:Nat->Prop} {fl fl' off:Nat} {cs:List V} {x:Value} (h:Rd Ae w Q (.rptr fl cs off) x):Rd Ae w Q (.rptr fl' (cs.map (AO 0)) off) x:=by
 cases h with
 | @rptr _ _ _ b o vs hv hP hm hc=>
  refine .rptr (by simpa using hv) hP hm ?_
  intro i v x hv' hx
  simp only[List.getElem?_map,Option.map_eq_some_iff]at hv'
  obtain⟨u,hu,rfl⟩:=hv'
  exact(hc i u x hu hx).flag 0
theorem Mq (inv:Inv F β own H w) (hbor:F.bor=true->∀k b p,k∈ks->own b=some (k,p)->p=[]) {Hm:Hp} (hm:∀k,Hm k=H k∨Hm k= .dead) (hks:∀k,k∈ks->Hm k= .dead) {v v':V} {x:Value} (hv:VR F β own H w v x)
 (h:ro1 Hm v=some v'):Rd F.Ae w (Q1 ks own w) v' x/\VR (callee F β own w ks) β1 (Dv ks own) H1 w v' x:=by
 have one:∀ {e len:Nat} {cs:List V} {x:Value},Rd F.Ae w (Q1 ks own w) (.sl 1 e len cs) x->VR (callee F β own w ks) β1 (Dv ks own) H1 w (.sl 1 e len cs) x:=
  fun h=> .rd (Nat.le_refl 1) h
 have nks:∀ {k:Nat} {r:Nat×Nat×Nat×List V},Ac (Hm k)=some r->k∉ks:=by
  intro k r hr hk
  rw[hks k hk]at hr
  simp[Ac]at hr
 cases v with
 | sc u=>cases h;cases hv;exact⟨.sc ‹_›,.sc ‹_›⟩
 | nil e=>
  cases h;cases hv
  have:Rd F.Ae w (Q1 ks own w) (.sl 1 e 0 []) (.slice none 0 0):= .sl (vs:=[]) (Nat.le_refl 0) (by simp) rfl (.inl rfl) (by simp)
  exact⟨this,one this⟩
 | undef=>cases h;exact⟨.undef,.undef⟩
 | sl fl e len cs=>
  cases hv with
  | rd h1 hr=>
   have h2:=AmQ inv hbor h1 hr
   have h1':Rd F.Ae w (Q1 ks own w) (.sl 1 e len (cs.map (AO 0))) x:=UN h2
   match fl,h1 with
   | 1,_=>cases h;exact⟨h1',one h1'⟩
   | 2,_=>cases h;exact⟨h1',one h1'⟩
   | 3,_=>cases h;exact⟨h2,.rd (by omega) hr⟩
   | n+4,_=>cases h;exact⟨h1',one h1'⟩
 | arr k=>
  simp only[ro1]at h
  cases hk:Ac (Hm k)with
  | none=>simp[hk]at h
  | some r=>
   obtain⟨e,t,len,cs⟩:=r
   simp only[hk]at h
   cases h
   have hk':=Fe hm hk
   obtain⟨vs,g1,g2,g3,g4,g5⟩:=Hz inv hk'
   rw[EZ hv hk']
   have:Rd F.Ae w (Q1 ks own w) (.sl 1 e len cs) (.slice (β k).a len (β k).cap):=by
    refine .sl g3.1 g2 g1 ?_ (fun i v x hv hx=>Ary inv hbor (nks hk) (g5 i v x hv hx))
    rcases g4 with g4 | ⟨b,o,q1,q2,q3⟩
    ·left
     have:len*e<=(β k).cap*e:=Nat.mul_le_mul_right _ g3.1
     exact List.eq_nil_of_length_eq_zero (by omega)
    ·exact .inr ⟨b,o,q1,⟨TT q3,FT q2 (nks hk)⟩,DF q3⟩
   exact⟨UN this,one (UN this)⟩
 | sub k off len=>
  simp only[ro1]at h
  cases hk:Ac (Hm k)with
  | none=>simp[hk]at h
  | some r=>
   obtain⟨e,t,n,cs⟩:=r
   simp only[hk]at h
   cases h
   have hk':=Fe hm hk
   obtain⟨vs,g1,g2,g3,g4,g5⟩:=Hz inv hk'
   obtain⟨hn,a',rfl,hcap,ha'⟩:=Jm hv hk'
   have hpl:(part cs e off len).length=len*e:=Mw cs e off len n g2 hn
   have:Rd F.Ae w (Q1 ks own w) (.sl 1 e len (part cs e off len)) (.slice a' len ((β k).cap-off)):=by
    refine .sl (vs:=(vs.drop (off*e)).take (len*e)) (by omega) hpl (by rw[hpl];exact Mw vs e off len n (by rw[g1];exact g2) hn) ?_ ?_
    ·rcases ha' with ha' | ha'
     ·left
      have h0:len=0:=by omega
      subst h0
      exact List.eq_nil_of_length_eq_zero (by rw[hpl];simp)
     ·rcases g4 with g4 | ⟨b,o,q1,q2,q3⟩
      ·left
       have h3:(off+len)*e<=(β k).cap*e:=Nat.mul_le_mul_right _ hcap
       rw[Nat.add_mul]at h3
       exact List.eq_nil_of_length_eq_zero (by rw[hpl];omega)
      ·refine .inr ⟨b,o+off*e,by rw[ha',q1];simp[JI],⟨TT q3,FT q2 (nks hk)⟩,ZG (DF q3)⟩
    ·intro i v x hv hx
     unfold part at hv
     rw[EH]at hv hx
     split at hv
     ·rename_i hi
      rw[if_pos hi]at hx
      exact Ary inv hbor (nks hk) (g5 _ v x hv hx)
     ·cases hv
   exact⟨UN this,one (UN this)⟩
 | _=>simp[ro1]at h
theorem Ag4 (inv:Inv F β own H w) (hbor:F.bor=true->∀k b p,k∈ks->own b=some (k,p)->p=[]) {Hm:Hp} (hm:∀k,Hm k=H k∨Hm k= .dead) (hks:∀k,k∈ks->Hm k= .dead):∀ {vs vs':List V} {xs:List Value},
 Pw (VR F β own H w) vs xs->roL Hm vs=some vs'->Pw (Rd F.Ae w (Q1 ks own w)) vs' xs/\Pw (VR (callee F β own w ks) β1 (Dv ks own) H1 w) vs' xs:=by
 intro vs
 induction vs with
 | nil=>intro vs' xs hv h;cases h;rw[hv.N8];exact⟨.nil,.nil⟩
 | cons v r ih=>
  intro vs' xs hv h
  obtain⟨x,xr,rfl,hvx,hr⟩:=hv.Nf
  simp only[roL]at h
  split at h
  ·rename_i a b ha hb
   cases h
   obtain⟨g1,g2⟩:=Mq (β1:=β1) (H1:=H1) inv hbor hm hks hvx ha
   obtain⟨g3,g4⟩:=ih hr hb
   exact⟨.cons g1 g3,.cons g2 g4⟩
  ·cases h
theorem Iu (inv:Inv F β own H w) (hbor:F.bor=true->∀k b p,k∈ks->own b=some (k,p)->p=[]) {Hm:Hp} (hm:∀k,Hm k=H k∨Hm k= .dead) (hks:∀k,k∈ks->Hm k= .dead) {v v':V} {x:Value} (hv:VR F β own H w v x)
 (h:ro2 Hm v=some v'):VR (callee F β own w ks) β1 (Dv ks own) H1 w v' x:=by
 cases v with
 | ptr k off=>
  simp only[ro2]at h
  split at h
  ·rename_i cs hc
   split at h
   ·rename_i cs' hcs
    cases h
    have hkd:k∉ks:=fun hk=>by rw[hks k hk]at hc;cases hc
    have hk:H k= .var cs:=by
     rcases hm k with g | g
     ·rw[<-g];exact hc
     ·rw[g]at hc;cases hc
    have ho:=inv.objs k
    rw[hk]at ho
    obtain⟨b,o,vs,g1,g2,g3,g4,g5⟩:=ho
    obtain⟨q1,_⟩:=Ag4 (β1:=β1) (H1:=H1) inv hbor hm hks (vs:=cs) (xs:=vs) ⟨g3,g5⟩ hcs
    cases hv with
    | goneP g=>rw[hk]at g;cases g
    | @ptr _ _ b' o' h1 h2=>
     rw[g1]at h2
     cases h2
     exact .rptr (Nat.le_refl 1) (Af1 (fl:=1) (.rptr q1.1 ⟨TT g4,FT g2 hkd⟩ (DF g4) q1.2))
   ·cases h
  ·cases h
 | rptr fl cs off=>
  simp only[ro2]at h
  split at h
  ·cases h
  ·rename_i hfl
   cases h
   cases hv with
   | rptr h1 hr=>
    by_cases h3:fl=3
    ·subst h3
     rw[if_pos rfl]
     exact .rptr (by omega) hr
    ·rw[if_neg h3]
     exact .rptr (Nat.le_refl 1) (Af1 (AmQ inv hbor h1 hr))
 | sc _=>exact(Mq inv hbor hm hks hv h).2
 | nil _=>exact(Mq inv hbor hm hks hv h).2
 | sl _ _ _ _=>exact(Mq inv hbor hm hks hv h).2
 | arr _=>exact(Mq inv hbor hm hks hv h).2
 | sub _ _ _=>exact(Mq inv hbor hm hks hv h).2
 | undef=>exact(Mq inv hbor hm hks hv h).2
 | fn _ _=>simp[ro2,ro1]at h
 | agg _=>simp[ro2,ro1]at h
 | tup _=>simp[ro2,ro1]at h
theorem Aln (inv:Inv F β own H w) (hbor:F.bor=true->∀k b p,k∈ks->own b=some (k,p)->p=[]) {Hm:Hp} (hm:∀k,Hm k=H k∨Hm k= .dead) (hks:∀k,k∈ks->Hm k= .dead):∀ {vs vs':List V} {xs:List Value},
 Pw (VR F β own H w) vs xs->AlY Hm vs=some vs'->Pw (VR (callee F β own w ks) β1 (Dv ks own) H1 w) vs' xs:=by
 intro vs
 induction vs with
 | nil=>intro vs' xs hv h;cases h;rw[hv.N8];exact .nil
 | cons v r ih=>
  intro vs' xs hv h
  obtain⟨x,xr,rfl,hvx,hr⟩:=hv.Nf
  simp only[AlY]at h
  split at h
  ·rename_i a b ha hb
   cases h
   exact .cons (Iu inv hbor hm hks hvx ha) (ih hr hb)
  ·cases h
theorem An1 (inv:Inv F β own H w) (hbor:F.bor=true->∀k b p,k∈ks->own b=some (k,p)->p=[]) {Hm:Hp} (hm:∀k,Hm k=H k∨Hm k= .dead) (hks:∀k,k∈ks->Hm k= .dead) {v v':V} {x:Value} (hv:VR F β own H w v x)
 (h:ro Hm v=some v'):VR (callee F β own w ks) β1 (Dv ks own) H1 w v' x:=by
 cases v with
 | fn g caps=>
  simp only[ro]at h
  split at h
  ·rename_i cs hcs
   cases h
   cases hv with
   | fn hf hv hc=>
    have:=Aln (β1:=β1) (H1:=H1) inv hbor hm hks ⟨hv,hc⟩ hcs
    exact .fn hf this.1 this.2
  ·cases h
 | agg cs=>
  simp only[ro]at h
  split at h
  ·rename_i cs' hcs
   cases h
   cases hv with
   | agg h1 hv hc=>
    have:=(Ag4 (β1:=β1) (H1:=H1) inv hbor hm hks ⟨hv,hc⟩ hcs).2
    exact .agg h1 this.1 this.2
  ·cases h
 | sc _=>exact Iu inv hbor hm hks hv h
 | nil _=>exact Iu inv hbor hm hks hv h
 | sl _ _ _ _=>exact Iu inv hbor hm hks hv h
 | arr _=>exact Iu inv hbor hm hks hv h
 | sub _ _ _=>exact Iu inv hbor hm hks hv h
 | ptr _ _=>exact Iu inv hbor hm hks hv h
 | rptr _ _ _=>exact Iu inv hbor hm hks hv h
 | undef=>exact Iu inv hbor hm hks hv h
 | tup _=>simp[ro,ro2,ro1]at h
end
end Go.Eng
namespace Go.Eng
def K4 (Hm:Hp) (ks:List Nat):Prop:=∀k,k∈ks->(∃e len cs,Ac (Hm k)=some (e,0,len,cs))∨∃cs,Hm k= .var cs/\Ab cs=true
def alive:O->Bool
 | .free=>false
 | .dead=>false
 | _=>true
theorem K4.alive {Hm:Hp} {ks:List Nat} (h:K4 Hm ks) {k:Nat} (hk:k∈ks):alive (Hm k)=true:=by
 rcases h k hk with⟨e,len,cs,h⟩ | ⟨cs,h,_⟩
 ·cases ho:Hm k<;>rw[ho]at h<;>simp_all[Ac,Eng.alive]
 ·rw[h];rfl
theorem AaV {Hm:Hp} {ks:List Nat} {k:Nat} (h:alive (BK ks Hm k)=true):k∉ks/\BK ks Hm k=Hm k:=by
 unfold BK at h⊢
 split at h
 ·cases h
 ·rename_i hk
  exact⟨by simpa using hk,by rw[if_neg hk]⟩
theorem K4.Anf {Hm:Hp} {ks ks':List Nat} (h:K4 (BK ks Hm) ks'):K4 Hm ks'/\∀k,k∈ks'->k∉ks:=by
 refine⟨fun k hk=> ?_,fun k hk=>(AaV (h.alive hk)).1⟩
 have:=(AaV (h.alive hk)).2
 have h2:=h k hk
 rw[this]at h2
 exact h2
theorem Ae0 {ks:List Nat} {f:Nat->O} {i k:Nat} (h:ks[i]? =some k):hp (ks.map f) i=f k:=by
 simp[hp,List.getD_eq_getElem?_getD,List.getElem?_map,h]
section
variable {P:Program} {F:Fr} {β:Nat->Base} {own:Nat->Option (Nat×List Nat)} {H:Hp} {w w':World} {ks:List Nat}
theorem Ag7 {o:O}:Ac (GX o)=Ac o:=by cases o<;>rfl
theorem AiN (inv:Inv F β own H w) {Hm:Hp} (hm:∀k,Hm k=H k∨Hm k= .dead) (hok:K4 Hm ks) (hn:ks.Nodup):
 Inv (callee F β own w ks) (callee F β own w ks).β0 (Dv ks own) (hp (ks.map fun k=>GX (Hm k))) w:=by
 refine⟨Nat.le_refl _,fun _ _ _=>rfl,rfl,rfl,rfl,?_,?_,?_,fun _ _ _=>rfl,?_⟩
 ·intro b p hb
  obtain⟨k,h1,_⟩:=AgG hb
  exact⟨(inv.ownb b _ h1).1,fun _ h=>by rw[show(callee F β own w ks).own0 b=Dv ks own b from rfl,hb]at h;cases h⟩
 ·intro b hb
  have:=inv.glob b hb
  refine⟨Nat.lt_of_lt_of_le this.1 inv.size,?_,(inv.keep b this.1 this.2.1).trans this.2.2⟩
  cases ho:own b with
  | none=>exact Ih ho
  | some q=>exact absurd this.2.1 ((inv.ownb b q ho).2 this.1)
 ·intro i
  cases hi:ks[i]? with
  | none=>
   have:hp (ks.map fun k=>GX (Hm k)) i= .free:=by simp[hp,List.getD_eq_getElem?_getD,List.getElem?_map,hi]
   rw[this];trivial
  | some k=>
   have hk:k∈ks:=List.mem_of_getElem? hi
   have hidx:=AoT hn hi
   have hβ:(callee F β own w ks).β0 i=β k:=by simp[callee,List.getD_eq_getElem?_getD,hi]
   rw[Ae0 hi]
   rcases hok k hk with⟨e,len,cs,h1⟩ | ⟨cs,h1,h2⟩
   ·have hAR:=Hz inv (Fe hm h1)
    have:AR (callee F β own w ks) (Dv ks own) w i ((callee F β own w ks).β0 i) e 0 len cs:=by
     rw[hβ]
     obtain⟨vs,g1,g2,g3,g4,g5⟩:=hAR
     refine⟨vs,g1,g2,g3,?_,?_⟩
     ·rcases g4 with g4 | ⟨b,o,q1,q2,q3⟩
      ·exact .inl g4
      ·exact .inr ⟨b,o,q1,by unfold Dv;rw[q2];simp[hidx],q3⟩
     ·intro j v x hv hx
      refine(g5 j v x hv hx).move (Nat.le_refl 0) ?_ (fun _ _ _ _ _=>rfl) ?_
      ·intro fl b h1 hfl hS
       match fl with
       | 0=>exact absurd h1 (by omega)
       | 1=>simp[lv]at hfl
       | 2=>simp[lv]at hfl
       | 3=>exact hS
       | n+4=>simp[lv]at hfl
      ·intro b q hb
       refine⟨?_,rfl⟩
       unfold Dv;rw[hb];simp[hidx]
    cases ho:Hm k with
    | arr e' t' len' cs'=>rw[ho]at h1;cases h1;exact this
    | tarr k' o' e' t' len' cs'=>rw[ho]at h1;cases h1;exact this
    | free=>rw[ho]at h1;cases h1
    | dead=>rw[ho]at h1;cases h1
    | var _=>rw[ho]at h1;cases h1
   ·have hk2:H k= .var cs:=by
     rcases hm k with g | g
     ·rw[<-g];exact h1
     ·rw[g]at h1;cases h1
    have ho:=inv.objs k
    rw[hk2]at ho
    obtain⟨b,o,vs,g1,g2,g3,g4,g5⟩:=ho
    rw[h1]
    refine⟨b,o,vs,by rw[hβ];exact g1,by unfold Dv;rw[g2];simp[hidx],g3,g4,?_⟩
    intro j v x hv hx
    have hvr:=g5 j v x hv hx
    have hp:∀(l:List V),Ab l=true->v∈l->(∃u,v= .sc u)∨∃e len cs,v= .sl 3 e len cs:=by
     intro l
     induction l with
     | nil=>simp
     | cons a l ih=>
      intro hl hv
      rcases List.mem_cons.1 hv with hh | hh
      ·subst hh
       unfold Ab at hl
       split at hl
       ·cases‹_=[]›
       ·rename_i heq;cases heq;exact .inl ⟨_,rfl⟩
       ·rename_i heq;cases heq;exact .inr ⟨_,_,_,rfl⟩
       ·cases hl
      ·refine ih ?_ hh
       unfold Ab at hl
       split at hl
       ·cases‹_=[]›
       ·rename_i heq;cases heq;exact hl
       ·rename_i heq;cases heq;exact hl
       ·cases hl
    rcases hp cs h2 (List.mem_of_getElem? hv)with⟨u,rfl⟩ | ⟨e,len,c,rfl⟩
    ·cases hvr;exact .sc ‹_›
    ·cases hvr with
     | rd q1 q2=>exact .rd q1 q2
 ·intro i hi
  have hi':i<ks.length:=hi
  rw[Ae0 (k:=ks[i]) (by simp)]
  have:=hok.alive (k:=ks[i]) (by simp)
  intro h
  cases ho:Hm ks[i]<;>rw[ho]at this h<;>simp[Eng.alive,GX]at this h
theorem UI {Hm0 Hm:Hp} (hm0:∀k,Hm0 k=H k∨Hm0 k= .dead) (hmm:∀k,Hm k=Hm0 k∨Hm k= .dead) {n:Nat} {v v':V} {x:Value} {ksv:List Nat} (hv:VR F β own H w v x)
 (h:MK Hm n v=some (v',ksv)):K4 Hm ksv/\ksv.Nodup/\
 ((∀i k,ksv[i]? =some k->ks[n+i]? =some k)->VR (callee F β own w ks) (callee F β own w ks).β0 (Dv ks own) (hp (ks.map fun k=>GX (Hm0 k))) w v' x):=by
 cases v with
 | sc u=>cases h;cases hv;exact⟨by simp[K4],by simp,fun _=> .sc ‹_›⟩
 | sl fl e len cs=>
  unfold MK at h
  split at h
  ·rename_i heq;cases heq
  ·rename_i heq;cases heq;cases h
   cases hv with
   | rd q1 q2=>exact⟨by simp[K4],by simp,fun _=> .rd q1 q2⟩
  ·rename_i heq;cases heq
  ·cases h
 | arr k=>
  simp only[MK]at h
  split at h
  ·rename_i e len cs hk
   cases h
   refine⟨fun j hj=> ?_,by simp,fun hks=> ?_⟩
   ·simp at hj;subst hj;exact .inl ⟨e,len,cs,hk⟩
   ·have hnk:=hks 0 k (by simp)
    have hk0:Ac (Hm0 k)=some (e,0,len,cs):=by
     rcases hmm k with g | g
     ·rw[<-g];exact hk
     ·rw[g]at hk;cases hk
    rw[EZ hv (Fe hm0 hk0)]
    have hβ:(callee F β own w ks).β0 n=β k:=by
     rw[Nat.add_zero]at hnk
     simp[callee,List.getD_eq_getElem?_getD,hnk]
    rw[<-hβ]
    exact .arr (e:=e) (t:=0) (len:=len) (cs:=cs) (by rw[Ae0 (by simpa using hnk),Ag7];exact hk0)
  ·cases h
 | _=>simp[MK]at h
theorem Acx {Hm0:Hp} (hm0:∀k,Hm0 k=H k∨Hm0 k= .dead):∀ {vs vs':List V} {xs:List Value} {Hm:Hp} {n:Nat} {ksv:List Nat},(∀k,Hm k=Hm0 k∨Hm k= .dead)->Pw (VR F β own H w) vs xs->
 QO Hm n vs=some (vs',ksv)->K4 Hm ksv/\ksv.Nodup/\
 ((∀i k,ksv[i]? =some k->ks[n+i]? =some k)->Pw (VR (callee F β own w ks) (callee F β own w ks).β0 (Dv ks own) (hp (ks.map fun k=>GX (Hm0 k))) w) vs' xs):=by
 intro vs
 induction vs with
 | nil=>intro vs' xs Hm n ksv hmm hv h;cases h;rw[hv.N8];exact⟨by simp[K4],by simp,fun _=> .nil⟩
 | cons v r ih=>
  intro vs' xs Hm n ksv hmm hv h
  obtain⟨x,xr,rfl,hvx,hr⟩:=hv.Nf
  simp only[QO]at h
  split at h
  ·cases h
  ·rename_i v1 ks1 h1
   split at h
   ·cases h
   ·rename_i r2 ks2 h2
    cases h
    obtain⟨a1,a2,a3⟩:=UI (ks:=ks) hm0 hmm hvx h1
    obtain⟨b1,b2,b3⟩:=ih (Hm:=BK ks1 Hm) (fun k=>by
     rcases hmm k with g | g
     ·unfold BK;split
      ·exact .inr rfl
      ·exact .inl g
     ·unfold BK;split
      ·exact .inr rfl
      ·exact .inr g) hr h2
    obtain⟨b4,b5⟩:=b1.Anf
    refine⟨fun k hk=> ?_,?_,fun hks=> ?_⟩
    ·rcases List.mem_append.1 hk with g | g
     ·exact a1 k g
     ·exact b4 k g
    ·rw[List.nodup_append]
     exact⟨a2,b2,fun a ha b hb hab=>b5 b hb (hab▸ha)⟩
    ·refine .cons (a3 fun i k hi=>hks i k ?_) (b3 fun i k hi=> ?_)
     ·rw[List.getElem?_append_left (List.getElem?_eq_some_iff.1 hi).1];exact hi
     ·have:=hks (ks1.length+i) k (by rw[List.getElem?_append_right (by omega)];simpa using hi)
      rw[<-this];congr 1;omega
theorem Ag2 {Hm0 Hm:Hp} (hm0:∀k,Hm0 k=H k∨Hm0 k= .dead) (hmm:∀k,Hm k=Hm0 k∨Hm k= .dead) {n:Nat} {v v':V} {x:Value} {ksv:List Nat} (hv:VR F β own H w v x)
 (h:AbD Hm n v=some (v',ksv)):K4 Hm ksv/\ksv.Nodup/\
 ((∀i k,ksv[i]? =some k->ks[n+i]? =some k)->VR (callee F β own w ks) (callee F β own w ks).β0 (Dv ks own) (hp (ks.map fun k=>GX (Hm0 k))) w v' x):=by
 have atom:MK Hm n v=some (v',ksv)->K4 Hm ksv/\ksv.Nodup/\
  ((∀i k,ksv[i]? =some k->ks[n+i]? =some k)->VR (callee F β own w ks) (callee F β own w ks).β0 (Dv ks own) (hp (ks.map fun k=>GX (Hm0 k))) w v' x):=UI hm0 hmm hv
 unfold AbD at h
 split at h
 ·rename_i cs
  split at h
  ·rename_i cs' ks1 h1
   cases h
   cases hv with
   | agg q1 q2 q3=>
    obtain⟨a1,a2,a3⟩:=Acx (ks:=ks) hm0 hmm ⟨q2,q3⟩ h1
    exact⟨a1,a2,fun hks=> .agg q1 (a3 hks).1 (a3 hks).2⟩
  ·cases h
 ·rename_i k
  split at h
  ·rename_i cs hc
   split at h
   ·rename_i hpl
    cases h
    have hk0:Hm0 k= .var cs:=by
     rcases hmm k with g | g
     ·rw[<-g];exact hc
     ·rw[g]at hc;cases hc
    have hk:H k= .var cs:=by
     rcases hm0 k with g | g
     ·rw[<-g];exact hk0
     ·rw[g]at hk0;cases hk0
    refine⟨fun j hj=> ?_,by simp,fun hks=> ?_⟩
    ·simp at hj;subst hj;exact .inr ⟨cs,hc,hpl⟩
    ·have hnk:=hks 0 k (by simp)
     rw[Nat.add_zero]at hnk
     cases hv with
     | goneP g=>rw[hk]at g;cases g
     | @ptr _ _ b o h1 h2=>
      refine .ptr (.inr ⟨cs,?_⟩) ?_
      ·rw[Ae0 hnk,hk0];rfl
      ·simpa[callee,List.getD_eq_getElem?_getD,hnk]using h2
   ·cases h
  ·cases h
 ·exact atom h
theorem AkI (inv : Inv F β own H w) {Hm0 : Hp} (hm0 : ∀ k, Hm0 k = H k ∨ Hm0 k = .dead) (hbor : F.bor = true -> ∀ k b p, k ∈ ks -> own b = some (k, p) -> p = []) : ∀ {args : List (Bool × V)} {args' : List V} {xs : List Value} {Hm : Hp} {n : Nat} {ksr : List Nat},
    (∀ k, Hm k = Hm0 k ∨ Hm k = .dead) -> Pw (VR F β own H w) (args.map (·.2)) xs -> Gi Hm n args = some ksr -> K4 Hm ksr /\ ksr.Nodup /\
    ((∀ i k, ksr[i]? = some k -> ks[n + i]? = some k) -> F6 Hm (BK ks Hm0) n args = some args' ->
      Pw (VR (callee F β own w ks) (callee F β own w ks).β0 (Dv ks own) (hp (ks.map fun k => GX (Hm0 k))) w) args' xs) := by
  intro args
  induction args generalizing ks with
  | nil => intro args' xs Hm n ksr hmm hv h; cases h; rw [List.map_nil] at hv; rw [hv.N8]; exact ⟨by simp [K4], by simp, fun _ h => by cases h; exact .nil⟩
  | cons a r ih =>
    intro args' xs Hm n ksr hmm hv h
    obtain ⟨t, v⟩ := a
    obtain ⟨x, xr, rfl, hvx, hr⟩ := hv.Nf
    cases t with
    | true =>
      simp only [Gi] at h
      split at h
      · cases h
      · rename_i v1 ks1 h1
        split at h
        · cases h
        · rename_i ks2 h2
          cases h
          obtain ⟨a1, a2, a3⟩ := Ag2 (ks := ks) hm0 hmm hvx h1
          have hmm' : ∀ k, BK ks1 Hm k = Hm0 k ∨ BK ks1 Hm k = .dead := fun k => by
            rcases hmm k with g | g
            · unfold BK; split
              · exact .inr rfl
              · exact .inl g
            · unfold BK; split
              · exact .inr rfl
              · exact .inr g
          obtain ⟨b1, b2, _⟩ := ih (ks := ks) hbor (args' := []) hmm' hr h2
          obtain ⟨b4, b5⟩ := b1.Anf
          refine ⟨fun k hk => ?_, ?_, fun hks hc => ?_⟩
          · rcases List.mem_append.1 hk with g | g
            · exact a1 k g
            · exact b4 k g
          · rw [List.nodup_append]
            exact ⟨a2, b2, fun a ha b hb hab => b5 b hb (hab ▸ ha)⟩
          · simp only [F6, h1] at hc
            split at hc
            · cases hc
            · rename_i r' hr'
              cases hc
              refine .cons (a3 fun i k hi => hks i k ?_) ((ih (ks := ks) hbor hmm' hr h2).2.2 (fun i k hi => ?_) hr')
              · rw [List.getElem?_append_left (List.getElem?_eq_some_iff.1 hi).1]; exact hi
              · have := hks (ks1.length + i) k (by rw [List.getElem?_append_right (by omega)]; simpa using hi)
                rw [<- this]; congr 1; omega
    | false =>
      simp only [Gi] at h
      obtain ⟨b1, b2, _⟩ := ih (ks := ks) hbor (args' := []) hmm hr h
      refine ⟨b1, b2, fun hks hc => ?_⟩
      simp only [F6] at hc
      split at hc
      · cases hc
      · rename_i v' hv'
        split at hc
        · cases hc
        · rename_i r' hr'
          cases hc
          refine .cons ?_ ((ih (ks := ks) hbor hmm hr h).2.2 hks hr')
          refine An1 inv hbor (PS hm0 ks) (fun k hk => ?_) hvx hv'
          unfold BK
          rw [if_pos (by simpa using hk)]
end
end Go.Eng
namespace Go.Eng
structure Imp (F:Fr) (w':World) (own':Nat->Option (Nat×List Nat)) (n:Nat) (H:Hp) (v:V) (x:Value) (u:DL) (p:List Nat):Prop where
 free:∀s,s∈u.map (·.1)->H s= .free
 nodup:(u.map (·.1)).Nodup
 ok:∃(βs:Nat->Base) (μ:Nat->List Nat),(∀s,s∈u.map (·.1)->∃q,μ s=p++q)/\
  (∀s1 s2 q1 q2,s1∈u.map (·.1)->s2∈u.map (·.1)->μ s1++q1=μ s2++q2->s1=s2)/\
  ∀(β'':Nat->Base) (own'':Nat->Option (Nat×List Nat)) (H'':Hp),(∀s,s∈u.map (·.1)->β'' s=βs s)->
   (∀s b q,s∈u.map (·.1)->own' b=some (n,μ s++q)->own'' b=some (s,q))->(∀s o,(s,o)∈u->H'' s=o)->
   VR F β'' own'' H'' w' v x/\∀s o,(s,o)∈u->OR F β'' own'' H'' w' s o
section
variable {P:Program} {F:Fr} {H:Hp} {w':World} {own':Nat->Option (Nat×List Nat)} {n:Nat}
theorem Imp.none {v:V} {x:Value} {p:List Nat} (h:∀(β'':Nat->Base) (own'':Nat->Option (Nat×List Nat)) (H'':Hp),VR F β'' own'' H'' w' v x):Imp F w' own' n H v x [] p:=
 ⟨by simp,by simp,fun _=>⟨Option.none,0⟩,fun _=> [],by simp,by simp,fun β'' own'' H'' _ _ _=>⟨h β'' own'' H'',by simp⟩⟩
theorem AdM {p:List Nat} {v v':V} {x:Value} {u:DL} {ss ss':List Nat} (ho:Ow F.Ae w' own' (fun _ b=>F.G b) 0 n p v x) (h:Amu H ss v=some (v',u,ss')):
 Imp F w' own' n H v' x u p:=by
 unfold Amu at h
 split at h
 ·cases h
  cases ho
  exact Imp.none fun _ _ _=> .sc ‹_›
 ·rename_i s ss e len cs
  split at h
  ·rename_i hs
   cases h
   cases ho with
   | ro h1 _ _=>exact absurd h1 (by omega)
   | @own _ _ _ _ a cap vs hl hw hv hm hc=>
    refine⟨by simpa using hs,by simp,fun _=>⟨a,cap⟩,fun _=>p,fun _ _=>⟨[],by simp⟩,?_,?_⟩
    ·intro s1 s2 q1 q2 h1 h2 _
     simp at h1 h2
     rw[h1,h2]
    ·intro β'' own'' H'' hβ hown hH
     have hβs:β'' s=⟨a,cap⟩:=hβ s (by simp)
     have hHs:H'' s= .arr e 0 len cs:=hH s _ (by simp)
     refine⟨?_,?_⟩
     ·have:=VR.arr (F:=F) (β:=β'') (own:=own'') (H:=H'') (w:=w') (k:=s) (e:=e) (t:=0) (len:=len) (cs:=cs) (by rw[hHs];rfl)
      rw[hβs]at this
      exact this
     ·intro s' o hso
      simp at hso
      obtain⟨rfl,rfl⟩:=hso
      show AR F own'' w' s' (β'' s') e 0 len cs
      rw[hβs]
      refine⟨vs,hv,hw,hl,?_,?_⟩
      ·rcases hm with hm | ⟨b,o,q1,q2,q3⟩
       ·exact .inl hm
       ·exact .inr ⟨b,o,q1,hown s' b [] (by simp) (by simpa using q2),q3⟩
      ·intro i v x hv' hx
       refine(hc i v x hv' hx).move (Nat.le_refl 0) ?_ (fun _ _ _ _ _=>rfl) ?_
       ·intro fl b h1 h2 hS
        have:=ZA h1 (by omega)
        subst this
        exact hS
       ·intro b q hb
        exact⟨by simpa using hown s' b ([i]++q) (by simp) (by simpa using hb),rfl⟩
  ·cases h
 ·cases h
  cases ho with
  | ro h1 h2 hr=>exact Imp.none fun _ _ _=> .rd h1 hr
 ·cases h
theorem Adm {s:Nat} {ks:List Nat} (h:BK ks H s= .free):s∉ks/\H s= .free:=by
 unfold BK at h
 split at h
 ·cases h
 ·rename_i hs
  exact⟨by simpa using hs,h⟩
theorem Imp.cons {v:V} {x:Value} {u u':DL} {pre:List Nat} {i0:Nat} {vs:List V} {xs:List Value} (h1:Imp F w' own' n H v x u (pre++ [i0]))
 (h2:(∀s,s∈u'.map (·.1)->BK (u.map (·.1)) H s= .free)/\(u'.map (·.1)).Nodup/\∃(βs:Nat->Base) (μ:Nat->List Nat),(∀s,s∈u'.map (·.1)->∃i q,μ s=pre++(i0+1+i)::q)/\
  (∀s1 s2 q1 q2,s1∈u'.map (·.1)->s2∈u'.map (·.1)->μ s1++q1=μ s2++q2->s1=s2)/\
  ∀(β'':Nat->Base) (own'':Nat->Option (Nat×List Nat)) (H'':Hp),(∀s,s∈u'.map (·.1)->β'' s=βs s)->
   (∀s b q,s∈u'.map (·.1)->own' b=some (n,μ s++q)->own'' b=some (s,q))->(∀s o,(s,o)∈u'->H'' s=o)->
   Pw (VR F β'' own'' H'' w') vs xs/\∀s o,(s,o)∈u'->OR F β'' own'' H'' w' s o):
 (∀s,s∈(u++u').map (·.1)->H s= .free)/\((u++u').map (·.1)).Nodup/\∃(βs:Nat->Base) (μ:Nat->List Nat),(∀s,s∈(u++u').map (·.1)->∃i q,μ s=pre++(i0+i)::q)/\
  (∀s1 s2 q1 q2,s1∈(u++u').map (·.1)->s2∈(u++u').map (·.1)->μ s1++q1=μ s2++q2->s1=s2)/\
  ∀(β'':Nat->Base) (own'':Nat->Option (Nat×List Nat)) (H'':Hp),(∀s,s∈(u++u').map (·.1)->β'' s=βs s)->
   (∀s b q,s∈(u++u').map (·.1)->own' b=some (n,μ s++q)->own'' b=some (s,q))->(∀s o,(s,o)∈u++u'->H'' s=o)->
   Pw (VR F β'' own'' H'' w') (v::vs) (x::xs)/\∀s o,(s,o)∈u++u'->OR F β'' own'' H'' w' s o:=by
 obtain⟨f1,n1,βs1,μ1,a1,a2,a3⟩:=h1
 obtain⟨f2,n2,βs2,μ2,b1,b2,b3⟩:=h2
 have hdis:∀s,s∈u'.map (·.1)->s∉u.map (·.1):=fun s hs=>(Adm (f2 s hs)).1
 refine⟨?_,?_,fun s=>if s∈u.map (·.1)then βs1 s else βs2 s,fun s=>if s∈u.map (·.1)then μ1 s else μ2 s,?_,?_,?_⟩
 ·intro s hs
  rw[List.map_append,List.mem_append]at hs
  rcases hs with hs | hs
  ·exact f1 s hs
  ·exact(Adm (f2 s hs)).2
 ·rw[List.map_append,List.nodup_append]
  exact⟨n1,n2,fun a ha b hb hab=>hdis b hb (hab▸ha)⟩
 ·intro s hs
  rw[List.map_append,List.mem_append]at hs
  by_cases h:s∈u.map (·.1)
  ·obtain⟨q,hq⟩:=a1 s h
   exact⟨0,q,by dsimp only;rw[if_pos h,hq];simp⟩
  ·obtain⟨i,q,hq⟩:=b1 s (hs.resolve_left h)
   exact⟨1+i,q,by dsimp only;rw[if_neg h,hq];congr 2;omega⟩
 ·intro s1 s2 q1 q2 hs1 hs2 he
  dsimp only at he
  rw[List.map_append,List.mem_append]at hs1 hs2
  by_cases h1:s1∈u.map (·.1)<;>by_cases h2:s2∈u.map (·.1)
  ·rw[if_pos h1,if_pos h2]at he
   exact a2 s1 s2 q1 q2 h1 h2 he
  ·rw[if_pos h1,if_neg h2]at he
   obtain⟨q3,e3⟩:=a1 s1 h1
   obtain⟨i,q4,e4⟩:=b1 s2 (hs2.resolve_left h2)
   rw[e3,e4]at he
   simp at he
   omega
  ·rw[if_neg h1,if_pos h2]at he
   obtain⟨q3,e3⟩:=a1 s2 h2
   obtain⟨i,q4,e4⟩:=b1 s1 (hs1.resolve_left h1)
   rw[e3,e4]at he
   simp at he
   omega
  ·rw[if_neg h1,if_neg h2]at he
   exact b2 s1 s2 q1 q2 (hs1.resolve_left h1) (hs2.resolve_left h2) he
 ·intro β'' own'' H'' hβ hown hH
  obtain⟨c1,c2⟩:=a3 β'' own'' H'' (fun s hs=>by have:=hβ s (by rw[List.map_append,List.mem_append];exact .inl hs);dsimp only at this;rw[if_pos hs]at this;exact this)
   (fun s b q hs hb=>hown s b q (by rw[List.map_append,List.mem_append];exact .inl hs) (by dsimp only;rw[if_pos hs];exact hb)) (fun s o hso=>hH s o (List.mem_append_left _ hso))
  obtain⟨d1,d2⟩:=b3 β'' own'' H'' (fun s hs=>by have:=hβ s (by rw[List.map_append,List.mem_append];exact .inr hs);dsimp only at this;rw[if_neg (hdis s hs)]at this;exact this)
   (fun s b q hs hb=>hown s b q (by rw[List.map_append,List.mem_append];exact .inr hs) (by dsimp only;rw[if_neg (hdis s hs)];exact hb)) (fun s o hso=>hH s o (List.mem_append_right _ hso))
  refine⟨.cons c1 d1,fun s o hso=> ?_⟩
  rcases List.mem_append.1 hso with h | h
  ·exact c2 s o h
  ·exact d2 s o h
theorem Alj:∀ {vs vs':List V} {xs:List Value} {H:Hp} {u:DL} {ss ss':List Nat} (i0:Nat) (pre:List Nat),vs.length=xs.length->
 (∀(i:Nat) (v:V) (x:Value),vs[i]? =some v->xs[i]? =some x->Ow F.Ae w' own' (fun _ b=>F.G b) 0 n (pre++ [i0+i]) v x)->Alg H ss vs=some (vs',u,ss')->
 (∀s,s∈u.map (·.1)->H s= .free)/\(u.map (·.1)).Nodup/\∃(βs:Nat->Base) (μ:Nat->List Nat),(∀s,s∈u.map (·.1)->∃i q,μ s=pre++(i0+i)::q)/\
  (∀s1 s2 q1 q2,s1∈u.map (·.1)->s2∈u.map (·.1)->μ s1++q1=μ s2++q2->s1=s2)/\
  ∀(β'':Nat->Base) (own'':Nat->Option (Nat×List Nat)) (H'':Hp),(∀s,s∈u.map (·.1)->β'' s=βs s)->
   (∀s b q,s∈u.map (·.1)->own' b=some (n,μ s++q)->own'' b=some (s,q))->(∀s o,(s,o)∈u->H'' s=o)->
   Pw (VR F β'' own'' H'' w') vs' xs/\∀s o,(s,o)∈u->OR F β'' own'' H'' w' s o:=by
 intro vs
 induction vs with
 | nil=>
  intro vs' xs H u ss ss' i0 pre hl hv h
  cases xs with
  | cons _ _=>simp at hl
  | nil=>
   simp only[Alg]at h
   cases h
   exact⟨by simp,by simp,fun _=>⟨none,0⟩,fun _=> [],by simp,by simp,fun _ _ _ _ _ _=>⟨.nil,by simp⟩⟩
 | cons v r ih=>
  intro vs' xs H u ss ss' i0 pre hl hv h
  cases xs with
  | nil=>simp at hl
  | cons x xs=>
   simp only[Alg]at h
   split at h
   ·cases h
   ·rename_i v1 u1 ss1 h1
    split at h
    ·cases h
    ·rename_i r2 u2 ss2 h2
     cases h
     exact Imp.cons (AdM (hv 0 v x (by simp) (by simp)) h1) (ih (i0+1) pre (by simpa using hl) (fun i v x hv' hx=>by
      have:=hv (i+1) v x (by simpa using hv') (by simpa using hx)
      rwa [show i0+1+i=i0+(i+1)by omega]) h2)
theorem Imp.ofList {v:V} {x:Value} {u:DL} {p:List Nat} {vs:List V} {xs:List Value} (h:(∀s,s∈u.map (·.1)->H s= .free)/\(u.map (·.1)).Nodup/\∃(βs:Nat->Base) (μ:Nat->List Nat),(∀s,s∈u.map (·.1)->∃i q,μ s=p++(0+i)::q)/\
 (∀s1 s2 q1 q2,s1∈u.map (·.1)->s2∈u.map (·.1)->μ s1++q1=μ s2++q2->s1=s2)/\
 ∀(β'':Nat->Base) (own'':Nat->Option (Nat×List Nat)) (H'':Hp),(∀s,s∈u.map (·.1)->β'' s=βs s)->
  (∀s b q,s∈u.map (·.1)->own' b=some (n,μ s++q)->own'' b=some (s,q))->(∀s o,(s,o)∈u->H'' s=o)->
  Pw (VR F β'' own'' H'' w') vs xs/\∀s o,(s,o)∈u->OR F β'' own'' H'' w' s o)
 (hv:∀(β'':Nat->Base) (own'':Nat->Option (Nat×List Nat)) (H'':Hp),Pw (VR F β'' own'' H'' w') vs xs->VR F β'' own'' H'' w' v x):Imp F w' own' n H v x u p:=by
 obtain⟨h1,h2,βs,μ,h3,h4,h5⟩:=h
 refine⟨h1,h2,βs,μ,fun s hs=> ?_,h4,fun β'' own'' H'' a b c=> ?_⟩
 ·obtain⟨i,q,hq⟩:=h3 s hs
  exact⟨_,hq⟩
 ·obtain⟨g1,g2⟩:=h5 β'' own'' H'' a b c
  exact⟨hv _ _ _ g1,g2⟩
theorem Oz:∀ {cs:List V} {i:Nat} {v:V},Ab cs=true->cs[i]? =some v->(∃u,v= .sc u)∨∃e len c,v= .sl 3 e len c
 | [],i,v,_,hv=>by simp at hv
 | a::l,i,v,h,hv=>by
  unfold Ab at h
  split at h
  ·cases‹_=[]›
  ·rename_i heq;cases heq
   cases i with
   | zero=>simp at hv;exact .inl ⟨_,hv.symm⟩
   | succ i=>exact Oz h (by simpa using hv)
  ·rename_i heq;cases heq
   cases i with
   | zero=>simp at hv;exact .inr ⟨_,_,_,hv.symm⟩
   | succ i=>exact Oz h (by simpa using hv)
  ·cases h
theorem AdV {p:List Nat} {v v':V} {x:Value} {u:DL} {ss ss':List Nat} (ho:Ow F.Ae w' own' (fun _ b=>F.G b) 0 n p v x) (h:Al0 H ss v=some (v',u,ss')):
 Imp F w' own' n H v' x u p:=by
 unfold Al0 at h
 split at h
 ·split at h
  ·rename_i cs cs' u1 ss1 h1
   cases h
   cases ho with
   | agg q1 q2 q3=>
    exact Imp.ofList (Alj 0 p q2.symm (fun i v x hv hx=>by rw[Nat.zero_add];exact q3 i v x hv hx) h1) fun β'' own'' H'' hp=> .agg q1 hp.1 hp.2
  ·cases h
 ·rename_i s ss cs
  split at h
  ·rename_i hs
   split at h
   ·rename_i hpl
    cases h
    cases ho with
    | rptr h1 _ _=>exact absurd h1 (by omega)
    | @ptr _ _ b o vs hv hb hm hc=>
     refine⟨by simpa using hs,by simp,fun _=>⟨some ⟨b,o,none⟩,0⟩,fun _=>p,fun _ _=>⟨[],by simp⟩,?_,?_⟩
     ·intro s1 s2 q1 q2 h1 h2 _
      simp at h1 h2
      rw[h1,h2]
     ·intro β'' own'' H'' hβ hown hH
      have hβs:β'' s=⟨some ⟨b,o,none⟩,0⟩:=hβ s (by simp)
      have hHs:H'' s= .var cs:=hH s _ (by simp)
      refine⟨.ptr (.inr ⟨cs,hHs⟩) (by rw[hβs]),?_⟩
      intro s' o' hso
      simp at hso
      obtain⟨rfl,rfl⟩:=hso
      refine⟨b,o,vs,by rw[hβs],hown s' b [] (by simp) (by simpa using hb),hv,hm,?_⟩
      intro i v x hv' hx
      have:=hc i v x hv' hx
      rcases Oz hpl hv' with⟨u,rfl⟩ | ⟨e,len,c,rfl⟩
      ·cases this;exact .sc ‹_›
      ·cases this with
       | ro h1 h2 hr=>exact .rd h1 hr
   ·cases h
  ·cases h
 ·exact AdM ho h
theorem Ajh:∀ {vs vs':List V} {xs:List Value} {H:Hp} {u:DL} {ss ss':List Nat} (i0:Nat) (pre:List Nat),vs.length=xs.length->
 (∀(i:Nat) (v:V) (x:Value),vs[i]? =some v->xs[i]? =some x->Ow F.Ae w' own' (fun _ b=>F.G b) 0 n (pre++ [i0+i]) v x)->AdW H ss vs=some (vs',u,ss')->
 (∀s,s∈u.map (·.1)->H s= .free)/\(u.map (·.1)).Nodup/\∃(βs:Nat->Base) (μ:Nat->List Nat),(∀s,s∈u.map (·.1)->∃i q,μ s=pre++(i0+i)::q)/\
  (∀s1 s2 q1 q2,s1∈u.map (·.1)->s2∈u.map (·.1)->μ s1++q1=μ s2++q2->s1=s2)/\
  ∀(β'':Nat->Base) (own'':Nat->Option (Nat×List Nat)) (H'':Hp),(∀s,s∈u.map (·.1)->β'' s=βs s)->
   (∀s b q,s∈u.map (·.1)->own' b=some (n,μ s++q)->own'' b=some (s,q))->(∀s o,(s,o)∈u->H'' s=o)->
   Pw (VR F β'' own'' H'' w') vs' xs/\∀s o,(s,o)∈u->OR F β'' own'' H'' w' s o:=by
 intro vs
 induction vs with
 | nil=>
  intro vs' xs H u ss ss' i0 pre hl hv h
  cases xs with
  | cons _ _=>simp at hl
  | nil=>
   simp only[AdW]at h
   cases h
   exact⟨by simp,by simp,fun _=>⟨none,0⟩,fun _=> [],by simp,by simp,fun _ _ _ _ _ _=>⟨.nil,by simp⟩⟩
 | cons v r ih=>
  intro vs' xs H u ss ss' i0 pre hl hv h
  cases xs with
  | nil=>simp at hl
  | cons x xs=>
   simp only[AdW]at h
   split at h
   ·cases h
   ·rename_i v1 u1 ss1 h1
    split at h
    ·cases h
    ·rename_i r2 u2 ss2 h2
     cases h
     exact Imp.cons (AdV (hv 0 v x (by simp) (by simp)) h1) (ih (i0+1) pre (by simpa using hl) (fun i v x hv' hx=>by
      have:=hv (i+1) v x (by simpa using hv') (by simpa using hx)
      rwa [show i0+1+i=i0+(i+1)by omega]) h2)
theorem Anv {p:List Nat} {v v':V} {x:Value} {u:DL} {ss ss':List Nat} (ho:Ow F.Ae w' own' (fun _ b=>F.G b) 0 n p v x) (h:imp H ss v=some (v',u,ss')):
 Imp F w' own' n H v' x u p:=by
 unfold imp at h
 split at h
 ·split at h
  ·rename_i cs cs' u1 ss1 h1
   cases h
   cases ho with
   | tup q2 q3=>
    exact Imp.ofList (Ajh 0 p q2.symm (fun i v x hv hx=>by rw[Nat.zero_add];exact q3 i v x hv hx) h1) fun β'' own'' H'' hp=> .tup hp.1 hp.2
  ·cases h
 ·exact AdV ho h
end
end Go.Eng
namespace Go.Eng
theorem G8 {u:DL}:∀ {H:Hp} {j:Nat},j∉u.map (·.1)->Al H u j=H j:=by
 induction u with
 | nil=>intro H j _;rfl
 | cons a u ih=>
  intro H j hj
  obtain⟨k,o⟩:=a
  simp only[List.map_cons,List.mem_cons,not_or]at hj
  simp only[Al]
  rw[ih hj.2,if_neg hj.1]
theorem Anq {u:DL}:∀ {H:Hp} {k:Nat} {o:O},(u.map (·.1)).Nodup->(k,o)∈u->Al H u k=o:=by
 induction u with
 | nil=>intro H k o _ h;cases h
 | cons a u ih=>
  intro H k o hn h
  obtain⟨k1,o1⟩:=a
  simp only[List.map_cons,List.nodup_cons]at hn
  simp only[Al]
  rcases List.mem_cons.1 h with h | h
  ·cases h
   rw[G8 hn.1,if_pos rfl]
  ·exact ih hn.2 h
theorem AdS {Hm:Hp}:∀ {ks:List Nat} {outs:List O} {u:DL},P9 Hm ks outs=some u->u.map (·.1)=ks/\
 ∀k o',(k,o')∈u->∃(i:Nat) (o:O),ks[i]? =some k/\outs[i]? =some o/\Adz (Hm k) o=some o'
 | [],[],u,h=>by cases h;exact⟨rfl,by simp⟩
 | [],_::_,u,h=>by cases h
 | _::_,[],u,h=>by cases h
 | k1::ks,o1::outs,u,h=>by
  simp only[P9]at h
  split at h
  ·rename_i o2 u2 h1 h2
   cases h
   obtain⟨g1,g2⟩:=AdS h2
   refine⟨by simp[g1],?_⟩
   intro k o' hk
   rcases List.mem_cons.1 hk with hk | hk
   ·cases hk;exact⟨0,o1,by simp,by simp,h1⟩
   ·obtain⟨i,o,q1,q2,q3⟩:=g2 k o' hk
    exact⟨i+1,o,by simpa using q1,by simpa using q2,q3⟩
  ·cases h
theorem mem_keys {u:DL} {k:Nat} (h:k∈u.map (·.1)):∃o,(k,o)∈u:=by
 obtain⟨p,hp,rfl⟩:=List.mem_map.1 h
 exact⟨p.2,hp⟩
open Classical in
noncomputable def place (keys:List Nat) (μ:Nat->List Nat) (p:List Nat):Option (Nat×List Nat):=
 if h:∃r:Nat×List Nat,r.1∈keys/\p=μ r.1++r.2 then some h.choose else none
theorem Aks {keys:List Nat} {μ:Nat->List Nat} (hinj:∀s1 s2 q1 q2,s1∈keys->s2∈keys->μ s1++q1=μ s2++q2->s1=s2) {s:Nat} (hs:s∈keys) (q:List Nat):
 place keys μ (μ s++q)=some (s,q):=by
 have h:∃r:Nat×List Nat,r.1∈keys/\μ s++q=μ r.1++r.2:=⟨(s,q),hs,rfl⟩
 unfold place
 rw[dif_pos h]
 obtain⟨h1,h2⟩:=h.choose_spec
 have h3:=hinj _ _ _ _ hs h1 h2
 congr 1
 refine Prod.ext h3.symm ?_
 rw[<-h3]at h2
 exact(List.append_cancel_left h2).symm
noncomputable def Aa1 (own ownC:Nat->Option (Nat×List Nat)) (ks keys:List Nat) (μ:Nat->List Nat):Nat->Option (Nat×List Nat):=fun b=>
 match ownC b with
 | some (i,p)=>if i<ks.length then some (ks.getD i 0,p)else if i=ks.length then place keys μ p else none
 | none=>match own b with
  | some (k,p)=>if k∈ks then none else some (k,p)
  | none=>none
section
variable {P:Program} {F:Fr} {β:Nat->Base} {own ownC:Nat->Option (Nat×List Nat)} {H:Hp} {w w':World} {ks:List Nat}
theorem Aod {Hm:Hp} (hm:∀k,Hm k=H k∨Hm k= .dead) {k:Nat} (h:alive (Hm k)=true):Hm k=H k:=by
 rcases hm k with g | g
 ·exact g
 ·rw[g]at h;cases h
theorem JY {o o1 o':O} (h:Adz o o1=some o'):o' = .dead∨
 (∃e t len cs cs',o= .arr e t len cs/\o1= .arr e 0 len cs'/\cs'.length=cs.length/\o' = .arr e 0 len cs')∨
 (∃k off e t len cs cs',o= .tarr k off e t len cs/\o1= .arr e 0 len cs'/\cs'.length=cs.length/\o' = .tarr k off e 0 len cs')∨
 (∃cs cs',o= .var cs/\o1= .var cs'/\cs'.length=cs.length/\Ab cs' =true/\o' = .var cs'):=by
 unfold Adz at h
 split at h
 ·cases h;exact .inl rfl
 ·split at h
  ·rename_i hh
   cases h
   obtain⟨rfl,rfl,h3⟩:=hh
   exact .inr (.inl ⟨_,_,_,_,_,rfl,rfl,h3,rfl⟩)
  ·cases h
 ·split at h
  ·rename_i hh
   cases h
   obtain⟨rfl,rfl,h3⟩:=hh
   exact .inr (.inr (.inl ⟨_,_,_,_,_,_,_,rfl,rfl,h3,rfl⟩))
  ·cases h
 ·split at h
  ·rename_i hh
   cases h
   exact .inr (.inr (.inr ⟨_,_,rfl,rfl,hh.1,hh.2,rfl⟩))
  ·cases h
 ·cases h
theorem Aje (inv:Inv F β own H w) {Hm:Hp} (hm:∀k,Hm k=H k∨Hm k= .dead) (hok:K4 Hm ks) (hn:ks.Nodup) (hbor:F.bor=true->∀k b p,k∈ks->own b=some (k,p)->p=[])
 (hno:∀s k off e t len cs,H s= .tarr k off e t len cs->k∈ks->GK (H k)=false) {outs:List O} {res:V} {x:Value} (post:Post (callee F β own w ks) outs res x w' ownC)
 {u u':DL} {v:V} {sites ss':List Nat} (hb:P9 Hm ks outs=some u) (hi:imp Hm sites res=some (v,u',ss')):
 ∃β'' own'',(∀z y,VR F β own H w z y->VR F β'' own'' (Al H (u++u')) w' z y)/\Inv F β'' own'' (Al H (u++u')) w'/\VR F β'' own'' (Al H (u++u')) w' v x:=by
 obtain⟨b1,b2⟩:=AdS hb
 obtain⟨f1,f2,βs,μ,f3,f4,f5⟩:=Anv (F:=F) (w':=w') (own':=ownC) (n:=ks.length) (p:=[]) post.res hi
 have f1':∀s,s∈u'.map (·.1)->H s= .free:=fun s hs=>RD hm (f1 s hs)
 have hal:∀k,k∈ks->Hm k=H k/\alive (H k)=true:=by
  intro k hk
  have h1:=hok.alive hk
  have h2:=Aod hm h1
  exact⟨h2,by rw[<-h2];exact h1⟩
 have hdis:∀k,k∈ks->k∉u'.map (·.1):=by
  intro k hk hk2
  have:=(hal k hk).2
  rw[f1' k hk2]at this
  cases this
 have hkeys:(u++u').map (·.1)=ks++u'.map (·.1):=by rw[List.map_append,b1]
 have hnd:((u++u').map (·.1)).Nodup:=by
  rw[hkeys,List.nodup_append]
  exact⟨hn,f2,fun a ha b hb hab=>hdis a ha (hab▸hb)⟩
 have hK:∀j,j∈(u++u').map (·.1)↔j∈ks∨j∈u'.map (·.1):=by
  intro j;rw[hkeys,List.mem_append]
 have hget:∀k o,(k,o)∈u++u'->Al H (u++u') k=o:=fun k o h=>Anq hnd h
 have hback:∀k,k∈ks->∃(i:Nat) (o o':O),ks[i]? =some k/\outs[i]? =some o/\Adz (H k) o=some o'/\Al H (u++u') k=o':=by
  intro k hk
  obtain⟨o',ho'⟩:=mem_keys (u:=u) (k:=k) (by rw[b1];exact hk)
  obtain⟨i,o,q1,q2,q3⟩:=b2 k o' ho'
  rw[(hal k hk).1]at q3
  exact⟨i,o,o',q1,q2,q3,hget k o' (List.mem_append_left _ ho')⟩
 have hnoU:∀s k off e t len cs,H s= .tarr k off e t len cs->k∈ks->GK (Al H (u++u') k)=true->False:=by
  intro s k off e t len cs hs hk ha
  have h0:=hno s k off e t len cs hs hk
  obtain⟨i,o,o',q1,q2,q3,q4⟩:=hback k hk
  rw[q4]at ha
  rcases JY q3 with h | ⟨e',t',len',cs1,cs2,h1,h2,h3,h4⟩ | ⟨k',off,e',t',len',cs1,cs2,h1,h2,h3,h4⟩ | ⟨cs1,cs2,h1,h2,h3,h4,h5⟩
  ·rw[h]at ha;simp[GK]at ha
  ·rw[h1]at h0;simp[GK]at h0
  ·rw[h1]at h0;simp[GK]at h0
  ·rw[h5]at ha;simp[GK]at ha
 have hC:∀b,b<w.heap.size->Dv ks own b=none->ownC b=none:=by
  intro b h1 h2
  cases hc:ownC b with
  | none=>rfl
  | some q=>exact absurd h2 ((post.lab b q hc).2 h1)
 let β'':Nat->Base:=fun j=>if j∈u'.map (·.1)then βs j else β j
 let own'':=Aa1 own ownC ks (u'.map (·.1)) μ
 have st:Step F β own H w β'' own'' (Al H (u++u')) w' (fun j=>j∈(u++u').map (·.1)):=by
  refine⟨post.size,post.os,post.tape,post.output,?_,?_,?_,?_,?_,?_,?_,?_,?_,?_⟩
  ·intro b hb hnk
   refine post.keep b hb ?_
   cases ho:own b with
   | none=>exact Ih ho
   | some q=>exact FT (k:=q.1) (p:=q.2) ho (fun hk=>hnk q.1 q.2 ho ((hK _).2 (.inl hk)))
  ·intro hbr b hb hnk
   have hg:Dv ks own b=none:=by
    cases ho:own b with
    | none=>exact Ih ho
    | some q=>exact FT (k:=q.1) (p:=q.2) ho (fun hk=>hnk q.1 (by rw[ho];have:=hbor hbr q.1 b q.2 hk ho;rw[<-this]))
   refine⟨post.keep b hb hg,fun k=> ?_⟩
   show Aa1 own ownC ks _ μ b≠_
   unfold Aa1
   rw[hC b hb hg]
   cases ho:own b with
   | none=>simp
   | some q=>
    obtain⟨k1,p⟩:=q
    simp only
    split
    ·simp
    ·intro h;cases h;exact hnk k ho
  ·intro b k p hb hk
   rw[hK]at hk
   have hlt:=(inv.ownb b _ hb).1
   have hg:Dv ks own b=none:=FT hb (fun h=>hk (.inl h))
   show Aa1 own ownC ks _ μ b=_
   unfold Aa1
   rw[hC b hlt hg,hb]
   simp only
   rw[if_neg (fun h=>hk (.inl h))]
  ·intro b p hb
   have hb':Aa1 own ownC ks (u'.map (·.1)) μ b=some p:=hb
   unfold Aa1 at hb'
   cases hc:ownC b with
   | some q=>
    obtain⟨h1,h2⟩:=post.lab b q hc
    refine⟨h1,fun h3 h4=>h2 h3 (Ih h4)⟩
   | none=>
    rw[hc]at hb'
    cases ho:own b with
    | none=>rw[ho]at hb';cases hb'
    | some q=>exact⟨Nat.lt_of_lt_of_le (inv.ownb b q ho).1 post.size,by simp⟩
  ·intro j hj
   refine⟨?_,G8 hj⟩
   show(if j∈u'.map (·.1)then βs j else β j)=β j
   rw[if_neg (fun h=>hj ((hK j).2 (.inr h)))]
  ·intro k e t len cs hk hH
   rcases(hK k).1 hk with hk | hk
   ·obtain⟨i,o,o',q1,q2,q3,q4⟩:=hback k hk
    have hβ:β'' k=β k:=by
     show(if k∈u'.map (·.1)then βs k else β k)=β k
     rw[if_neg (hdis k hk)]
    rw[q4]
    rcases JY q3 with h | ⟨e',t',len',cs1,cs2,h1,h2,h3,h4⟩ | ⟨k',off,e',t',len',cs1,cs2,h1,h2,h3,h4⟩ | ⟨cs1,cs2,h1,h2,h3,h4,h5⟩
    ·exact .inl h
    ·rw[h1]at hH;cases hH;exact .inr ⟨hβ,0,cs2,by rw[h4];rfl⟩
    ·rw[h1]at hH;cases hH;exact .inr ⟨hβ,0,cs2,by rw[h4];rfl⟩
    ·rw[h1]at hH;cases hH
   ·rw[f1' k hk]at hH;cases hH
  ·intro k cs hk hH
   rcases(hK k).1 hk with hk | hk
   ·obtain⟨i,o,o',q1,q2,q3,q4⟩:=hback k hk
    have hβ:β'' k=β k:=by
     show(if k∈u'.map (·.1)then βs k else β k)=β k
     rw[if_neg (hdis k hk)]
    rw[q4]
    rcases JY q3 with h | ⟨e',t',len',cs1,cs2,h1,h2,h3,h4⟩ | ⟨k',off,e',t',len',cs1,cs2,h1,h2,h3,h4⟩ | ⟨cs1,cs2,h1,h2,h3,h4,h5⟩
    ·exact .inl h
    ·rw[h1]at hH;cases hH
    ·rw[h1]at hH;cases hH
    ·exact .inr ⟨hβ,cs2,h5⟩
   ·rw[f1' k hk]at hH;cases hH
  ·intro k hk hH
   rcases(hK k).1 hk with hk | hk
   ·have:=(hal k hk).2;rw[hH]at this;cases this
   ·rw[f1' k hk]at hH;cases hH
  ·intro k hk hH
   rcases(hK k).1 hk with hk | hk
   ·obtain⟨i,o,o',q1,q2,q3,q4⟩:=hback k hk
    rw[q4]
    rcases JY q3 with h | ⟨e',t',len',cs1,cs2,h1,h2,h3,h4⟩ | ⟨k',off,e',t',len',cs1,cs2,h1,h2,h3,h4⟩ | ⟨cs1,cs2,h1,h2,h3,h4,h5⟩<;>simp[*]
   ·exact absurd (f1' k hk) hH
  ·intro s k off e t len cs hs hH hk ha
   rcases(hK k).1 hk with hk | hk
   ·exact(hnoU s k off e t len cs hH hk ha).elim
   ·have:=inv.objs s
    rw[hH]at this
    exact absurd (f1' k hk) this.2.2.1.2
 have hlab:∀ {i k:Nat} {b:Nat} {p:List Nat},ks[i]? =some k->ownC b=some (i,p)->own'' b=some (k,p):=by
  intro i k b p hik hb
  show Aa1 own ownC ks _ μ b=_
  unfold Aa1
  rw[hb]
  simp only
  rw[if_pos (List.getElem?_eq_some_iff.1 hik).1]
  simp[List.getD_eq_getElem?_getD,hik]
 have hres:∀s b q,s∈u'.map (·.1)->ownC b=some (ks.length,μ s++q)->own'' b=some (s,q):=by
  intro s b q hs hb
  show Aa1 own ownC ks _ μ b=_
  unfold Aa1
  rw[hb]
  simp only
  rw[if_neg (by omega)];simp only[if_true]
  exact Aks f4 hs q
 obtain⟨r1,r2⟩:=f5 β'' own'' (Al H (u++u')) (fun s hs=>by show(if s∈u'.map (·.1)then βs s else β s)=βs s;rw[if_pos hs]) hres (fun s o hso=>hget s o (List.mem_append_right _ hso))
 have hARS:∀ {i k e len:Nat} {cs:List V},ks[i]? =some k->k∈ks->ARS F.Ae (fun _ b=>F.G b) ownC w' i ((callee F β own w ks).β0 i) e 0 len cs->AR F own'' w' k (β'' k) e 0 len cs:=by
  intro i k e len cs hik hk h
  have hβ:β'' k=(callee F β own w ks).β0 i:=by
   show(if k∈u'.map (·.1)then βs k else β k)=β (ks.getD i 0)
   rw[if_neg (hdis k hk)]
   simp[List.getD_eq_getElem?_getD,hik]
  rw[hβ]
  obtain⟨vs,g1,g2,g3,g4,g5⟩:=h
  refine⟨vs,g1,g2,g3,?_,?_⟩
  ·rcases g4 with g4 | ⟨b,o,q1,q2,q3⟩
   ·exact .inl g4
   ·exact .inr ⟨b,o,q1,hlab hik q2,q3⟩
  ·intro j v x hv hx
   refine(g5 j v x hv hx).move (Nat.le_refl 0) ?_ (fun _ _ _ _ _=>rfl) (fun b q hb=>⟨hlab hik hb,rfl⟩)
   intro fl b h1 h2 hS
   have:=ZA h1 (by omega)
   subst this
   exact hS
 refine⟨β'',own'',fun z y h=>st.vr inv h,st.inv inv ?_ ?_,r1⟩
 ·intro k hk
  rcases(hK k).1 hk with hk | hk
  ·obtain⟨i,o,o',q1,q2,q3,q4⟩:=hback k hk
   have hBR:=post.out i o q2
   rw[q4]
   rcases JY q3 with h | ⟨e',t',len',cs1,cs2,h1,h2,h3,h4⟩ | ⟨k',off,e',t',len',cs1,cs2,h1,h2,h3,h4⟩ | ⟨cs1,cs2,h1,h2,h3,h4,h5⟩
   ·rw[h];trivial
   ·rw[h4]
    rw[h2]at hBR
    exact hARS q1 hk hBR.2
   ·rw[h4]
    rw[h2]at hBR
    have hor:=inv.objs k
    rw[h1]at hor
    obtain⟨_,p1,⟨p2,p3⟩,p4⟩:=hor
    refine⟨hARS q1 hk hBR.2,p1,⟨p2,?_⟩,?_⟩
    ·by_cases hk2:k'∈(u++u').map (·.1)
     ·exact st.frees k' hk2 p3
     ·rw[G8 hk2];exact p3
    ·intro ha
     have hk2:k'∉(u++u').map (·.1):=by
      intro hh
      rcases(hK k').1 hh with hh | hh
      ·exact hnoU k k' off e' t' len' cs1 h1 hh ha
      ·exact p3 (f1' k' hh)
     rw[G8 hk2]at ha
     obtain⟨b,ob,p5,p6,p7⟩:=p4 ha
     refine⟨b,ob,by rw[(st.same k' hk2).1];exact p5,st.lab b k' [] p6 hk2,?_⟩
     have hβ:β'' k=β k:=by
      show(if k∈u'.map (·.1)then βs k else β k)=β k
      rw[if_neg (hdis k hk)]
     rw[hβ,<-p7]
     simp only[World.cell?]
     rw[st.blk b (inv.ownb b _ p6).1 (by intro k3 p3 hh;rw[p6]at hh;cases hh;exact hk2)]
   ·rw[h5]
    rw[h2]at hBR
    obtain⟨b,ob,vs,g1,g2,g3,g4,g5⟩:=hBR
    have hβ:β'' k=(callee F β own w ks).β0 i:=by
     show(if k∈u'.map (·.1)then βs k else β k)=β (ks.getD i 0)
     rw[if_neg (hdis k hk)]
     simp[List.getD_eq_getElem?_getD,q1]
    refine⟨b,ob,vs,by rw[hβ];exact g1,hlab q1 g2,g3,g4,?_⟩
    intro j v x hv hx
    have:=g5 j v x hv hx
    rcases Oz h4 hv with⟨u,rfl⟩ | ⟨e,len,c,rfl⟩
    ·cases this;exact .sc ‹_›
    ·exact .rd (by omega) this
  ·obtain⟨o,ho⟩:=mem_keys hk
   rw[hget k o (List.mem_append_right _ ho)]
   exact r2 k o ho
 ·intro k hk hlt hnd
  rcases(hK k).1 hk with hk | hk
  ·refine⟨?_,fun h=> ?_⟩
   ·show(if k∈u'.map (·.1)then βs k else β k)=β k
    rw[if_neg (hdis k hk)]
   ·have:=(hal k hk).2;rw[h]at this;cases this
  ·exact absurd (f1' k hk) (inv.gfree k hlt)
theorem Adg (inv:Inv F β own H w) {Hm:Hp} (hm:∀k,Hm k=H k∨Hm k= .dead) (hno:∀s k off e t len cs,H s= .tarr k off e t len cs->k∈ks->GK (H k)=false)
 {args:List (Bool×V)} {xs:List Value} (hv:Pw (VR F β own H w) (args.map (·.2)) xs) (ho:Gi Hm 0 args=some ks)
 (hbor:F.bor=true->∀k b p,k∈ks->own b=some (k,p)->p=[]) {args':List V}
 (hca:F6 Hm (BK ks Hm) 0 args=some args') {g id:Nat} (hid:F.Ae g=some id) {res:V} {outs:List O} (hD:Den P F.Ae F.G g args' (ks.map fun k=>GX (Hm k)) res outs)
 {u u':DL} {v:V} {sites ss':List Nat} (hb:P9 Hm ks outs=some u) (hi:imp Hm sites res=some (v,u',ss')):
 Calls P id xs.toArray w fun | .returned x,w'=>∃β'' own'',(∀z y,VR F β own H w z y->VR F β'' own'' (Al H (u++u')) w' z y)/\Inv F β'' own'' (Al H (u++u')) w'/\VR F β'' own'' (Al H (u++u')) w' v x | _,_=>False:=by
 obtain⟨a1,a2,a3⟩:=AkI (ks:=ks) (Hm:=Hm) (args':=args') inv hm hbor (fun _=> .inl rfl) hv ho
 have a4:=a3 (fun i k hi=>by rw[Nat.zero_add];exact hi) hca
 have:=hD id hid (callee F β own w ks) rfl rfl rfl rfl (by simp[callee]) (AiN inv hm a1 a2) xs a4
 refine this.mono ?_
 intro e w' he
 cases e with
 | returned x=>
  obtain⟨own',post⟩:=he
  exact Aje inv hm a1 a2 hbor hno post hb hi
 | panicked _=>exact he.elim
 | outgrown=>exact he.elim
theorem Ahd (inv:Inv F β own H w) {Hm:Hp} (hm:∀k,Hm k=H k∨Hm k= .dead) {c:Cf} (hct:c.takes=F.takes) (htk:ks≠ []->∀s,s∈F.takes->Hm s=H s)
 {args:List (Bool×V)} {xs:List Value} (hv:Pw (VR F β own H w) (args.map (·.2)) xs) (ho:Gi Hm 0 args=some ks) (hcok:Nh c Hm ks=true)
 (hbor:F.bor=true->∀k b p,k∈ks->own b=some (k,p)->p=[]) {args':List V}
 (hca:F6 Hm (BK ks Hm) 0 args=some args') {g id:Nat} (hid:F.Ae g=some id) {res:V} {outs:List O} (hD:Den P F.Ae F.G g args' (ks.map fun k=>GX (Hm k)) res outs)
 {u u':DL} {v:V} {sites ss':List Nat} (hb:P9 Hm ks outs=some u) (hi:imp Hm sites res=some (v,u',ss')):
 Calls P id xs.toArray w fun | .returned x,w'=>∃β'' own'',(∀z y,VR F β own H w z y->VR F β'' own'' (Al H (u++u')) w' z y)/\Inv F β'' own'' (Al H (u++u')) w'/\VR F β'' own'' (Al H (u++u')) w' v x | _,_=>False:=by
 simp only[Nh,Bool.and_eq_true,Bool.or_eq_true,Bool.not_eq_true',List.isEmpty_iff,List.all_eq_true]at hcok
 have hno:∀s k off e t len cs,H s= .tarr k off e t len cs->k∉ks:=by
  intro s k off e t len cs hs hk
  have hor:=inv.objs s
  rw[hs]at hor
  have hst:s∈F.takes:=hor.2.1
  have:=hcok.2 s (by rw[hct];exact hst)
  rw[htk (fun h=>by rw[h]at hk;cases hk) s hst,hs]at this
  simp at this
  exact this hk
 exact Adg inv hm (fun s k off e t len cs hs hk=>absurd hk (hno s k off e t len cs hs)) hv ho hbor hca hid hD hb hi
def P7 (ks:List Nat) (own:Nat->Option (Nat×List Nat)):Nat->Option (Nat×List Nat):=fun b=>
 match own b with
 | some (k,i::p)=>if k∈ks then none else some (k,i::p)
 | o=>o
theorem AhZ {b k:Nat} (h:own b=some (k,[])):P7 ks own b=some (k,[]):=by unfold P7;rw[h]
theorem AkL {b k:Nat} {p:List Nat} (h:own b=some (k,p)) (hk:k∉ks):P7 ks own b=some (k,p):=by
 unfold P7;rw[h]
 cases p with
 | nil=>rfl
 | cons i p=>simp[hk]
theorem Pz {b:Nat} {q:Nat×List Nat} (h:P7 ks own b=some q):own b=some q/\(q.1∈ks->q.2=[]):=by
 unfold P7 at h
 split at h
 ·rename_i k i p e
  split at h
  ·cases h
  ·rename_i hk;cases h;exact⟨e,fun hh=>absurd hh hk⟩
 ·rename_i hne
  refine⟨h,fun hh=> ?_⟩
  obtain⟨k,p⟩:=q
  cases p with
  | nil=>rfl
  | cons i p=>exact absurd h (hne k i p)
theorem Step.P7 (inv:Inv F β own H w) (hv:∀k,k∈ks->∃cs,H k= .var cs):Step F β own H w β (Go.Eng.P7 ks own) H w (fun k=>k∈ks):=by
 refine⟨Nat.le_refl _,rfl,rfl,rfl,fun _ _ _=>rfl,?_,?_,?_,fun _ _=>⟨rfl,rfl⟩,?_,?_,fun _ _ h=>h,fun _ _ h=>h,?_⟩
 ·intro _ b _ hn
  refine⟨rfl,fun k h=> ?_⟩
  exact hn k (Pz h).1
 ·intro b k p hb hk;exact AkL hb hk
 ·intro b p hb
  have:=(Pz hb).1
  exact⟨(inv.ownb b p this).1,fun _=>by rw[this];simp⟩
 ·intro k e t len cs hk hH
  obtain⟨c,hc⟩:=hv k hk
  rw[hc]at hH;simp[Ac]at hH
 ·intro k cs hk hH;exact .inr ⟨rfl,cs,hH⟩
 ·intro s k off e t len cs hs hH hk ha
  obtain⟨c,hc⟩:=hv k hk
  rw[hc]at ha;simp[GK]at ha
theorem Adn (inv:Inv F β own H w) (hv:∀k,k∈ks->∃cs,H k= .var cs):Inv F β (P7 ks own) H w:=by
 have st:=Step.P7 (F:=F) inv hv
 refine st.inv inv ?_ ?_
 ·intro k hk
  obtain⟨cs,hc⟩:=hv k hk
  have h0:=inv.objs k
  rw[hc]at h0⊢
  obtain⟨b,o,vs,h1,h2,h3,h4,h5⟩:=h0
  exact⟨b,o,vs,h1,AhZ h2,h3,h4,fun i v x hv hx=>st.vr inv (h5 i v x hv hx)⟩
 ·intro k hk _ _
  obtain⟨cs,hc⟩:=hv k hk
  exact⟨rfl,by rw[hc];simp⟩
theorem Aot (inv:Inv F β own H w) {Hm:Hp} (hm:∀k,Hm k=H k∨Hm k= .dead) {c:Cf} (hcb:c.bor=F.bor) (hct:c.takes=F.takes) (htk:ks≠ []->∀s,s∈F.takes->Hm s=H s)
 {args:List (Bool×V)} {xs:List Value} (hv:Pw (VR F β own H w) (args.map (·.2)) xs) (ho:Gi Hm 0 args=some ks) (hcok:Nh c Hm ks=true) {args':List V}
 (hca:F6 Hm (BK ks Hm) 0 args=some args') {g id:Nat} (hid:F.Ae g=some id) {res:V} {outs:List O} (hD:Den P F.Ae F.G g args' (ks.map fun k=>GX (Hm k)) res outs)
 {u u':DL} {v:V} {sites ss':List Nat} (hb:P9 Hm ks outs=some u) (hi:imp Hm sites res=some (v,u',ss')):
 Calls P id xs.toArray w fun | .returned x,w'=>∃β'' own'',(∀z y,VR F β own H w z y->VR F β'' own'' (Al H (u++u')) w' z y)/\Inv F β'' own'' (Al H (u++u')) w'/\VR F β'' own'' (Al H (u++u')) w' v x | _,_=>False:=by
 by_cases hbr:F.bor=true
 ·have hv2:∀k,k∈ks->∃cs,H k= .var cs:=by
   intro k hk
   have h1:=hcok
   simp only[Nh,Bool.and_eq_true,Bool.or_eq_true,Bool.not_eq_true',List.all_eq_true]at h1
   rcases h1.1 with h2 | h2
   ·rw[hcb,hbr]at h2;cases h2
   ·have h3:=h2 k hk
    rcases hm k with g | g
    ·rw[g]at h3
     cases hk2:H k with
     | var cs=>exact⟨cs,rfl⟩
     | _=>rw[hk2]at h3;cases h3
    ·rw[g]at h3;cases h3
  have st:=Step.P7 (F:=F) inv hv2
  have inv1:=Adn (F:=F) inv hv2
  have:=Ahd inv1 hm hct htk (xs:=xs) ⟨hv.1,fun i v x h1 h2=>st.vr inv (hv.2 i v x h1 h2)⟩ ho hcok (fun _ k b p hk hb=>(Pz hb).2 hk) hca hid hD hb hi
  refine this.mono ?_
  intro e w' he
  cases e with
  | returned x=>
   obtain⟨β'',own'',q1,q2,q3⟩:=he
   exact⟨β'',own'',fun z y hz=>q1 z y (st.vr inv hz),q2,q3⟩
  | panicked _=>exact he.elim
  | outgrown=>exact he.elim
 ·exact Ahd inv hm hct htk hv ho hcok (fun h=>absurd h hbr) hca hid hD hb hi
theorem AfB {Hm:Hp} (hm:∀k,Hm k=H k∨Hm k= .dead) {t:List Nat} (hcok:Nh ⟨true,t⟩ Hm ks=true):∀k,k∈ks->∃cs,H k= .var cs:=by
 intro k hk
 simp only[Nh,Bool.and_eq_true,Bool.or_eq_true,Bool.not_eq_true',List.all_eq_true]at hcok
 rcases hcok.1 with h2 | h2
 ·cases h2
 ·have h3:=h2 k hk
  rcases hm k with g | g
  ·rw[g]at h3
   cases hk2:H k with
   | var cs=>exact⟨cs,rfl⟩
   | _=>rw[hk2]at h3;cases h3
  ·rw[g]at h3;cases h3
theorem AnO (inv:Inv F β own H w) {Hm:Hp} (hm:∀k,Hm k=H k∨Hm k= .dead) {t:List Nat}
 {args:List (Bool×V)} {xs:List Value} (hv:Pw (VR F β own H w) (args.map (·.2)) xs) (ho:Gi Hm 0 args=some ks) (hcok:Nh ⟨true,t⟩ Hm ks=true) {args':List V}
 (hca:F6 Hm (BK ks Hm) 0 args=some args') {g id:Nat} (hid:F.Ae g=some id) {res:V} {outs:List O} (hD:Den P F.Ae F.G g args' (ks.map fun k=>GX (Hm k)) res outs)
 {u u':DL} {v:V} {sites ss':List Nat} (hb:P9 Hm ks outs=some u) (hi:imp Hm sites res=some (v,u',ss')):
 Calls P id xs.toArray w fun | .returned x,w'=>∃β'' own'',(∀z y,VR F β own H w z y->VR F β'' own'' (Al H (u++u')) w' z y)/\Inv F β'' own'' (Al H (u++u')) w'/\VR F β'' own'' (Al H (u++u')) w' v x | _,_=>False:=by
 have hv2:=AfB (ks:=ks) hm hcok
 have hno:∀s k off e t len cs,H s= .tarr k off e t len cs->k∈ks->GK (H k)=false:=by
  intro s k off e t len cs _ hk
  obtain⟨c,hc⟩:=hv2 k hk
  rw[hc];rfl
 have st:=Step.P7 (F:=F) inv hv2
 have inv1:=Adn (F:=F) inv hv2
 have:=Adg inv1 hm hno (xs:=xs) ⟨hv.1,fun i v x h1 h2=>st.vr inv (hv.2 i v x h1 h2)⟩ ho (fun _ k b p hk hb=>(Pz hb).2 hk) hca hid hD hb hi
 refine this.mono ?_
 intro e w' he
 cases e with
 | returned x=>
  obtain⟨β'',own'',q1,q2,q3⟩:=he
  exact⟨β'',own'',fun z y hz=>q1 z y (st.vr inv hz),q2,q3⟩
 | panicked _=>exact he.elim
 | outgrown=>exact he.elim
end
end Go.Eng
