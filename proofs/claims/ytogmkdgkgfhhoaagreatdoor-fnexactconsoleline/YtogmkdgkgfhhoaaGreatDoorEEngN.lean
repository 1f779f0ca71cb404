/- Own work: part 6 of the proof of FnExactConsoleLine. -/
import Derived.Test.YtogmkdgkgfhhoaaGreatDoorEEngH
import Derived.Laws.MakeOwn
set_option linter.unusedSimpArgs false
set_option linter.unusedVariables false
namespace Go.Eng
set_option linter.unusedVariables false
def cA:V->Value->Bool
 | .sc v,x=>vq v x
 | .sl 0 _ 0 [],.slice none 0 0=>true
 | _,_=>false
def cAs:List V->List Value->Bool
 | [],[]=>true
 | v::r,x::s=>cA v x&&cAs r s
 | _,_=>false
theorem Arz {Ae:Nat->Option FuncId} {w:World} {own:Nat->Option (Nat×List Nat)} {S:Nat->Nat->Prop} {lim k:Nat} {p:List Nat} {v:V} {x:Value} (h:cA v x=true):
 Ow Ae w own S lim k p v x:=by
 unfold cA at h
 split at h
 ·obtain⟨rfl,h1⟩:=Apv h;exact .sc h1
 ·exact .own (vs:=[]) ⟨Nat.le_refl 0,by omega⟩ (by simp) rfl (.inl (by simp)) (by simp)
 ·cases h
theorem AjQ:∀ {zs:List V} {xs:List Value} {j:Nat} {v:V} {x:Value},cAs zs xs=true->zs[j]? =some v->xs[j]? =some x->cA v x=true
 | [],_,_,_,_,_,h,_=>by simp at h
 | _::_,[],_,_,_,_,_,h=>by simp at h
 | z::zs,y::ys,0,v,x,h,h1,h2=>by
  simp at h1 h2;subst h1;subst h2
  simp[cAs]at h;exact h.1
 | z::zs,y::ys,j+1,v,x,h,h1,h2=>by
  simp[cAs]at h
  exact AjQ h.2 (by simpa using h1) (by simpa using h2)
def elB (P:Program) (t:TypeId) (e b:Nat) (zero:Option (List V)):Bool:=
 match P.underlying t with
 | some (.slice et)=>match P.info? et with
  | some i=>match i.zero with
   | some z=>i.size==e&&e !=0&&i.bytes==b&&b !=0&&z.cells.size==e&&z.cells.toList.all (·.oneCell')&&(match zero with | some zs=>cAs zs z.cells.toList | none=>true)
   | none=>false
  | none=>false
 | _=>false
section
variable {P:Program} {F:Fr} {β:Nat->Base} {own:Nat->Option (Nat×List Nat)} {H:Hp} {w w':World}
theorem Abv {t:TypeId} {e b:Nat} {zero:Option (List V)} (h:elB P t e b zero=true):∃et i z,P.underlying t=some (.slice et)/\P.info? et=some i/\i.zero=some z/\i.size=e/\0<e/\
 i.bytes=b/\0<b/\z.cells.size=e/\Fj z.cells.toList/\∀zs,zero=some zs->cAs zs z.cells.toList=true:=by
 unfold elB at h
 split at h
 ·rename_i et hu
  cases hi:P.info? et with
  | none=>simp[hi]at h
  | some i=>
   cases hz:i.zero with
   | none=>simp[hi,hz]at h
   | some z=>
    simp only[hi,hz,Bool.and_eq_true,beq_iff_eq,bne_iff_ne]at h
    obtain⟨⟨⟨⟨⟨⟨h1,h2⟩,h3⟩,h4⟩,h5⟩,h6⟩,h7⟩:=h
    refine⟨et,i,z,hu,hi,hz,h1,by omega,h3,by omega,h5,fun x hx=>List.all_eq_true.1 h6 x hx,?_⟩
    intro zs hzs
    subst hzs
    exact h7
 ·cases h
theorem AeR {α:Type} (z:List α) (n i:Nat) (hz:0<z.length) (hi:i<n*z.length):((List.replicate n z).flatten)[i]? =z[i % z.length]? :=by
 induction n generalizing i with
 | zero=>simp at hi
 | succ n ih=>
  rw[List.replicate_succ,List.flatten_cons]
  rcases Nat.lt_or_ge i z.length with h | h
  ·rw[List.getElem?_append_left h,Nat.mod_eq_of_lt h]
  ·rw[List.getElem?_append_right h,ih (i-z.length) (by rw[Nat.add_mul]at hi;omega),<-Nat.mod_eq_sub_mod h]
theorem Ai1 {α:Type} (z:List α) (n:Nat):((List.replicate n z).flatten).length=n*z.length:=by
 induction n with
 | zero=>simp
 | succ n ih=>rw[List.replicate_succ,List.flatten_cons,List.length_append,ih,Nat.add_mul];omega
theorem Afp (inv:Inv F β own H w) {Hm:Hp} (hm:∀k,Hm k=H k∨Hm k= .dead) {t:TypeId} {k e b:Nat} {zero:List V} (ht:elB P t e b (some zero)=true)
 {vn:V} {xn:Value} {n:Int} (hn:VR F β own H w vn xn) (hni:Yp vn=some n) {v:V} {u:DL} (h:Me Hm k e b zero n=some (v,u)):
 Z8 F β own H w ((do pure (.value (<-Instr.makeSlice t xn xn)):Sem Next).run P w) v u:=by
 obtain⟨et,i,z,hu,hi,hz,he,he0,hb,hb0,hzs,h1,hzero⟩:=Abv ht
 obtain⟨kn,rfl⟩:=RX hn hni
 unfold Me at h
 split at h
 ·rename_i hf
  split at h
  ·rename_i hc
   obtain⟨n0,nb,zl⟩:=hc
   cases h
   have hk:=RD hm hf
   have hle:n<=2 ^ 40:=by
    have h1:n*1<=n*b:=Int.mul_le_mul_of_nonneg_left (by omega) n0
    omega
   have hr:=run_make (P:=P) w t et i z hu hi hz kn kn n n n0 (Int.le_refl _) (by rw[hb,Int.mul_comm];omega) (by omega)
   have hsz0:(madeCells z.cells (n.toNat*i.size)).size=n.toNat*e:=by rw[size_madeCells,he]
   have hget:∀j,j<n.toNat*e->(madeCells z.cells (n.toNat*i.size))[j]? =z.cells.toList[j % e]? :=by
    intro j hj
    have hmod:j % e<e:=Nat.mod_lt _ he0
    unfold madeCells
    rw[he]
    simp only[Array.getElem?_map,Array.getElem?_range,hj,if_true,Option.map_some]
    rw[hzs,getElem!_pos z.cells (j % e) (by omega),Array.getElem?_toList,Array.getElem?_eq_getElem (by omega)]
   have hlen:(List.replicate n.toNat zero).flatten.length=n.toNat*e:=by rw[Ai1,zl]
   have:=AjE (F:=F) (β:=β) (own:=own) (H:=H) (w:=w) inv (e:=e) (t:=0) (len:=n.toNat) hk (cs:=(List.replicate n.toNat zero).flatten) (ds:=[]) (by simp) (ν:=fun _ p=>p) (fun _ _ h=>h)
    (vs:=(madeCells z.cells (n.toNat*i.size)).toList) (cap:=n.toNat) (obj:=madeCells z.cells (n.toNat*i.size)) (et:=et) (w':=w.alloc (.cells (madeCells z.cells (n.toNat*i.size)) et)) rfl rfl rfl rfl
    (List.take_length) (by
     intro x hx
     obtain⟨j,hj,rfl⟩:=List.mem_iff_getElem.1 hx
     have hj':j<n.toNat*e:=by simpa[hsz0]using hj
     have h2:=hget j hj'
     rw[<-Array.getElem?_toList,List.getElem?_eq_getElem hj]at h2
     exact h1 _ (List.mem_of_getElem? h2.symm)) hsz0 hlen (by simp[hsz0,hlen]) ⟨Nat.le_refl _,by omega⟩ (by
     intro j v x hv hx
     have hj:j<n.toNat*e:=by
      have:=(List.getElem?_eq_some_iff.1 hv).1
      omega
     rw[AeR zero n.toNat j (by omega) (by rw[zl];exact hj),zl]at hv
     rw[Array.getElem?_toList,hget j hj]at hx
     exact Arz (AjQ (hzero zero rfl) hv hx)) (r:=((do pure (.value (<-Instr.makeSlice t (.int kn n) (.int kn n))):Sem Next).run P w)) (by
      simp only[Sem.run_bind,hr,Result.andThen_ok,Sem.run_pure])
   simpa[C8]using this
  ·cases h
 ·cases h
def Rows (w:World) (ad:Option Addr) (vs:List Value):Prop:=vs=[]∨∃b o,ad=some ⟨b,o,none⟩/\Rds w b o vs
theorem Xo {ad:Option Addr} {vs:List Value} {e n c:Nat} (hr:Rows w ad vs) (hl:vs.length=n*e) {w':World} (hh:w'.heap=w.heap):
 (Builtin.firstCells e n (.slice ad n c)).run P w' = .ok vs.toArray w':=by
 cases ad with
 | none=>
  rcases hr with hr | ⟨b,o,h1,_⟩
  ·subst hr;simp[Builtin.firstCells]
  ·cases h1
 | some a=>
  refine run_firstCells_some w' e n a n c vs hl ?_
  intro j v hj
  rcases hr with hr | ⟨b,o,h1,h2⟩
  ·subst hr;simp at hj
  ·cases h1
   rw[JI]
   have hlt:=(List.getElem?_eq_some_iff.1 hj).1
   have:=h2.2 j hlt
   simp only[World.cell?,hh]at this⊢
   rw[this,hj]
theorem Ahy {t t2 ty et:TypeId} {i:TypeInfo} {z:Value} (hu:P.underlying t=some (.slice et)) (hu2:∃e2,P.underlying t2=some (.slice e2)) (hi:P.info? et=some i) (hz:i.zero=some z)
 {ad ad2:Option Addr} {sLen sCap n c2:Nat} {olds news:List Value} (hO:Rows w ad olds) (hol:olds.length=sLen*i.size) (hN:Rows w ad2 news) (hnl:news.length=n*i.size)
 (hb0:0<i.bytes) (hb:(sLen+n)*i.bytes<=2 ^ 40):
 (Builtin.append_ #[t,t2] ty #[.slice ad sLen sCap,.slice ad2 n c2]).run P w=
  if sLen+n<=sCap then(match ad with | some a=>(storeCells (a.add (sLen*i.size)) news).run P w | none=> .ok () w).andThen fun _ w'=> .ok (.slice ad (sLen+n) sCap) w'
  else .ok (.slice (some ⟨w.heap.size,0,none⟩) (sLen+n) (grownCap w (sLen+n) sCap et))
   (w.drew.alloc (.cells (olds.toArray++news.toArray++Builtin.zeroCells z.cells (grownCap w (sLen+n) sCap et-(sLen+n))) et)):=by
 obtain⟨e2,hu2⟩:=hu2
 have hle:sLen+n<=2 ^ 40:=by
  have:(sLen+n)*1<=(sLen+n)*i.bytes:=Nat.mul_le_mul_left _ hb0
  omega
 have hfN:(Builtin.firstCells i.size n (.slice ad2 n c2)).run P w= .ok news.toArray w:=Xo hN hnl rfl
 have hfN':(Builtin.firstCells i.size n (.slice ad2 n c2)).run P w.drew= .ok news.toArray w.drew:=Xo hN hnl rfl
 have hfO':(Builtin.firstCells i.size sLen (.slice ad sLen sCap)).run P w.drew= .ok olds.toArray w.drew:=Xo hO hol rfl
 by_cases hg:sLen+n<=sCap
 ·rw[if_pos hg]
  cases ad with
  | none=>
   simp[Builtin.append_,run_underlying hu,run_underlying hu2,sizeOf,typeInfo,hi,Builtin.lenOf,hg,hfN]
  | some a=>
   simp[Builtin.append_,run_underlying hu,run_underlying hu2,sizeOf,typeInfo,hi,Builtin.lenOf,hg,hfN]
 ·rw[if_neg hg]
  have h63':¬(9223372036854775807<((sLen:Int)+(n:Int))):=by omega
  have h48':¬(281474976710656<Builtin.nextslicecap (sLen+n) sCap*i.bytes):=by
   have:=growslice_fits (need:=sLen+n) (old:=sCap) (bytes:=i.bytes) (by omega) (by omega)
   omega
  simp[Builtin.append_,run_underlying hu,run_underlying hu2,sizeOf,typeInfo,zeroValue,hi,hz,Builtin.lenOf,hg,h63',h48',Question.forced,hfN',hfO',newRow,grownCap]
  congr 2
  apply Array.ext'
  simp[List.append_assoc]
theorem AfX (w:World) (need old:Nat) (et:TypeId):need<=grownCap w need old et:=by
 exact Nat.le_add_right _ _
theorem AeI (w:World) (need old:Nat) (et:TypeId) (h:need<=2 ^ 40):grownCap w need old et<=9223372036854775807:=by
 have:=Nat.mod_lt (w.tape w.drawn (.appendCap need old et)) (show 0<2 ^ 63-need by omega)
 unfold grownCap
 simp only[Question.cut]
 omega
theorem VQ (inv : Inv F β own H w) {Hm : Hp} (hm : ∀ k, Hm k = H k ∨ Hm k = .dead) {e : Nat} {v : V} {x : Value} (hv : VR F β own H w v x) {t len : Nat} {cs : List V} {ks : List Nat}
    (h : Pt Hm e v = some (t, len, cs, ks)) : ∃ ad cap vs, x = .slice ad len cap /\ cs.length = len * e /\ vs.length = cs.length /\ (len <= cap /\ cap <= 9223372036854775807) /\ Rows w ad vs /\ Fj vs /\
      ((ks = [] /\ cs = [] /\ cap = 0 /\ ad = none) ∨ ∃ k0, ks = [k0] /\ Ac (H k0) = some (e, t, len, cs) /\ ad = (β k0).a /\ cap = (β k0).cap /\
        (cap * e = 0 ∨ ∃ b o, ad = some ⟨b, o, none⟩ /\ own b = some (k0, []) /\ Has w b o vs (cap * e)) /\
        ∀ (i : Nat) (v : V) (x : Value), cs[i]? = some v -> vs[i]? = some x -> Ow F.Ae w own (F.S w own) t k0 [i] v x) := by
  cases v with
  | nil e0 =>
    simp [Pt] at h
    obtain ⟨rfl, rfl, rfl, rfl⟩ := h
    cases hv
    exact ⟨none, 0, [], rfl, by simp, rfl, ⟨Nat.le_refl _, by omega⟩, .inl rfl, by simp [Fj], .inl ⟨rfl, rfl, rfl, rfl⟩⟩
  | arr k0 =>
    simp only [Pt] at h
    cases hk : Ac (Hm k0) with
    | none => simp [hk] at h
    | some r =>
      obtain ⟨e', t', len', cs'⟩ := r
      simp only [hk] at h
      split at h
      · rename_i he; subst he
        cases h
        have hk' := Fe hm hk
        obtain ⟨vs, g1, g2, g3, g4, g5⟩ := Hz inv hk'
        refine ⟨_, _, vs, EZ hv hk', g2, g1, g3, ?_, ?_, .inr ⟨k0, rfl, hk', rfl, rfl, g4, g5⟩⟩
        · rcases g4 with g4 | ⟨b, o, h1, _, h3⟩
          · left
            have : len * e' <= (β k0).cap * e' := Nat.mul_le_mul_right _ g3.1
            exact List.eq_nil_of_length_eq_zero (by omega)
          · exact .inr ⟨b, o, h1, DF h3⟩
        · rcases g4 with g4 | ⟨b, o, h1, _, h3⟩
          · have : len * e' <= (β k0).cap * e' := Nat.mul_le_mul_right _ g3.1
            have : vs = [] := List.eq_nil_of_length_eq_zero (by omega)
            subst this; simp [Fj]
          · exact h3.1
      · cases h
  | _ => simp [Pt] at h
theorem AgR (inv:Inv F β own H w) {Hm:Hp} (hm:∀k,Hm k=H k∨Hm k= .dead) {e:Nat} {mv:Bool} {v:V} {x:Value} (hv:VR F β own H w v x) {t n:Nat} {c:List V} {ks:List Nat}
 (h:Np Hm e mv v=some (t,n,c,ks)):∃ad cap vs,x= .slice ad n cap/\c.length=n*e/\vs.length=c.length/\Rows w ad vs/\Fj vs/\
  (∀k1,k1∈ks->(Ac (Hm k1)).isSome=true)/\
  ((ks=[]/\∀ {own':Nat->Option (Nat×List Nat)} {w':World} {S':Nat->Nat->Prop} {lim k:Nat} {p:List Nat},t<=lim->(∀fl b,1<=fl->F.S w own fl b->S' fl b/\w'.heap[b]? =w.heap[b]?)->
   ∀(i:Nat) (v:V) (x:Value),c[i]? =some v->vs[i]? =some x->Ow F.Ae w' own' S' lim k p v x)∨
   (∃k1,ks=[k1]/\∀(i:Nat) (v:V) (x:Value),c[i]? =some v->vs[i]? =some x->Ow F.Ae w own (F.S w own) t k1 [i] v x)):=by
 have scs:∀ {c:List V} {vs:List Value},c.all Mr=true->Pw (fun v x=>v= .sc x/\x.oneCell' =true) c vs->Fj vs/\
  ∀ {own':Nat->Option (Nat×List Nat)} {w':World} {S':Nat->Nat->Prop} {lim k:Nat} {p:List Nat} (i:Nat) (v:V) (x:Value),c[i]? =some v->vs[i]? =some x->Ow F.Ae w' own' S' lim k p v x:=by
  intro c vs hc hp
  refine⟨?_,?_⟩
  ·intro y hy
   obtain⟨i,hi,rfl⟩:=List.mem_iff_getElem.1 hy
   obtain⟨v,hv⟩:∃v,c[i]? =some v:=⟨c[i]'(by rw[<-hp.1];exact hi),by simp⟩
   exact(hp.2 i v _ hv (by simp[hi])).2
  ·intro own' w' S' lim k p i v x hv hx
   obtain⟨rfl,h1⟩:=hp.2 i v x hv hx
   exact .sc h1
 cases v with
 | nil e0=>
  simp[Np]at h
  obtain⟨rfl,rfl,rfl,rfl⟩:=h
  cases hv
  exact⟨none,0,[],rfl,by simp,rfl,.inl rfl,by simp[Fj],by simp,.inl ⟨rfl,by simp⟩⟩
 | sl fl e0 n0 c0=>
  cases fl with
  | zero=>simp[Np]at h
  | succ fl=>
   simp only[Np]at h
   split at h
   ·rename_i he;subst he
    split at h
    ·rename_i hsc
     cases h
     have hcon:content Hm (.sl (fl+1) e0 n c)=some (e0,n,c.map (AO (fl+1))):=rfl
     have hid:c.map (AO (fl+1))=c:=by
      apply List.ext_getElem?
      intro i
      simp only[List.getElem?_map]
      cases hi:c[i]? with
      | none=>rfl
      | some u=>
       have:=List.all_eq_true.1 hsc u (List.mem_of_getElem? hi)
       cases u<;>simp[Mr]at this
       rfl
     rw[hid]at hcon
     obtain⟨ad,cap,vs,rfl,h1,h2,h3,h4⟩:=O7 inv hm hv hcon hsc
     obtain⟨g1,g2⟩:=scs hsc h3
     refine⟨ad,cap,vs,rfl,h1,h3.1,?_,g1,by simp,.inl ⟨rfl,fun _ _ i v x hv hx=>g2 i v x hv hx⟩⟩
     rcases h4 with h4 | h4
     ·left;subst h4;exact h3.N8
     ·exact .inr h4
    ·cases h
     cases hv with
     | rd h1 hr=>
      cases hr with
      | @sl _ _ _ _ ad cap vs hl hw hvl hmm hc=>
       refine⟨ad,cap,vs,rfl,by simpa using hw,by simpa using hvl,?_,?_,by simp,.inl ⟨rfl,?_⟩⟩
       ·rcases hmm with hmm | ⟨b,o,h2,_,h3⟩
        ·left;subst hmm;simpa using hvl
        ·exact .inr ⟨b,o,h2,h3⟩
       ·rcases hmm with hmm | ⟨b,o,h2,_,h3⟩
        ·have:vs=[]:=by subst hmm;simpa using hvl
         subst this;simp[Fj]
        ·exact h3.1
       ·intro own' w' S' lim k p hlim hS i v x hv' hx
        simp only[List.getElem?_map,Option.map_eq_some_iff]at hv'
        obtain⟨u,hu,rfl⟩:=hv'
        have h6:=(hc i u x hu hx).flag (fl+1)
        have h7:Rd F.Ae w' (S' (fl+1)) (AO (fl+1) u) x:=h6.move (fun b hb=>(hS _ b h1 hb).1) (fun b hb=>(hS _ b h1 hb).2)
        cases u with
        | sc y=>cases h7;exact .sc ‹_›
        | sl f2 e2 l2 c2=>exact .ro h1 hlim h7
        | rptr f2 c2 o2=>exact .rptr h1 hlim h7
        | nil e2=>exact .ro h1 hlim h7
        | _=>exact .undef
   ·cases h
 | arr k1=>
  simp only[Np]at h
  cases hk:Ac (Hm k1)with
  | none=>simp[hk]at h
  | some r=>
   obtain⟨e',t',n',c'⟩:=r
   simp only[hk]at h
   split at h
   ·rename_i he;subst he
    have hk':=Fe hm hk
    obtain⟨vs,g1,g2,g3,g4,g5⟩:=Hz inv hk'
    have hrows:Rows w (β k1).a vs:=by
     rcases g4 with g4 | ⟨b,o,h1,_,h3⟩
     ·left
      have:n'*e'<=(β k1).cap*e':=Nat.mul_le_mul_right _ g3.1
      exact List.eq_nil_of_length_eq_zero (by omega)
     ·exact .inr ⟨b,o,h1,DF h3⟩
    have hones:Fj vs:=by
     rcases g4 with g4 | ⟨b,o,h1,_,h3⟩
     ·have:n'*e'<=(β k1).cap*e':=Nat.mul_le_mul_right _ g3.1
      have:vs=[]:=List.eq_nil_of_length_eq_zero (by omega)
      subst this;simp[Fj]
     ·exact h3.1
    split at h
    ·cases h
     exact⟨_,_,vs,EZ hv hk',g2,g1,hrows,hones,by simp[hk],.inr ⟨k1,rfl,g5⟩⟩
    ·split at h
     ·rename_i hsc
      cases h
      have hpw:Pw (fun v x=>v= .sc x/\x.oneCell' =true) c vs:=by
       refine⟨g1,fun i v x hv hx=> ?_⟩
       have h1:=List.all_eq_true.1 hsc v (List.mem_of_getElem? hv)
       cases v<;>simp[Mr]at h1
       have h2:=g5 i _ x hv hx
       cases h2;exact⟨rfl,‹_›⟩
      exact⟨_,_,vs,EZ hv hk',g2,g1,hrows,hones,by simp,.inl ⟨rfl,fun _ _ i v x hv hx=>(scs hsc hpw).2 i v x hv hx⟩⟩
     ·cases h
   ·cases h
 | sub k1 off n0=>
  simp only[Np]at h
  cases hk:Ac (Hm k1)with
  | none=>simp[hk]at h
  | some r=>
   obtain⟨e',t',n',c'⟩:=r
   simp only[hk]at h
   split at h
   ·rename_i he
    obtain⟨rfl,hsc⟩:=he
    cases h
    have hcon:content Hm (.sub k1 off n)=some (e',n,Go.Eng.part c' e' off n):=by simp[content,hk]
    obtain⟨ad,cap,vs,rfl,h1,h2,h3,h4⟩:=O7 inv hm hv hcon hsc
    obtain⟨g1,g2⟩:=scs hsc h3
    refine⟨ad,cap,vs,rfl,h1,h3.1,?_,g1,by simp,.inl ⟨rfl,fun _ _ i v x hv hx=>g2 i v x hv hx⟩⟩
    rcases h4 with h4 | h4
    ·left;rw[h4]at h3;exact h3.N8
    ·exact .inr h4
   ·cases h
 | _=>simp[Np]at h
end
end Go.Eng
namespace Go.Eng
theorem Ahk {α:Type} (vs ys:List α) (off:Nat) (h:off+ys.length<=vs.length):putAt vs off ys=vs.take off++ys++vs.drop (off+ys.length):=by
 have h1:vs=vs.take off++vs.drop off:=(List.take_append_drop off vs).symm
 have h2:(vs.take off).length=off:=by simp;omega
 have h3:=R4 (vs.take off) ys (vs.drop off) (by simp;omega)
 rw[<-h1,h2]at h3
 rw[h3]
 simp
section
variable {P:Program} {F:Fr} {β:Nat->Base} {own:Nat->Option (Nat×List Nat)} {H:Hp} {w w':World}
theorem WV {b o n:Nat} {vs ys:List Value} (h:Has w b o vs n) {off:Nat} (h1:off<=vs.length) (h2:off+ys.length<=n) (hy:Fj ys):
 ∃w',(storeCells ⟨b,o+off,none⟩ ys).run P w= .ok () w'/\w'.heap.size=w.heap.size/\w'.os=w.os/\w'.tape=w.tape/\w'.output=w.output/\
  (∀b',b'≠b->w'.heap[b']? =w.heap[b']?)/\Has w' b o (vs.take off++ys++vs.drop (off+ys.length)) n/\
  ∀i,¬(off<=i/\i<off+ys.length)->w'.cell? ⟨b,o+i,none⟩=w.cell? ⟨b,o+i,none⟩:=by
 obtain⟨g1,c,et,g2,g3,g4,g5⟩:=h
 have hr:=run_storeCells_at (P:=P) b (o+off) et ys 0 c w g2 (by omega) (fun v hv=>hy v hv)
 refine⟨_,hr,by simp,rfl,rfl,rfl,fun b' hb'=>setRow_other w b b' _ hb',?_,?_⟩
 rotate_left
 ·intro i hi
  have hA:(c.toList.take (o+off)).length=o+off:=by simp;omega
  simp only[World.cell?,setRow_heap w b c _ et (0,0) g2,g2]
  simp only[Option.isSome_none,Bool.false_eq_true,if_false,Nat.add_zero,List.getElem?_toArray]
  rcases Nat.lt_or_ge i off with hi1 | hi1
  ·rw[List.append_assoc,List.getElem?_append_left (by omega),List.getElem?_take,if_pos (by omega),Array.getElem?_toList]
  ·rw[List.getElem?_append_right (by simp;omega)]
   simp only[List.length_append,hA,List.getElem?_drop]
   rw[show o+off+ys.length+(o+i-(o+off+ys.length))=o+i by omega,Array.getElem?_toList]
 refine⟨?_,_,et,setRow_heap w b c _ et (0,0) g2,?_,?_,?_⟩
 ·intro x hx
  simp only[List.mem_append]at hx
  rcases hx with(hx | hx) | hx
  ·exact g1 x (List.mem_of_mem_take hx)
  ·exact hy x hx
  ·exact g1 x (List.mem_of_mem_drop hx)
 ·simp;omega
 ·simp;omega
 ·intro i hi
  simp only[Nat.add_zero,List.getElem?_toArray]
  have hA:(c.toList.take (o+off)).length=o+off:=by simp;omega
  have hB:(vs.take off).length=off:=by simp;omega
  rcases Nat.lt_or_ge i off with hi1 | hi1
  ·rw[List.append_assoc,List.getElem?_append_left (by omega),List.append_assoc,List.getElem?_append_left (by omega),List.getElem?_take,if_pos (by omega),List.getElem?_take,if_pos hi1,
    Array.getElem?_toList]
   exact g5 i (by omega)
  ·rcases Nat.lt_or_ge i (off+ys.length)with hi2 | hi2
   ·rw[List.append_assoc,List.getElem?_append_right (by omega),hA,List.getElem?_append_left (by omega),List.append_assoc,List.getElem?_append_right (by omega),hB,
     List.getElem?_append_left (by omega),show o+i-(o+off)=i-off by omega]
   ·rw[List.getElem?_append_right (by simp;omega),List.getElem?_append_right (by simp;omega)]
    simp only[List.length_append,hA,hB,List.getElem?_drop]
    rw[show o+off+ys.length+(o+i-(o+off+ys.length))=o+i by omega,show off+ys.length+(i-(off+ys.length))=i by omega,Array.getElem?_toList]
    have:i<vs.length:=by
     simp only[List.length_append,hB,List.length_drop]at hi
     omega
    exact g5 i this
theorem He {own':Nat->Option (Nat×List Nat)} {S':Nat->Nat->Prop} {t lim k1 k:Nat} {p p':List Nat} {v:V} {x:Value} (h:Ow F.Ae w own (F.S w own) t k1 p v x) (hlim:t<=lim)
 (hlab:∀b q,own b=some (k1,p++q)->own' b=some (k,p'++q)/\w'.heap[b]? =w.heap[b]?)
 (hro:∀fl b,1<=fl->F.S w own fl b->S' fl b/\w'.heap[b]? =w.heap[b]?):Ow F.Ae w' own' S' lim k p' v x:=by
 have hR:∀ {v:V} {x:Value} {fl:Nat},1<=fl->Rd F.Ae w (F.S w own fl) v x->Rd F.Ae w' (S' fl) v x:=
  fun h1 h=>h.move (fun b hb=>(hro _ b h1 hb).1) (fun b hb=>(hro _ b h1 hb).2)
 induction h generalizing p' with
 | sc h1=>exact .sc h1
 | own hl hw hv hm hc ih=>
  refine .own hl hw hv ?_ (fun i v x hv hx=>ih i v x hv hx fun b q hb=> ?_)
  ·rcases hm with hm | ⟨b,o,ha,hb,hr⟩
   ·exact .inl hm
   ·have:=hlab b [] (by simpa using hb)
    exact .inr ⟨b,o,ha,by simpa using this.1,EU hr this.2⟩
  ·have:=hlab b ([i]++q) (by simpa using hb);simpa using this
 | ro h1 h2 h=>exact .ro h1 (Nat.le_trans h2 hlim) (hR h1 h)
 | ptr hv hb hm hc ih=>
  have:=hlab _ [] (by simpa using hb)
  refine .ptr hv (by simpa using this.1) (EU hm this.2) (fun i v x hv hx=>ih i v x hv hx fun b q hb=> ?_)
  have:=hlab b ([i]++q) (by simpa using hb);simpa using this
 | rptr h1 h2 h=>exact .rptr h1 (Nat.le_trans h2 hlim) (hR h1 h)
 | fn h2 h=>exact .fn (Nat.le_trans h2 hlim) (hR (Nat.le_refl 1) h)
 | agg h1 hv hc ih=>
  refine .agg h1 hv (fun i v x hv hx=>ih i v x hv hx fun b q hb=> ?_)
  have:=hlab b ([i]++q) (by simpa using hb);simpa using this
 | tup hv hc ih=>
  refine .tup hv (fun i v x hv hx=>ih i v x hv hx fun b q hb=> ?_)
  have:=hlab b ([i]++q) (by simpa using hb);simpa using this
 | undef=>exact .undef
def shiftν (ks':List Nat) (n0:Nat):Nat->List Nat->List Nat:=fun k1 p=>
 if k1∈ks' then(match p with | i::r=>(n0+i)::r | []=> [])else p
theorem shiftν_ne (ks':List Nat) (n0:Nat) (k1:Nat) (p:List Nat) (hp:p≠ []):shiftν ks' n0 k1 p≠ []:=by
 unfold shiftν
 split
 ·cases p<;>simp_all
 ·exact hp
def IJ (own:Nat->Option (Nat×List Nat)) (k1 lo hi k n0:Nat):Nat->Option (Nat×List Nat):=fun b=>
 match own b with
 | some (j,i::p)=>if j=k1/\lo<=i/\i<hi then some (k,(n0+(i-lo))::p)else some (j,i::p)
 | o=>o
theorem Ue {k1 lo hi k n0 j b:Nat} (h:own b=some (j,[])):IJ own k1 lo hi k n0 b=some (j,[]):=by
 unfold IJ;rw[h]
theorem AlD {k1 lo hi k n0 j b:Nat} {p:List Nat} (h:own b=some (j,p)) (hj:j≠k1):IJ own k1 lo hi k n0 b=some (j,p):=by
 unfold IJ;rw[h]
 cases p with
 | nil=>rfl
 | cons i p=>simp[hj]
theorem AiK {k1 lo hi k n0 j b i:Nat} {p:List Nat} (h:own b=some (j,i::p)) (hi':¬(lo<=i/\i<hi)):IJ own k1 lo hi k n0 b=some (j,i::p):=by
 unfold IJ;rw[h]
 simp only
 rw[if_neg (fun h=>hi' h.2)]
theorem AlA {k1 lo hi k n0 b i:Nat} {p:List Nat} (h:own b=some (k1,i::p)) (h1:lo<=i) (h2:i<hi):IJ own k1 lo hi k n0 b=some (k,(n0+(i-lo))::p):=by
 unfold IJ;rw[h]
 simp[h1,h2]
theorem Agf {k1 lo hi k n0 b:Nat} {q:Nat×List Nat} (h:IJ own k1 lo hi k n0 b=some q):own b≠none:=by
 intro h0
 unfold IJ at h
 rw[h0]at h
 cases h
theorem Af2 {k1 lo hi k n0 b:Nat} (h:∀j,own b≠some (j,[])) (j:Nat):IJ own k1 lo hi k n0 b≠some (j,[]):=by
 unfold IJ
 split
 ·split<;>simp
 ·exact h j
theorem Ai6 {cs:List V} {e off n m:Nat} (h:cs.length=m*e) (hn:off+n<=m):(GL cs e off n).length=m*e:=by
 have h1:(off+n)*e<=m*e:=Nat.mul_le_mul_right _ hn
 rw[Nat.add_mul]at h1
 unfold GL
 simp only[List.length_append,List.length_take,List.length_replicate,List.length_drop,h,Nat.add_mul]
 omega
theorem AhM {cs:List V} {e off n m i:Nat} {v:V} (h:cs.length=m*e) (hn:off+n<=m) (hv:(GL cs e off n)[i]? =some v):
 v= .undef∨(¬(off*e<=i/\i<(off+n)*e)/\cs[i]? =some v):=by
 have h1:(off+n)*e<=m*e:=Nat.mul_le_mul_right _ hn
 rw[Nat.add_mul]at h1
 have hA:(cs.take (off*e)).length=off*e:=by simp;omega
 unfold GL at hv
 rcases Nat.lt_or_ge i (off*e)with g | g
 ·rw[List.getElem?_append_left (by omega),List.getElem?_take,if_pos g]at hv
  exact .inr ⟨by omega,hv⟩
 ·rw[List.getElem?_append_right (by omega),hA]at hv
  rcases Nat.lt_or_ge i ((off+n)*e)with g2 | g2
  ·rw[Nat.add_mul]at g2
   rw[List.getElem?_append_left (by simp;omega),List.getElem?_replicate,if_pos (by omega)]at hv
   exact .inl (by simpa using hv.symm)
  ·have g3:=g2
   rw[Nat.add_mul]at g2
   rw[List.getElem?_append_right (by simp;omega)]at hv
   simp only[List.length_replicate,List.getElem?_drop]at hv
   rw[Nat.add_mul,show off*e+n*e+(i-off*e-n*e)=i by omega]at hv
   exact .inr ⟨by omega,hv⟩
theorem Step.part (inv:Inv F β own H w) {k k1 e t m off n n0:Nat} {c:List V} (hk:H k= .free) (hk1:H k1= .arr e t m c):
 Step F β own H w β (IJ own k1 (off*e) ((off+n)*e) k n0) (Al H [(k1,.arr e t m (GL c e off n))]) w (fun j=>j=k1∨j=k):=by
 have hne:k≠k1:=fun h=>by rw[h,hk1]at hk;cases hk
 have hu:∀j,Al H [(k1,.arr e t m (GL c e off n))] j=if j=k1 then .arr e t m (GL c e off n)else H j:=fun j=>rfl
 refine⟨Nat.le_refl _,rfl,rfl,rfl,fun _ _ _=>rfl,?_,?_,?_,?_,?_,?_,?_,?_,?_⟩
 ·intro _ b _ hn
  exact⟨rfl,Af2 hn⟩
 ·intro b j p hb hK
  exact AlD hb (fun h=>hK (.inl h))
 ·intro b p hb
  have:=Agf hb
  cases ho:own b with
  | none=>exact absurd ho this
  | some q=>exact⟨(inv.ownb b q ho).1,fun _=>by simp⟩
 ·intro j hj
  rw[hu,if_neg (fun h=>hj (.inl h))]
  exact⟨rfl,rfl⟩
 ·intro j e' t' len cs hj hH
  rcases hj with hj | hj
  ·subst hj
   rw[hk1]at hH
   cases hH
   right
   rw[hu,if_pos rfl]
   exact⟨rfl,_,_,rfl⟩
  ·subst hj;rw[hk]at hH;simp[Ac]at hH
 ·intro j cs hj hH
  rcases hj with hj | hj
  ·subst hj;rw[hk1]at hH;cases hH
  ·subst hj;rw[hk]at hH;cases hH
 ·intro j hj hH
  rcases hj with hj | hj
  ·subst hj;rw[hk1]at hH;cases hH
  ·subst hj;rw[hk]at hH;cases hH
 ·intro j hj hH
  rcases hj with hj | hj
  ·subst hj;rw[hu,if_pos rfl];simp
  ·subst hj;exact absurd hk hH
 ·intro s j off' e' t' len cs hs hH hj ha
  rcases hj with hj | hj
  ·subst hj
   refine⟨by rw[hk1];rfl,fun b o h1 h2=>⟨Ue h2,rfl⟩⟩
  ·subst hj
   have:=inv.objs s
   rw[hH]at this
   exact absurd hk this.2.2.1.2
theorem AnM (inv:Inv F β own H w) {k k1 e t m off n n0:Nat} {c:List V} (hk:H k= .free) (hk1:H k1= .arr e t m c) (hn:off+n<=m):
 Inv F β (IJ own k1 (off*e) ((off+n)*e) k n0) (Al H [(k1,.arr e t m (GL c e off n))]) w:=by
 have hne:k≠k1:=fun h=>by rw[h,hk1]at hk;cases hk
 have st:=Step.part (F:=F) inv (off:=off) (n:=n) (n0:=n0) hk hk1
 have hu:∀j,Al H [(k1,.arr e t m (GL c e off n))] j=if j=k1 then .arr e t m (GL c e off n)else H j:=fun j=>rfl
 refine st.inv inv ?_ ?_
 ·intro j hj
  rcases hj with hj | hj
  ·subst hj
   rw[hu,if_pos rfl]
   have h0:=inv.objs j
   rw[hk1]at h0
   obtain⟨vs,g1,g2,g3,g4,g5⟩:=h0
   have hl:=Ai6 (off:=off) (n:=n) g2 hn
   refine⟨vs,by rw[g1,g2,hl],hl,g3,?_,?_⟩
   ·rcases g4 with g4 | ⟨b,o,a1,a2,a3⟩
    ·exact .inl g4
    ·exact .inr ⟨b,o,a1,Ue a2,a3⟩
   ·intro i v x hv hx
    rcases AhM g2 hn hv with rfl | ⟨hi,hv'⟩
    ·exact .undef
    ·exact He (g5 i v x hv' hx) (Nat.le_refl _) (fun b q hb=>⟨AiK hb hi,rfl⟩) (fun fl b h1 h2=>st.sS inv fl b h1 h2)
  ·subst hj
   rw[hu,if_neg hne,hk]
   trivial
 ·intro j hj _ _
  refine⟨rfl,?_⟩
  rcases hj with hj | hj
  ·subst hj;rw[hk1];simp
  ·subst hj;rw[hk];simp
theorem Z8.pre {β1:Nat->Base} {own1:Nat->Option (Nat×List Nat)} {u1 u:DL} {r:Result Next} {v:V} (hv:∀z y,VR F β own H w z y->VR F β1 own1 (Al H u1) w z y)
 (h:Z8 F β1 own1 (Al H u1) w r v u):Z8 F β own H w r v (u1++u):=by
 have e:Al (Al H u1) u=Al H (u1++u):=by
  clear h hv
  induction u1 generalizing H with
  | nil=>rfl
  | cons p u1 ih=>exact ih
 obtain⟨x,w',β',own',h1,h2,h3,h4⟩:=h
 rw[e]at h2 h3 h4
 exact⟨x,w',β',own',h1,fun z y hz=>h2 z y (hv z y hz),h3,h4⟩
theorem X8 (inv:Inv F β own H w) {t t2 ty:TypeId} {k e b:Nat} (ht:elB P t e b none=true) (ht2:slB P t2 e=true) (hk:H k= .free)
 {t1 t2' len n cap cap2:Nat} {ad ad2:Option Addr} {cs c:List V} {vs vs2:List Value} {ks ks':List Nat} (hbound:(len+n)*b<=2 ^ 40)
 (b1:cs.length=len*e) (b2:vs.length=cs.length) (b3:len<=cap/\cap<=9223372036854775807) (b4:Rows w ad vs) (b5:Fj vs)
 (b6:(ks=[]/\cs=[]/\cap=0/\ad=none)∨∃k0,ks=[k0]/\Ac (H k0)=some (e,t1,len,cs)/\ad=(β k0).a/\cap=(β k0).cap/\
  (cap*e=0∨∃b o,ad=some ⟨b,o,none⟩/\own b=some (k0,[])/\Has w b o vs (cap*e))/\
  ∀(i:Nat) (v:V) (x:Value),cs[i]? =some v->vs[i]? =some x->Ow F.Ae w own (F.S w own) t1 k0 [i] v x)
 (s1:c.length=n*e) (s2:vs2.length=c.length) (s4:Rows w ad2 vs2) (s5:Fj vs2) (s6:∀k1,k1∈ks'->(Ac (H k1)).isSome=true) (hkk:∀k1,k1∈ks->k1∉ks')
 (s7:(ks' =[]/\∀ {own':Nat->Option (Nat×List Nat)} {w':World} {S':Nat->Nat->Prop} {lim k:Nat} {p:List Nat},t2'<=lim->(∀fl b,1<=fl->F.S w own fl b->S' fl b/\w'.heap[b]? =w.heap[b]?)->
  ∀(i:Nat) (v:V) (x:Value),c[i]? =some v->vs2[i]? =some x->Ow F.Ae w' own' S' lim k p v x)∨
  (∃k1,ks' =[k1]/\∀(i:Nat) (v:V) (x:Value),c[i]? =some v->vs2[i]? =some x->Ow F.Ae w own (F.S w own) t2' k1 [i] v x)∨
  (ks' =[]/\∀(i:Nat) (v:V) (x:Value),c[i]? =some v->vs2[i]? =some x->Ow F.Ae w own (F.S w own) t2' k [cs.length+i] v x)):
 Z8 F β own H w ((do pure (.value (<-Builtin.append_ #[t,t2] ty #[.slice ad len cap,.slice ad2 n cap2])):Sem Next).run P w) (.arr k) (C8 (ks++ks')++ [(k,.arr e (max t1 t2') (len+n) (cs++c))]):=by
 obtain⟨et,i,z,hu,hi,hz,he,he0,hbb,hb0,hzs,hz1,_⟩:=Abv ht
 obtain⟨et2,hu2,_,_⟩:=NS ht2
 have hrun:=Ahy (P:=P) (w:=w) (ty:=ty) hu ⟨et2,hu2⟩ hi hz (ad:=ad) (ad2:=ad2) (sLen:=len) (sCap:=cap) (n:=n) (c2:=cap2) (olds:=vs) (news:=vs2) b4 (by rw[b2,b1,he]) s4
  (by rw[s2,s1,he]) (by omega) (by rw[hbb];exact hbound)
 have hd:∀j,j∈ks++ks'->(Ac (H j)).isSome=true:=by
  intro j hj
  rcases List.mem_append.1 hj with hj | hj
  ·rcases b6 with⟨h1,_⟩ | ⟨k0,h1,h2,_⟩
   ·subst h1;simp at hj
   ·subst h1;simp at hj;subst hj;rw[h2];rfl
  ·exact s6 j hj
 have hdk:k∉ks++ks':=fun hh=>by have:=hd k hh;rw[hk]at this;simp[Ac]at this
 have cells:∀(own':Nat->Option (Nat×List Nat)) (w':World),(∀bl k1 p,own bl=some (k1,p)->k1∈ks++ks'->own' bl=some (k,shiftν ks' cs.length k1 p))->
  (∀bl k1 p,own bl=some (k1,p)->k1∈ks++ks'->p≠ []->w'.heap[bl]? =w.heap[bl]?)->(∀bl k1,own bl=some (k1,[])->k1∈ks'->w'.heap[bl]? =w.heap[bl]?)->
  (∀fl bl,1<=fl->F.S w own fl bl->F.S w' own' fl bl/\w'.heap[bl]? =w.heap[bl]?)->
  (∀bl p,own bl=some (k,p)->p≠ []->own' bl=some (k,p)/\w'.heap[bl]? =w.heap[bl]?)->
  ∀(j:Nat) (v:V) (x:Value),(cs++c)[j]? =some v->(vs++vs2)[j]? =some x->Ow F.Ae w' own' (F.S w' own') (max t1 t2') k [j] v x:=by
  intro own' w' hl hw1 hw2 hro hkp j v x hv hx
  rcases Nat.lt_or_ge j cs.length with hj | hj
  ·rw[List.getElem?_append_left (by omega)]at hv hx
   rcases b6 with⟨_,h2,_⟩ | ⟨k0,h1,h2,_,_,_,h6⟩
   ·subst h2;simp at hj
   ·subst h1
    refine He (h6 j v x hv hx) (Nat.le_max_left _ _) (fun bl q hbl=> ?_) hro
    have:=hl bl k0 ([j]++q) hbl (by simp)
    refine⟨?_,hw1 bl k0 ([j]++q) hbl (by simp) (by simp)⟩
    rw[this]
    unfold shiftν
    rw[if_neg (hkk k0 (by simp))]
  ·rw[List.getElem?_append_right (by omega)]at hv hx
   rw[b2]at hx
   rcases s7 with⟨_,h2⟩ | ⟨k1,h1,h2⟩ | ⟨_,h2⟩
   ·exact h2 (Nat.le_max_right _ _) hro (j-cs.length) v x hv hx
   ·subst h1
    refine He (h2 _ v x hv hx) (Nat.le_max_right _ _) (fun bl q hbl=> ?_) hro
    have:=hl bl k1 ([j-cs.length]++q) hbl (by simp)
    refine⟨?_,hw1 bl k1 ([j-cs.length]++q) hbl (by simp) (by simp)⟩
    rw[this]
    unfold shiftν
    rw[if_pos (by simp)]
    simp
    omega
   ·have h3:=h2 _ v x hv hx
    rw[show cs.length+(j-cs.length)=j by omega]at h3
    exact He h3 (Nat.le_max_right _ _) (fun bl q hbl=>hkp bl ([j]++q) hbl (by simp)) hro
 have hcl:(cs++c).length=(len+n)*e:=by simp[b1,s1,Nat.add_mul]
 have hvl:(vs++vs2).length=(cs++c).length:=by simp[b2,s2]
 have hones:Fj (vs++vs2):=by
  intro x hx
  rcases List.mem_append.1 hx with hx | hx
  ·exact b5 x hx
  ·exact s5 x hx
 by_cases hg:len+n<=cap
 ·
  rw[if_pos hg]at hrun
  have base:∀(w':World),w'.heap.size=w.heap.size->w'.os=w.os->w'.tape=w.tape->w'.output=w.output->
   (∀bl,bl<w.heap.size->(∀k1,k1∈ks++ks'->own bl≠some (k1,[]))->w'.heap[bl]? =w.heap[bl]?)->
   (∀bl k1,own bl=some (k1,[])->k1∈ks'->w'.heap[bl]? =w.heap[bl]?)->
   (cap*e=0∨∃bl o,ad=some ⟨bl,o,none⟩/\(∃k0,k0∈ks/\own bl=some (k0,[]))/\Has w' bl o (vs++vs2) (cap*e))->
   (Builtin.append_ #[t,t2] ty #[.slice ad len cap,.slice ad2 n cap2]).run P w= .ok (.slice ad (len+n) cap) w'->
   Z8 F β own H w ((do pure (.value (<-Builtin.append_ #[t,t2] ty #[.slice ad len cap,.slice ad2 n cap2])):Sem Next).run P w) (.arr k) (C8 (ks++ks')++ [(k,.arr e (max t1 t2') (len+n) (cs++c))]):=by
   intro w' q1 q2 q3 q4 q5 q6 q7 q8
   have st:=Step.gen (w':=w') inv hk (new:=none) (by simp) (by omega) q2 q3 q4 hd q5 (shiftν_ne ks' cs.length) (.arr e (max t1 t2') (len+n) (cs++c)) ⟨ad,cap⟩
   have hlab:∀bl k1 p,own bl=some (k1,p)->k1∈ks++ks'->Cq own none (ks++ks') k (shiftν ks' cs.length) bl=some (k,shiftν ks' cs.length k1 p):=by
    intro bl k1 p h1 h2
    unfold Cq
    rw[if_neg (by simp),h1]
    simp only
    rw[if_pos h2]
   have hcells:=cells (Cq own none (ks++ks') k (shiftν ks' cs.length)) w' hlab
    (fun bl k1 p h1 h2 h3=>q5 bl (inv.ownb bl _ h1).1 (fun k2 _ h5=>by rw[h1]at h5;cases h5;exact h3 rfl)) q6 (fun fl bl h1 h2=>st.sS inv fl bl h1 h2) (fun bl p h1 h2=>⟨by unfold Cq;rw[if_neg (by simp),h1];simp only;rw[if_neg hdk],q5 bl (inv.ownb bl _ h1).1 (fun k2 _ h5=>by rw[h1]at h5;cases h5;exact h2 rfl)⟩)
   have hor:=QS (F:=F) (w':=w') (β':=fun j=>if j=k then⟨ad,cap⟩else β j) (own':=Cq own none (ks++ks') k (shiftν ks' cs.length)) hk hd
    (o:= .arr e (max t1 t2') (len+n) (cs++c)) (by
    refine⟨vs++vs2,hvl,hcl,by simpa using And.intro hg b3.2,?_,hcells⟩
    simp only[if_true]
    rcases q7 with q7 | ⟨bl,o,r1,⟨k0,r2,r3⟩,r4⟩
    ·exact .inl q7
    ·refine .inr ⟨bl,o,r1,?_,r4⟩
     rw[hlab bl k0 [] r3 (by simp[r2])]
     unfold shiftν
     rw[if_neg (hkk k0 r2)])
   refine⟨.slice ad (len+n) cap,w',_,_,.inl (by simp only[Sem.run_bind,q8,Result.andThen_ok,Sem.run_pure]),fun _ _ h=>st.vr inv h,st.inv inv hor (Wn inv hk hd _ _),?_⟩
   have:=VR.arr (F:=F) (β:=fun j=>if j=k then⟨ad,cap⟩else β j) (own:=Cq own none (ks++ks') k (shiftν ks' cs.length))
    (H:=Al H (C8 (ks++ks')++ [(k,.arr e (max t1 t2') (len+n) (cs++c))])) (w:=w') (k:=k) (e:=e) (t:=max t1 t2') (len:=len+n) (cs:=cs++c) (by rw[ES];simp[Ac])
   simpa using this
  have hcase:(cap*e=0)∨∃bl o k0,ad=some ⟨bl,o,none⟩/\ks=[k0]/\own bl=some (k0,[])/\Has w bl o vs (cap*e):=by
   rcases b6 with⟨_,_,h3,_⟩ | ⟨k0,h1,_,_,_,h5,_⟩
   ·left;simp[h3]
   ·rcases h5 with h5 | ⟨bl,o,g1,g2,g3⟩
    ·exact .inl h5
    ·exact .inr ⟨bl,o,k0,g1,h1,g2,g3⟩
  rcases hcase with hc0 | ⟨bl,o,k0,rfl,hks,hown,hhas⟩
  ·have hn0:n=0:=by
    have h1:(len+n)*e<=cap*e:=Nat.mul_le_mul_right _ hg
    have h2:(len+n)*e=0:=by omega
    rcases Nat.mul_eq_zero.1 h2 with h3 | h3<;>omega
   have hvs2:vs2=[]:=List.eq_nil_of_length_eq_zero (by rw[s2,s1,hn0];simp)
   refine base w rfl rfl rfl rfl (fun _ _ _=>rfl) (fun _ _ _ _=>rfl) (.inl hc0) ?_
   rw[hrun]
   subst hvs2
   cases ad with
   | none=>rfl
   | some ad=>simp[storeCells]
  ·obtain⟨w',r1,r2,r3,r4,r5,r6,r7,_⟩:=WV (P:=P) hhas (off:=vs.length) (ys:=vs2) (Nat.le_refl _) (by
    have h1:(len+n)*e<=cap*e:=Nat.mul_le_mul_right _ hg
    rw[Nat.add_mul]at h1
    omega) s5
   refine base w' r2 r3 r4 r5 (fun bl' _ hn=>r6 bl' (fun hh=>hn k0 (by simp[hks]) (hh▸hown))) (fun bl' k1 h1 h2=>r6 bl' (fun hh=> ?_)) (.inr ⟨bl,o,rfl,⟨k0,by simp[hks],hown⟩,?_⟩) ?_
   ·subst hh
    rw[hown]at h1
    cases h1
    exact hkk k0 (by simp[hks]) h2
   ·rw[List.drop_eq_nil_of_le (by omega)]at r7;simpa using r7
   ·rw[hrun]
    simp only[JI]
    rw[show len*i.size=vs.length by rw[b2,b1,he],r1]
    rfl
 ·
  rw[if_neg hg]at hrun
  have hcap:=And.intro (AfX w (len+n) cap et) (AeI w (len+n) cap et (by
   have:(len+n)*1<=(len+n)*b:=Nat.mul_le_mul_left _ (by omega)
   omega))
  generalize grownCap w (len+n) cap et=cap' at hrun hcap
  have hzc:(Builtin.zeroCells z.cells (cap'-(len+n))).size=(cap'-(len+n))*e:=by simp[Builtin.zeroCells,hzs]
  have hobj:(vs.toArray++vs2.toArray++Builtin.zeroCells z.cells (cap'-(len+n))).size=cap'*e:=by
   rw[Array.size_append,Array.size_append,hzc]
   have h1:vs.toArray.size+vs2.toArray.size=(len+n)*e:=by
    have:=hvl
    rw[hcl,List.length_append]at this
    simpa using this
   rw[h1,<-Nat.add_mul]
   congr 1
   omega
  have hnew:∀(w2:World),w2=w.drew.alloc (.cells (vs.toArray++vs2.toArray++Builtin.zeroCells z.cells (cap'-(len+n))) et)->
   Z8 F β own H w ((do pure (.value (<-Builtin.append_ #[t,t2] ty #[.slice ad len cap,.slice ad2 n cap2])):Sem Next).run P w) (.arr k) (C8 (ks++ks')++ [(k,.arr e (max t1 t2') (len+n) (cs++c))]):=by
   intro w2 hw2
   have hh2:w2.heap=w.heap.push (.cells (vs.toArray++vs2.toArray++Builtin.zeroCells z.cells (cap'-(len+n))) et):=by rw[hw2];rfl
   have st:=Step.new (w':=w2) inv hk hh2 (by rw[hw2];rfl) (by rw[hw2];rfl) (by rw[hw2];rfl) hd (shiftν_ne ks' cs.length) (.arr e (max t1 t2') (len+n) (cs++c)) ⟨some ⟨w.heap.size,0,none⟩,cap'⟩
   have hold:∀bl,bl<w.heap.size->w2.heap[bl]? =w.heap[bl]? :=fun bl hb=>by rw[hh2,Array.getElem?_push,if_neg (by omega)]
   refine AjE (F:=F) inv (e:=e) (t:=max t1 t2') (len:=len+n) hk hd (shiftν_ne ks' cs.length) (vs:=vs++vs2) (cap:=cap') (obj:=vs.toArray++vs2.toArray++Builtin.zeroCells z.cells (cap'-(len+n))) (et:=et)
    (w':=w2) hh2 (by rw[hw2];rfl) (by rw[hw2];rfl) (by rw[hw2];rfl) ?_ hones hobj hcl hvl hcap ?_ ?_
   ·simp only[Array.toList_append]
    rw[List.take_left']
    rfl
   ·refine cells (Cq own (some w.heap.size) (ks++ks') k (shiftν ks' cs.length)) w2 ?_ (fun bl k1 p h1 _ _=>hold bl (inv.ownb bl _ h1).1) (fun bl k1 h1 _=>hold bl (inv.ownb bl _ h1).1)
     (fun fl bl h1 h2=>st.sS inv fl bl h1 h2) (fun bl p h1 h2=>⟨by unfold Cq;rw[if_neg (by have:=(inv.ownb bl _ h1).1;simp;omega),h1];simp only;rw[if_neg hdk],hold bl (inv.ownb bl _ h1).1⟩)
    intro bl k1 p h1 h2
    unfold Cq
    rw[if_neg (by have:=(inv.ownb bl _ h1).1;simp;omega),h1]
    simp only
    rw[if_pos h2]
   ·simp only[Sem.run_bind,hrun,Result.andThen_ok,Sem.run_pure,<-hw2]
  exact hnew _ rfl
theorem AlO (inv:Inv F β own H w) {Hm:Hp} (hm:∀k,Hm k=H k∨Hm k= .dead) {t t2 ty:TypeId} {k e b:Nat} {mv:Bool} (ht:elB P t e b none=true) (ht2:slB P t2 e=true)
 {va vb:V} {a y:Value} (ha:VR F β own H w va a) (hb:VR F β own H w vb y) {v:V} {u:DL} (h:Zz Hm k e b mv va vb=some (v,u)):
 Z8 F β own H w ((do pure (.value (<-Builtin.append_ #[t,t2] ty #[a,y])):Sem Next).run P w) v u:=by
 obtain⟨et,i,z,hu,hi,hz,he,he0,hbb,hb0,hzs,hz1,_⟩:=Abv ht
 obtain⟨et2,hu2,_,_⟩:=NS ht2
 unfold Zz at h
 split at h
 ·rename_i hf
  have hk:=RD hm hf
  cases hB:Pt Hm e va with
  | none=>simp[hB]at h
  | some p1=>
   obtain⟨t1,len,cs,ks⟩:=p1
   simp only[hB]at h
   cases hQ:(if mv then Sd (BK ks Hm) e vb else none)with
   | some p3=>
    obtain⟨t2',n,c,k1,o1⟩:=p3
    simp only[hQ]at h
    have hQ':Sd (BK ks Hm) e vb=some (t2',n,c,k1,o1):=by
     cases mv with
     | true=>simpa using hQ
     | false=>simp at hQ
    split at h
    ·rename_i hbound
     cases h
     cases vb with
     | sub k1' off n'=>
      simp only[Sd]at hQ'
      cases hK:BK ks Hm k1' with
      | arr e' t' m c'=>
       simp only[hK]at hQ'
       split at hQ'
       ·rename_i hc
        obtain⟨rfl,hle⟩:=hc
        cases hQ'
        have hal:Ac (BK ks Hm k1)=some (e',t2',m,c'):=by rw[hK];rfl
        have hnk:=(Gs hal).1
        have hm1:Hm k1= .arr e' t2' m c':=by
         unfold BK at hK
         split at hK
         ·cases hK
         ·exact hK
        have hk1:H k1= .arr e' t2' m c':=by
         rcases hm k1 with g | g
         ·rw[<-g];exact hm1
         ·rw[g]at hm1;cases hm1
        have hne:k≠k1:=fun h=>by rw[h,hk1]at hk;cases hk
        obtain⟨ad,cap,vs,rfl,b1,b2,b3,b4,b5,b6⟩:=VQ inv hm ha hB
        obtain⟨hn,a',rfl,hx1,hx2⟩:=Jm hb (by rw[hk1];rfl:Ac (H k1)=some (e',t2',m,c'))
        have h0:=inv.objs k1
        rw[hk1]at h0
        obtain⟨vs1,g1,g2,g3,g4,g5⟩:=h0
        have hpl:(Go.Eng.part c' e' off n).length=n*e':=Mw c' e' off n m g2 hle
        have hpl2:((vs1.drop (off*e')).take (n*e')).length=n*e':=by
         have:=Mw vs1 e' off n m (by rw[g1,g2]) hle
         exact this
        have st:=Step.part (F:=F) inv (off:=off) (n:=n) (n0:=cs.length) hk hk1
        have inv1:=AnM (F:=F) inv (off:=off) (n:=n) (n0:=cs.length) hk hk1 hle
        have hu:∀j,Al H [(k1,.arr e' t2' m (GL c' e' off n))] j=if j=k1 then .arr e' t2' m (GL c' e' off n)else H j:=fun j=>rfl
        refine Z8.pre (u1:=[(k1,.arr e' t2' m (GL c' e' off n))]) (fun z y hz=>st.vr inv hz) ?_
        have hcell:∀(i:Nat) (v:V) (x:Value),(Go.Eng.part c' e' off n)[i]? =some v->((vs1.drop (off*e')).take (n*e'))[i]? =some x->
         i<n*e'/\c'[off*e'+i]? =some v/\vs1[off*e'+i]? =some x:=by
         intro i v x hv hx
         have hi:i<n*e':=by
          have:=(List.getElem?_eq_some_iff.1 hx).1
          omega
         unfold Go.Eng.part at hv
         rw[List.getElem?_take,if_pos hi,List.getElem?_drop]at hv hx
         exact⟨hi,hv,hx⟩
        have hones:Fj vs1:=by
         rcases g4 with g4 | ⟨b,o,h1,_,h3⟩
         ·have:m*e'<=(β k1).cap*e':=Nat.mul_le_mul_right _ g3.1
          have:vs1=[]:=List.eq_nil_of_length_eq_zero (by omega)
          subst this;simp[Fj]
         ·exact h3.1
        have:=X8 (ty:=ty) (P:=P) inv1 ht ht2 (k:=k) (by rw[hu,if_neg hne];exact hk) (t1:=t1) (t2':=t2') (len:=len) (n:=n) (cap:=cap) (ad:=ad) (cs:=cs) (c:=Go.Eng.part c' e' off n)
         (vs:=vs) (vs2:=(vs1.drop (off*e')).take (n*e')) (ks:=ks) (ks':=[]) (ad2:=a') (cap2:=(β k1).cap-off) hbound b1 b2 b3 b4 b5 ?_ hpl (by rw[hpl2,hpl]) ?_ ?_ (by simp) (by simp) (.inr (.inr ⟨rfl,?_⟩))
        ·simpa using this
        ·rcases b6 with h | ⟨k0,h1,h2,h3,h4,h5,h6⟩
         ·exact .inl h
         ·have hk0:k0≠k1:=fun h=>hnk (by rw[h1,<-h];simp)
          have hk0':¬(k0=k1∨k0=k):=by
           rintro (h | h)
           ·exact hk0 h
           ·rw[h,hk]at h2;simp[Ac]at h2
          refine .inr ⟨k0,h1,by rw[hu,if_neg hk0];exact h2,h3,h4,?_,fun i v x hv hx=>st.ow inv hk0' (h6 i v x hv hx)⟩
          rcases h5 with h5 | ⟨b,o,r1,r2,r3⟩
          ·exact .inl h5
          ·exact .inr ⟨b,o,r1,Ue r2,r3⟩
        ·rcases Nat.eq_zero_or_pos (n*e')with h0 | h0
         ·left
          exact List.eq_nil_of_length_eq_zero (by omega)
         ·rcases g4 with g4 | ⟨b,o,h1,_,h3⟩
          ·have:m*e'<=(β k1).cap*e':=Nat.mul_le_mul_right _ g3.1
           have h2:(off+n)*e'<=m*e':=Nat.mul_le_mul_right _ hle
           rw[Nat.add_mul]at h2
           omega
          ·right
           have hn0:0<n:=Nat.pos_of_mul_pos_right h0
           rcases hx2 with hx2 | hx2
           ·omega
           ·refine⟨b,o+off*e',by rw[hx2,h1];simp[JI],ZG (DF h3)⟩
        ·intro x hx
         exact hones x (List.mem_of_mem_drop (List.mem_of_mem_take hx))
        ·intro i v x hv hx
         obtain⟨hi,hv',hx'⟩:=hcell i v x hv hx
         refine He (g5 _ v x hv' hx') (Nat.le_refl _) (fun b q hb=>⟨?_,rfl⟩) (fun fl b h1 h2=>st.sS inv fl b h1 h2)
         have:=AlA (k:=k) (n0:=cs.length) hb (show off*e'<=off*e'+i by omega) (show off*e'+i<(off+n)*e' by rw[Nat.add_mul];omega)
         rw[show cs.length+(off*e'+i-off*e')=cs.length+i by omega]at this
         exact this
       ·cases hQ'
      | _=>simp[hK]at hQ'
     | _=>simp[Sd]at hQ'
    ·cases h
   | none=>
    simp only[hQ]at h
    cases hS:Np (BK ks Hm) e mv vb with
    | none=>simp[hS]at h
    | some p2=>
     obtain⟨t2',n,c,ks'⟩:=p2
     simp only[hS]at h
     split at h
     ·rename_i hbound
      cases h
      obtain⟨ad,cap,vs,rfl,b1,b2,b3,b4,b5,b6⟩:=VQ inv hm ha hB
      obtain⟨ad2,cap2,vs2,rfl,s1,s2,s4,s5,s6,s7⟩:=AgR inv (PS hm ks) hb hS
      have hkk:∀k1,k1∈ks->k1∉ks':=by
       intro k1 h1 h2
       obtain⟨r,hr⟩:=Option.isSome_iff_exists.1 (s6 k1 h2)
       exact(Gs hr).1 h1
      refine X8 inv ht ht2 hk hbound b1 b2 b3 b4 b5 b6 s1 s2 s4 s5 (fun k1 h1=> ?_) hkk ?_
      ·obtain⟨r,hr⟩:=Option.isSome_iff_exists.1 (s6 k1 h1)
       rw[Fe hm (Gs hr).2];rfl
      ·rcases s7 with h | h
       ·exact .inl h
       ·exact .inr (.inl h)
     ·cases h
 ·cases h
end
end Go.Eng
namespace Go.Eng
theorem ML (H:Hp) (a b:DL):Al H (a++b)=Al (Al H a) b:=by
 induction a generalizing H with
 | nil=>rfl
 | cons x a ih=>obtain⟨k,o⟩:=x;simp[Al,ih]
section
variable {P:Program} {F:Fr} {β:Nat->Base} {own:Nat->Option (Nat×List Nat)} {H:Hp} {w w':World}
theorem AhB (takes:List Nat) (Hm:Hp) (k off n:Nat):∀(H:Hp) (j:Nat),(∀s,s∈takes->Hm s=H s)->
 Al H (Di Hm takes k off n) j=H j/\(j∈takes->∀o' e t len cs,H j= .tarr k o' e t len cs->¬(off<=o'/\o' <off+n))∨
 ∃k' o' e t len cs,H j= .tarr k' o' e t len cs/\Al H (Di Hm takes k off n) j= .arr e t len cs:=by
 have gen:∀(l:List Nat) (H:Hp),(∀s,s∈l->s∈takes)->∀j,
  (Al H (Di Hm l k off n) j=H j/\(j∈l->∀o' e t len cs,Hm j= .tarr k o' e t len cs->¬(off<=o'/\o' <off+n)))∨
  (j∈l/\∃k' o' e t len cs,Hm j= .tarr k' o' e t len cs/\Al H (Di Hm l k off n) j= .arr e t len cs):=by
  intro l
  induction l with
  | nil=>intro H _ j;left;exact⟨rfl,by simp⟩
  | cons s l ih=>
   intro H hs j
   have hs':∀x,x∈l->x∈takes:=fun x hx=>hs x (by simp[hx])
   have step:∀(o:O),Di Hm (s::l) k off n=(s,o)::Di Hm l k off n->(∃k' o' e t len cs,Hm s= .tarr k' o' e t len cs/\o= .arr e t len cs)->
    (Al H (Di Hm (s::l) k off n) j=H j/\(j∈s::l->∀o' e t len cs,Hm j= .tarr k o' e t len cs->¬(off<=o'/\o' <off+n)))∨
    (j∈s::l/\∃k' o' e t len cs,Hm j= .tarr k' o' e t len cs/\Al H (Di Hm (s::l) k off n) j= .arr e t len cs):=by
    intro o ho hto
    rw[ho]
    simp only[Al]
    rcases ih (fun i=>if i=s then o else H i) hs' j with⟨h1,h2⟩ | ⟨h1,h2⟩
    ·by_cases hjs:j=s
     ·subst hjs
      right
      obtain⟨k',o',e,t,len,cs,g1,g2⟩:=hto
      refine⟨by simp,k',o',e,t,len,cs,g1,?_⟩
      rw[h1,if_pos rfl,g2]
     ·left
      refine⟨by rw[h1,if_neg hjs],?_⟩
      intro hj
      rcases List.mem_cons.1 hj with h | h
      ·exact absurd h hjs
      ·exact h2 h
    ·right
     exact⟨by simp[h1],h2⟩
   have skip:Di Hm (s::l) k off n=Di Hm l k off n->(∀o' e t len cs,Hm s= .tarr k o' e t len cs->¬(off<=o'/\o' <off+n))->
    (Al H (Di Hm (s::l) k off n) j=H j/\(j∈s::l->∀o' e t len cs,Hm j= .tarr k o' e t len cs->¬(off<=o'/\o' <off+n)))∨
    (j∈s::l/\∃k' o' e t len cs,Hm j= .tarr k' o' e t len cs/\Al H (Di Hm (s::l) k off n) j= .arr e t len cs):=by
    intro h0 h1
    rw[h0]
    rcases ih H hs' j with⟨g1,g2⟩ | ⟨g1,g2⟩
    ·left
     refine⟨g1,fun hj=> ?_⟩
     rcases List.mem_cons.1 hj with h | h
     ·subst h;exact h1
     ·exact g2 h
    ·right;exact⟨by simp[g1],g2⟩
   cases hsm:Hm s with
   | tarr k' o' e t len cs=>
    by_cases hc:k' =k/\off<=o'/\o' <off+n
    ·exact step (.arr e t len cs) (by simp only[Di,List.filterMap_cons,hsm,if_pos hc]) ⟨k',o',e,t,len,cs,hsm,rfl⟩
    ·refine skip (by simp only[Di,List.filterMap_cons,hsm,if_neg hc]) ?_
     intro o2 e2 t2 l2 c2 h
     rw[hsm]at h
     cases h
     exact fun h2=>hc ⟨rfl,h2⟩
   | _=>exact skip (by simp only[Di,List.filterMap_cons,hsm]) (by intro _ _ _ _ _ h;rw[hsm]at h;cases h)
 intro H j ht
 rcases gen takes H (fun _ h=>h) j with⟨h1,h2⟩ | ⟨h1,k',o',e,t,len,cs,h2,h3⟩
 ·left
  refine⟨h1,fun hj o' e t len cs h=> ?_⟩
  exact h2 hj o' e t len cs (by rw[ht j hj];exact h)
 ·right
  exact⟨k',o',e,t,len,cs,by rw[<-ht j h1];exact h2,h3⟩
theorem Inv.weaken (inv:Inv F β own H w) {H':Hp} (hH:∀j,H' j=H j∨∃k' o' e t len cs,H j= .tarr k' o' e t len cs/\H' j= .arr e t len cs):
 Inv F β own H' w/\∀z y,VR F β own H w z y->VR F β own H' w z y:=by
 have harr:∀ {j e t len cs},Ac (H j)=some (e,t,len,cs)->Ac (H' j)=some (e,t,len,cs):=by
  intro j e t len cs h
  rcases hH j with h1 | ⟨k',o',e',t',len',cs',h1,h2⟩
  ·rw[h1];exact h
  ·rw[h1]at h;rw[h2];exact h
 have hvr:∀z y,VR F β own H w z y->VR F β own H' w z y:=by
  intro z y h
  refine h.move (fun _ _ _ h=>h) (fun _ _ _ _=>rfl) (fun j e t len cs hj=> .inr ⟨rfl,t,cs,harr hj⟩) ?_ ?_
  ·intro j cs hj
   rcases hH j with h1 | ⟨k',o',e',t',len',cs',h1,h2⟩
   ·exact .inr ⟨rfl,cs,by rw[h1];exact hj⟩
   ·rw[h1]at hj;cases hj
  ·intro j hj
   rcases hH j with h1 | ⟨k',o',e',t',len',cs',h1,h2⟩
   ·rw[h1];exact hj
   ·rw[h1]at hj;cases hj
 refine⟨⟨inv.size,inv.keep,inv.os,inv.tape,inv.output,inv.ownb,inv.glob,?_,?_,?_⟩,hvr⟩
 ·intro j
  have hj:=inv.objs j
  rcases hH j with h1 | ⟨k',o',e',t',len',cs',h1,h2⟩
  ·rw[h1]
   cases hc:H j with
   | free=>trivial
   | dead=>trivial
   | var cs=>
    rw[hc]at hj
    obtain⟨b,o,vs,g1,g2,g3,g4,g5⟩:=hj
    exact⟨b,o,vs,g1,g2,g3,g4,fun i v x hv hx=>hvr v x (g5 i v x hv hx)⟩
   | arr e t len cs=>rw[hc]at hj;exact hj
   | tarr k2 o2 e t len cs=>
    rw[hc]at hj
    obtain⟨g1,g2,⟨g0,g3⟩,g4⟩:=hj
    refine⟨g1,g2,⟨g0,?_⟩,?_⟩
    ·rcases hH k2 with h3 | ⟨_,_,_,_,_,_,h3,h4⟩
     ·rw[h3];exact g3
     ·rw[h4];simp
    ·intro ha
     apply g4
     rcases hH k2 with h3 | ⟨_,_,_,_,_,_,h3,h4⟩
     ·rw[<-h3];exact ha
     ·rw[h3];rfl
  ·rw[h1]at hj
   rw[h2]
   exact hj.1
 ·intro j hj hd
  refine inv.given j hj ?_
  rcases hH j with h1 | ⟨k',o',e',t',len',cs',h1,h2⟩
  ·rw[<-h1];exact hd
  ·rw[h1];simp
 ·intro j hj
  rcases hH j with h1 | ⟨k',o',e',t',len',cs',h1,h2⟩
  ·rw[h1];exact inv.gfree j hj
  ·rw[h2];simp
theorem AlQ (inv:Inv F β own H w) {k:Nat} {cs:List V} (hk:H k= .var cs) {off b o:Nat} (hb:(β k).a=some ⟨b,o,none⟩) {vs:List V} {xs:List Value} (hv:Pw (VR F β own H w) vs xs) (h1:Fj xs)
 (hle:off+vs.length<=cs.length):∃w',(storeCells ⟨b,o+off,none⟩ xs).run P w= .ok () w'/\Inv F β own (Al H [(k,.var (putAt cs off vs))]) w'/\
  ∀z y,VR F β own H w z y->VR F β own (Al H [(k,.var (putAt cs off vs))]) w' z y:=by
 have ho:=inv.objs k
 rw[hk]at ho
 obtain⟨b',o',us,g1,g2,g3,g4,g5⟩:=ho
 rw[hb]at g1
 cases g1
 obtain⟨w',r1,r2,r3,r4,r5,r6,r7,_⟩:=WV (P:=P) g4 (off:=off) (ys:=xs) (by omega) (by rw[hv.1];omega) h1
 have hput:putAt us off xs=us.take off++xs++us.drop (off+xs.length):=Ahk us xs off (by rw[hv.1];omega)
 have hH:∀j,Al H [(k,.var (putAt cs off vs))] j=if j=k then .var (putAt cs off vs)else H j:=fun j=>rfl
 have st:Step F β own H w β own (Al H [(k,.var (putAt cs off vs))]) w' (fun j=>j=k):=by
  refine⟨by omega,r3,r4,r5,?_,?_,fun _ _ _ h _=>h,?_,?_,?_,?_,?_,?_,?_⟩
  ·intro b2 hb2 hn
   refine r6 b2 (fun hh=> ?_)
   subst hh
   exact hn k [] g2 rfl
  ·intro _ b2 hb2 hn
   exact⟨r6 b2 (fun hh=>hn k (hh▸g2)),hn⟩
  ·intro b2 p hp
   exact⟨by rw[r2];exact(inv.ownb b2 p hp).1,fun _=>by rw[hp];simp⟩
  ·intro j hj;exact⟨rfl,by rw[hH,if_neg hj]⟩
  ·intro j e t len c hj h;subst hj;rw[hk]at h;simp[Ac]at h
  ·intro j c hj _;subst hj;exact .inr ⟨rfl,_,by rw[hH,if_pos rfl]⟩
  ·intro j hj h;subst hj;rw[hk]at h;cases h
  ·intro j hj _;subst hj;rw[hH,if_pos rfl];simp
  ·intro s j o2 e t len c _ _ hj ha;subst hj;rw[hH,if_pos rfl]at ha;simp[GK]at ha
 refine⟨w',r1,st.inv inv ?_ ?_,fun z y h=>st.vr inv h⟩
 ·intro j hj
  subst hj
  rw[hH,if_pos rfl]
  refine⟨b,o,putAt us off xs,hb,g2,by simp[Lh,g3],?_,?_⟩
  ·rw[Lh,hput]
   exact r7
  ·have hp1:Pw (VR F β own (Al H [(j,.var (putAt cs off vs))]) w') cs us:=⟨g3,fun i v x hv hx=>st.vr inv (g5 i v x hv hx)⟩
   have hp2:Pw (VR F β own (Al H [(j,.var (putAt cs off vs))]) w') vs xs:=hv.mono fun v x h=>st.vr inv h
   exact(hp1.putAt off hp2).2
 ·intro j hj _ _
  subst hj
  exact⟨rfl,by rw[hk];simp⟩
theorem AlR (inv : Inv F β own H w) {Hm : Hp} (hm : ∀ k, Hm k = H k ∨ Hm k = .dead) {k e t len : Nat} {cs : List V} (hk : Ac (H k) = some (e, t, len, cs)) {off b o : Nat} (hb : (β k).a = some ⟨b, o, none⟩)
    {vs vs' : List V} {xs : List Value} (hv : Pw (VR F β own H w) vs xs) {t' : Nat} {ks : List Nat} (hgv : Kn (BK [k] Hm) vs = some (vs', t', ks)) (hle : off + vs.length <= cs.length)
    (hhome : ∀ s o2 e2 t2 l2 c2, H s = .tarr k o2 e2 t2 l2 c2 -> ¬ (off <= o2 /\ o2 < off + vs.length))
    {O' : O} (hO : (H k = .arr e t len cs /\ O' = .arr e (max t t') len (putAt cs off vs')) ∨ ∃ k2 o2, H k = .tarr k2 o2 e t len cs /\ O' = .tarr k2 o2 e (max t t') len (putAt cs off vs')) :
    ∃ w' own', (storeCells ⟨b, o + off, none⟩ xs).run P w = .ok () w' /\ Inv F β own' (Al H (C8 ks ++ [(k, O')])) w' /\
      ∀ z y, VR F β own H w z y -> VR F β own' (Al H (C8 ks ++ [(k, O')])) w' z y := by
  obtain ⟨us, g1, g2, g3, g4, g5⟩ := Hz inv hk
  obtain ⟨a1, a2, a3, a4, μ, a5, a6⟩ := Px inv off [] (PS hm [k]) hv hgv
  have hkk : ∀ j, j ∈ ks -> j ≠ k /\ (Ac (H j)).isSome = true := by
    intro j hj
    obtain ⟨r, hr⟩ := Option.isSome_iff_exists.1 (a1 j hj)
    obtain ⟨q1, q2⟩ := Gs hr
    exact ⟨by simpa using q1, by rw [Fe hm q2]; rfl⟩
  have hO' : Ac O' = some (e, max t t', len, putAt cs off vs') := by
    rcases hO with ⟨_, h⟩ | ⟨_, _, _, h⟩ <;> rw [h] <;> rfl
  have hH : ∀ j, Al H (C8 ks ++ [(k, O')]) j = if j = k then O' else if j ∈ ks then .dead else H j := ES ks k O' H
  have hrow : ∃ w', (storeCells ⟨b, o + off, none⟩ xs).run P w = .ok () w' /\ w'.heap.size = w.heap.size /\ w'.os = w.os /\ w'.tape = w.tape /\ w'.output = w.output /\
      (∀ b', own b' ≠ some (k, []) -> w'.heap[b']? = w.heap[b']?) /\
      (((β k).cap * e = 0 /\ w' = w) ∨ ∃ b o, (β k).a = some ⟨b, o, none⟩ /\ own b = some (k, []) /\ Has w' b o (putAt us off xs) ((β k).cap * e) /\
        ∀ i, ¬ (off <= i /\ i < off + vs.length) -> w'.cell? ⟨b, o + i, none⟩ = w.cell? ⟨b, o + i, none⟩) := by
    rcases g4 with g4 | ⟨b', o', h1, h2, h3⟩
    · have hz : len * e <= (β k).cap * e := Nat.mul_le_mul_right _ g3.1
      have hx0 : xs = [] := List.eq_nil_of_length_eq_zero (by rw [hv.1]; omega)
      subst hx0
      exact ⟨w, rfl, rfl, rfl, rfl, rfl, fun _ _ => rfl, .inl ⟨g4, rfl⟩⟩
    · rw [hb] at h1
      cases h1
      have hle2 : len * e <= (β k).cap * e := Nat.mul_le_mul_right _ g3.1
      obtain ⟨w', r1, r2, r3, r4, r5, r6, r7, r8⟩ := WV (P := P) h3 (off := off) (ys := xs) (by omega) (by rw [hv.1]; omega) a3
      have hput : putAt us off xs = us.take off ++ xs ++ us.drop (off + xs.length) := Ahk us xs off (by rw [hv.1]; omega)
      refine ⟨w', r1, r2, r3, r4, r5, fun b2 hb2 => r6 b2 (fun hh => hb2 (hh ▸ h2)), .inr ⟨b, o, hb, h2, by rw [hput]; exact r7, ?_⟩⟩
      intro i hi
      exact r8 i (by rw [hv.1]; exact hi)
  obtain ⟨w', r1, r2, r3, r4, r5, r6, r7⟩ := hrow
  have hblk : ∀ b', own b' ≠ some (k, []) -> w'.heap[b']? = w.heap[b']? := r6
  have hμ : ∀ k1 p, p ≠ [] -> (fun k1 p => μ k1 ++ p) k1 p ≠ [] := fun k1 p hp => by simp [hp]
  have hlabk : ∀ b2 p, own b2 = some (k, p) -> Cq own none ks k (fun k1 p => μ k1 ++ p) b2 = some (k, p) := by
    intro b2 p hp
    unfold Cq
    rw [if_neg (by simp), hp]
    simp only
    rw [if_neg (fun hh => (hkk k hh).1 rfl)]
  have st : Step F β own H w β (Cq own none ks k fun k1 p => μ k1 ++ p) (Al H (C8 ks ++ [(k, O')])) w' (fun j => j ∈ ks ∨ j = k) := by
    refine ⟨by omega, r3, r4, r5, ?_, ?_, ?_, ?_, ?_, ?_, ?_, ?_, ?_, ?_⟩
    · intro b2 hb2 hn
      exact hblk b2 (fun hh => hn k [] hh (.inr rfl))
    · intro _ b2 hb2 hn
      refine ⟨hblk b2 (hn k), fun k' => ?_⟩
      unfold Cq
      rw [if_neg (by simp)]
      cases hob : own b2 with
      | none => simp
      | some q =>
        obtain ⟨k1, p⟩ := q
        simp only
        have hp : p ≠ [] := fun hp => hn k1 (by rw [hob, hp])
        split
        · simp; intro _ _; exact hp
        · simp; intro _; exact hp
    · intro b2 k1 p hp hK
      unfold Cq
      rw [if_neg (by simp), hp]
      simp only
      rw [if_neg (fun hh => hK (.inl hh))]
    · intro b2 p hp
      unfold Cq at hp
      rw [if_neg (by simp)] at hp
      cases hob : own b2 with
      | none => simp [hob] at hp
      | some q => exact ⟨by rw [r2]; exact (inv.ownb b2 q hob).1, by simp⟩
    · intro j hj
      exact ⟨rfl, by rw [hH, if_neg (fun h => hj (.inr h)), if_neg (fun h => hj (.inl h))]⟩
    · intro j e2 t2 l2 c2 hj h
      by_cases hjk : j = k
      · subst hjk
        rw [hk] at h; cases h
        exact .inr ⟨rfl, _, _, by rw [hH, if_pos rfl]; exact hO'⟩
      · rcases hj with hj | hj
        · left; rw [hH, if_neg hjk, if_pos hj]
        · exact absurd hj hjk
    · intro j c2 hj h
      by_cases hjk : j = k
      · subst hjk; rw [h] at hk; simp [Ac] at hk
      · rcases hj with hj | hj
        · left; rw [hH, if_neg hjk, if_pos hj]
        · exact absurd hj hjk
    · intro j hj h
      by_cases hjk : j = k
      · subst hjk; rw [h] at hk; simp [Ac] at hk
      · rcases hj with hj | hj
        · rw [hH, if_neg hjk, if_pos hj]
        · exact absurd hj hjk
    · intro j hj _
      by_cases hjk : j = k
      · subst hjk; rw [hH, if_pos rfl]
        rcases hO with ⟨_, h⟩ | ⟨_, _, _, h⟩ <;> rw [h] <;> simp
      · rcases hj with hj | hj
        · rw [hH, if_neg hjk, if_pos hj]; simp
        · exact absurd hj hjk
    · intro s j o2 e2 t2 l2 c2 hs hs2 hj ha
      by_cases hjk : j = k
      · subst hjk
        refine ⟨EA.2 ⟨_, _, _, _, hk⟩, fun b2 o3 h3 h4 => ⟨hlabk b2 [] h4, ?_⟩⟩
        rcases r7 with ⟨_, r7⟩ | ⟨b4, o4, h5, h6, h7, h8⟩
        · rw [r7]
        · rw [h5] at h3; cases h3
          exact h8 o2 (hhome s o2 e2 t2 l2 c2 hs2)
      · rcases hj with hj | hj
        · rw [hH, if_neg hjk, if_pos hj] at ha; simp [GK] at ha
        · exact absurd hj hjk
  have mv : Moved F own w (Cq own none ks k fun k1 p => μ k1 ++ p) w' (F.S w' (Cq own none ks k fun k1 p => μ k1 ++ p)) t' ks k μ := by
    refine ⟨?_, fun fl b2 h1 _ h3 => st.sS inv fl b2 h1 h3⟩
    intro b2 k1 p hk1 hb2
    refine ⟨?_, hblk b2 (fun hh => by rw [hb2] at hh; cases hh; exact (hkk k hk1).1 rfl)⟩
    unfold Cq
    rw [if_neg (by simp), hb2]
    simp [hk1]
  have hpw : Pw (fun v x => v = v) (putAt cs off vs') (putAt us off xs) := ⟨by simp [Lh, g1], fun _ _ _ _ _ => rfl⟩
  have hAR : AR F (Cq own none ks k fun k1 p => μ k1 ++ p) w' k (β k) e (max t t') len (putAt cs off vs') := by
    refine ⟨putAt us off xs, hpw.1, by rw [Lh]; exact g2, g3, ?_, ?_⟩
    · rcases r7 with ⟨r7, _⟩ | ⟨b4, o4, h5, h6, h7, _⟩
      · exact .inl r7
      · exact .inr ⟨b4, o4, h5, hlabk b4 [] h6, h7⟩
    · intro i v x hv' hx
      rw [Qn _ _ _ _ (by rw [a4]; exact hle)] at hv'
      rw [Qn _ _ _ _ (by rw [hv.1, g1]; exact hle)] at hx
      rw [a4] at hv'
      rw [hv.1] at hx
      by_cases hi : off <= i /\ i < off + vs.length
      · rw [if_pos hi] at hv' hx
        have := a6 (k := k) (Nat.le_max_right t t') (fun _ _ => rfl) mv (i - off) v x hv' hx
        rw [show off + (i - off) = i by omega] at this
        simpa using this
      · rw [if_neg hi] at hv' hx
        refine He (g5 i v x hv' hx) (Nat.le_max_left t t') (fun b2 q hb2 => ⟨hlabk b2 _ hb2, hblk b2 (fun hh => by rw [hb2] at hh; simp at hh)⟩) (fun fl b2 h1 h2 => st.sS inv fl b2 h1 h2)
  refine ⟨w', _, r1, ?_, fun z y h => st.vr inv h⟩
  refine st.inv inv ?_ ?_
  · intro j hj
    by_cases hjk : j = k
    · subst hjk
      rw [hH, if_pos rfl]
      rcases hO with ⟨h1, h2⟩ | ⟨k2, o2, h1, h2⟩
      · subst h2; exact hAR
      · subst h2
        have h3 := inv.objs j
        rw [h1] at h3
        obtain ⟨h4, h5, ⟨h0, h6⟩, h7⟩ := h3
        refine ⟨hAR, h5, ⟨h0, ?_⟩, ?_⟩
        · by_cases hk2 : k2 ∈ ks ∨ k2 = j
          · exact st.frees k2 hk2 h6
          · rw [(st.same k2 hk2).2]; exact h6
        · intro ha
          by_cases hkj : k2 = j
          · subst hkj
            obtain ⟨b3, o3, q1, q2, q3⟩ := h7 (by rw [h1]; rfl)
            refine ⟨b3, o3, q1, hlabk b3 [] q2, ?_⟩
            rw [<- q3]
            rcases r7 with ⟨_, r7⟩ | ⟨b4, o4, h5', h6', h7', h8'⟩
            · rw [r7]
            · rw [h5'] at q1; cases q1
              exact h8' o2 (hhome k2 o2 e t len cs h1)
          · by_cases hk2 : k2 ∈ ks
            · rw [hH, if_neg hkj, if_pos hk2] at ha; simp [GK] at ha
            · rw [hH, if_neg hkj, if_neg hk2] at ha
              obtain ⟨b3, o3, q1, q2, q3⟩ := h7 ha
              refine ⟨b3, o3, q1, ?_, ?_⟩
              · unfold Cq
                rw [if_neg (by simp), q2]
                simp only
                rw [if_neg hk2]
              · rw [<- q3]
                simp only [World.cell?]
                rw [hblk b3 (fun hh => by rw [q2] at hh; cases hh; exact hkj rfl)]
    · rcases hj with hj | hj
      · rw [hH, if_neg hjk, if_pos hj]; trivial
      · exact absurd hj hjk
  · intro j hj hlt hnd
    by_cases hjk : j = k
    · subst hjk
      exact ⟨rfl, fun hh => by rw [hh] at hk; simp [Ac] at hk⟩
    · rcases hj with hj | hj
      · rw [hH, if_neg hjk, if_pos hj] at hnd; exact absurd rfl hnd
      · exact absurd hj hjk
theorem AgN {H1 H2:Hp} (h:∀j,Ac (H1 j)=Ac (H2 j)) (v:V):MX H1 v=MX H2 v:=by
 cases v with
 | arr k=>simp only[MX,h]
 | sl fl e len cs=>cases fl<;>rfl
 | _=>rfl
theorem X3 {H1 H2:Hp} (h:∀j,Ac (H1 j)=Ac (H2 j)) (ks:List Nat) (j:Nat):Ac (BK ks H1 j)=Ac (BK ks H2 j):=by
 unfold BK
 split
 ·rfl
 ·exact h j
theorem Agt (vs:List V):∀ {H1 H2:Hp},(∀j,Ac (H1 j)=Ac (H2 j))->Kn H1 vs=Kn H2 vs:=by
 induction vs with
 | nil=>intro H1 H2 _;rfl
 | cons v r ih=>
  intro H1 H2 h
  simp only[Kn,AgN h]
  cases MX H2 v with
  | none=>rfl
  | some p=>
   obtain⟨v',t,ks⟩:=p
   simp only
   rw[ih (X3 h ks)]
theorem XP {t:TypeId} {n:Nat} (hn:szB P t=some n) {b o:Nat} {y:Value} (hy:y.cells.size=n) {w':World} (h:(storeCells ⟨b,o,none⟩ y.cells.toList).run P w= .ok () w'):
 (do Instr.storeAt t (.pointer (some ⟨b,o,none⟩)) y;pure .skip:Sem Next).run P w= .ok .skip w':=by
 simp only[Instr.storeAt,Instr.sureAddr,Sem.run_bind,Sem.run_pure,Result.andThen_ok,storeVar,Et hn,hy,ne_eq,not_true_eq_false,if_false,Sem.run_ite,h]
theorem Anz (inv:Inv F β own H w) {Hm:Hp} (hm:∀k,Hm k=H k∨Hm k= .dead) {takes:List Nat} (htk:F.takes=takes) (ht:∀s,s∈takes->Hm s=H s) {t:TypeId} {n:Nat} (hn:szB P t=some n)
 {vx vv:V} {a y:Value} (ha:VR F β own H w vx a) (hy:VR F β own H w vv y) {u:DL} (h:ZU takes Hm n vx vv=some u):
 Z8 F β own H w ((do Instr.storeAt t a y;pure .skip:Sem Next).run P w) .undef u:=by
 unfold ZU at h
 split at h
 ·rename_i k off vs hvs
  obtain⟨hpw,hones⟩:=PL hy hvs
  split at h
  ·rename_i hlen
   have hyn:y.cells.size=n:=by have:=hpw.1;simp at this;omega
   have haddr:H k≠ .dead->∃b o,a= .pointer (some ⟨b,o+off,none⟩)/\(β k).a=some ⟨b,o,none⟩:=by
    intro hd
    cases ha with
    | goneP h1=>exact absurd h1 hd
    | ptr h1 h2=>exact⟨_,_,rfl,h2⟩
   have arrcase:∀ {e tt len:Nat} {cs vs':List V} {t':Nat} {ks:List Nat} {O':O},Ac (H k)=some (e,tt,len,cs)->off+n<=cs.length->Kn (BK [k] Hm) vs=some (vs',t',ks)->
    ((H k= .arr e tt len cs/\O' = .arr e (max tt t') len (putAt cs off vs'))∨∃k2 o2,H k= .tarr k2 o2 e tt len cs/\O' = .tarr k2 o2 e (max tt t') len (putAt cs off vs'))->
    Z8 F β own H w ((do Instr.storeAt t a y;pure .skip:Sem Next).run P w) .undef (Di Hm takes k off n++C8 ks++ [(k,O')]):=by
    intro e tt len cs vs' t' ks O' hk hle hg hO
    obtain⟨b,o,rfl,hb⟩:=haddr (fun hh=>by rw[hh]at hk;simp[Ac]at hk)
    have hun:=fun j=>AhB takes Hm k off n H j ht
    have hself:∀o' e t len cs,H k≠ .tarr k o' e t len cs:=by
     intro o' e t len cs hh
     have:=inv.objs k
     rw[hh]at this
     exact this.2.2.1.1 rfl
    obtain⟨inv1,hvr1⟩:=inv.weaken (H':=Al H (Di Hm takes k off n)) (fun j=>by
     rcases hun j with⟨h1,_⟩ | ⟨k',o',e',t2,l2,c2,h1,h2⟩
     ·exact .inl h1
     ·exact .inr ⟨k',o',e',t2,l2,c2,h1,h2⟩)
    have hkeep:Al H (Di Hm takes k off n) k=H k:=by
     rcases hun k with⟨h1,_⟩ | ⟨k',o',e',t2,l2,c2,h1,h2⟩
     ·exact h1
     ·
      have gen:∀(l:List Nat) (Hx:Hp),Al Hx (Di Hm l k off n) k=Hx k:=by
       intro l
       induction l with
       | nil=>intro Hx;rfl
       | cons s l ih=>
        intro Hx
        have hcons:Di Hm (s::l) k off n=Di Hm l k off n∨∃o,Di Hm (s::l) k off n=(s,o)::Di Hm l k off n/\∃o' e t len cs,Hm s= .tarr k o' e t len cs:=by
         cases hsm:Hm s with
         | tarr k2 o2 e2 t3 l3 c3=>
          by_cases hc:k2=k/\off<=o2/\o2<off+n
          ·right
           refine⟨.arr e2 t3 l3 c3,by simp only[Di,List.filterMap_cons,hsm,if_pos hc],o2,e2,t3,l3,c3,?_⟩
           rw[<-hc.1]
          ·left;simp only[Di,List.filterMap_cons,hsm,if_neg hc]
         | _=>left;simp only[Di,List.filterMap_cons,hsm]
        rcases hcons with h3 | ⟨o,h3,o',e3,t3,l3,c3,h4⟩
        ·rw[h3];exact ih Hx
        ·rw[h3]
         simp only[Al]
         rw[ih]
         by_cases hks:k=s
         ·exfalso
          rw[<-hks]at h4
          rcases hm k with h5 | h5
          ·rw[h5]at h4;exact hself _ _ _ _ _ h4
          ·rw[h5]at h4;cases h4
         ·rw[if_neg hks]
      exact gen takes H
    obtain⟨Hm1,hm1,hm1a⟩:∃Hm1:Hp,(∀j,Hm1 j=Al H (Di Hm takes k off n) j∨Hm1 j= .dead)/\∀j,Ac (Hm1 j)=Ac (Hm j):=by
     refine⟨fun j=>match Hm j with | .dead=> .dead | _=>Al H (Di Hm takes k off n) j,fun j=> ?_,fun j=> ?_⟩
     ·dsimp only
      split
      ·exact .inr rfl
      ·exact .inl rfl
     ·dsimp only
      split
      ·rename_i hd;rw[hd]
      ·rename_i hd
       have hj:Hm j=H j:=by
        rcases hm j with h5 | h5
        ·exact h5
        ·exact absurd h5 hd
       rcases hun j with⟨h1,_⟩ | ⟨k',o',e',t2,l2,c2,h1,h2⟩
       ·rw[h1,hj]
       ·rw[h2,hj,h1];rfl
    have hk1:Ac (Al H (Di Hm takes k off n) k)=some (e,tt,len,cs):=by rw[hkeep];exact hk
    have hg1:Kn (BK [k] Hm1) vs=some (vs',t',ks):=by rw[Agt vs (X3 hm1a [k])];exact hg
    obtain⟨w',own',q1,q2,q3⟩:=AlR (P:=P) inv1 hm1 hk1 hb (hpw.mono fun v x h=>hvr1 v x h) hg1 (by rw[hlen];exact hle) (by
     intro s o2 e2 t2 l2 c2 hs
     rcases hun s with⟨h1,h2⟩ | ⟨k',o',e',t3,l3,c3,h1,h2⟩
     ·rw[h1]at hs
      have hsin:s∈takes:=by
       have h3:=inv.objs s
       rw[hs]at h3
       rw[<-htk];exact h3.2.1
      rw[hlen]
      exact h2 hsin o2 e2 t2 l2 c2 hs
     ·rw[h2]at hs;cases hs) (O':=O') (by rw[hkeep];exact hO)
    rw[<-ML,<-List.append_assoc]at q2 q3
    exact⟨undef,w',β,own',.inr ⟨XP hn hyn q1,rfl⟩,fun z x hz=>q3 z x (hvr1 z x hz),q2,.undef⟩
   have hkc:Hm k= .dead∨Hm k=H k:=by
    rcases hm k with h5 | h5
    ·exact .inr h5
    ·exact .inl h5
   split at h
   ·rename_i cs hc
    split at h
    ·rename_i hle
     cases h
     have hk:H k= .var cs:=by
      rcases hkc with h5 | h5
      ·rw[h5]at hc;cases hc
      ·rw[<-h5];exact hc
     obtain⟨b,o,rfl,hb⟩:=haddr (by rw[hk];simp)
     obtain⟨w',q1,q2,q3⟩:=AlQ (P:=P) inv hk hb hpw hones (show off+vs.length<=cs.length by omega)
     exact⟨undef,w',β,own,.inr ⟨XP hn hyn q1,rfl⟩,q3,q2,.undef⟩
    ·cases h
   ·rename_i e tt len cs hc
    split at h
    ·rename_i hle
     split at h
     ·rename_i vs' t' ks hg
      cases h
      have hk:H k= .arr e tt len cs:=by
       rcases hkc with h5 | h5
       ·rw[h5]at hc;cases hc
       ·rw[<-h5];exact hc
      exact arrcase (by rw[hk];rfl) hle hg (.inl ⟨hk,rfl⟩)
     ·cases h
    ·cases h
   ·rename_i k2 o2 e tt len cs hc
    split at h
    ·rename_i hle
     split at h
     ·rename_i vs' t' ks hg
      cases h
      have hk:H k= .tarr k2 o2 e tt len cs:=by
       rcases hkc with h5 | h5
       ·rw[h5]at hc;cases hc
       ·rw[<-h5];exact hc
      exact arrcase (by rw[hk];rfl) hle hg (.inr ⟨k2,o2,hk,rfl⟩)
     ·cases h
    ·cases h
   ·cases h
  ·cases h
 ·cases h
end
end Go.Eng
namespace Go.Eng
def Vb (own:Nat->Option (Nat×List Nat)) (k off s:Nat):Nat->Option (Nat×List Nat):=fun b=>
 match own b with
 | some (k1,i::q)=>if k1=k/\i=off then some (s,q)else some (k1,i::q)
 | r=>r
section
variable {P:Program} {F:Fr} {β:Nat->Base} {own:Nat->Option (Nat×List Nat)} {H:Hp} {w w':World}
theorem AgW {k off s b:Nat} {q:List Nat} (h:own b=some (k,off::q)):Vb own k off s b=some (s,q):=by
 unfold Vb;rw[h];simp
theorem Alf {k off s b k1:Nat} {p:List Nat} (h:own b=some (k1,p)) (hn:¬(k1=k/\p.head? =some off)):Vb own k off s b=some (k1,p):=by
 unfold Vb;rw[h]
 cases p with
 | nil=>rfl
 | cons i q=>simp at hn⊢;intro h1 h2;exact absurd h2 (hn h1)
theorem Aj9 {k off s b:Nat} {p:Nat×List Nat} (h:Vb own k off s b=some p):own b≠none:=by
 unfold Vb at h
 intro hn
 rw[hn]at h
 cases h
theorem Akp (inv : Inv F β own H w) (hbor : F.bor = false) {k s off e' t len' e len : Nat} {cs c : List V} (hs : s ∈ F.takes) (hf : H s = .free) (hk : Ac (H k) = some (e', t, len', cs))
    (hc : cs[off]? = some (.sl 0 e len c)) {O' : O}
    (hO : (H k = .arr e' t len' cs /\ O' = .arr e' t len' (cs.set off .undef)) ∨ ∃ k2 o2, H k = .tarr k2 o2 e' t len' cs /\ O' = .tarr k2 o2 e' t len' (cs.set off .undef))
    {b o : Nat} (hb : (β k).a = some ⟨b, o, none⟩) :
    ∃ x β' own', w.cell? ⟨b, o + off, none⟩ = some x /\ (∀ z y, VR F β own H w z y -> VR F β' own' (Al H [(k, O'), (s, .tarr k off e t len c)]) w z y) /\
      Inv F β' own' (Al H [(k, O'), (s, .tarr k off e t len c)]) w /\ VR F β' own' (Al H [(k, O'), (s, .tarr k off e t len c)]) w (.arr s) x := by
  obtain ⟨vs, g1, g2, g3, g4, g5⟩ := Hz inv hk
  have hsk : s ≠ k := fun h => by rw [<- h, hf] at hk; simp [Ac] at hk
  have hoff : off < cs.length := (List.getElem?_eq_some_iff.1 hc).1
  obtain ⟨x, hx⟩ : ∃ x, vs[off]? = some x := ⟨vs[off]'(by omega), by simp⟩
  have how := g5 off _ x hc hx
  have hO' : Ac O' = some (e', t, len', cs.set off .undef) := by
    rcases hO with ⟨_, h⟩ | ⟨_, _, _, h⟩ <;> rw [h] <;> rfl
  rcases g4 with g4 | ⟨b', o', h1, h2, h3⟩
  · have : len' * e' <= (β k).cap * e' := Nat.mul_le_mul_right _ g3.1
    omega
  rw [hb] at h1
  cases h1
  have hcell : w.cell? ⟨b, o + off, none⟩ = some x := by rw [(DF h3).2 off (by omega)]; exact hx
  cases how with
  | ro h1 _ _ => exact absurd h1 (by omega)
  | @own _ _ _ _ a cap us hl hw hv hm hcc =>
  have hH : ∀ j, Al H [(k, O'), (s, .tarr k off e t len c)] j = if j = s then .tarr k off e t len c else if j = k then O' else H j := fun j => rfl
  have hlab : ∀ b k1 p, own b = some (k1, p) -> ¬ (k1 = k /\ p.head? = some off) -> Vb own k off s b = some (k1, p) := fun b k1 p => Alf
  have hnos : ∀ k2 off e t len cs, H k2 ≠ .tarr s off e t len cs := by
    intro k2 off e t len cs hh
    have := inv.objs k2
    rw [hh] at this
    exact this.2.2.1.2 hf
  have st : Step F β own H w (fun j => if j = s then ⟨a, cap⟩ else β j) (Vb own k off s) (Al H [(k, O'), (s, .tarr k off e t len c)]) w (fun j => j = k ∨ j = s) := by
    refine ⟨Nat.le_refl _, rfl, rfl, rfl, fun _ _ _ => rfl, ?_, ?_, ?_, ?_, ?_, ?_, ?_, ?_, ?_⟩
    · intro hh; rw [hbor] at hh; cases hh
    · intro b2 k1 p hp hK
      exact hlab b2 k1 p hp (fun hh => hK (.inl hh.1))
    · intro b2 p hp
      have hne := Aj9 hp
      cases ho : own b2 with
      | none => exact absurd ho hne
      | some q => exact ⟨(inv.ownb b2 q ho).1, fun _ => by simp⟩
    · intro j hj
      have h1 : j ≠ k := fun h => hj (.inl h)
      have h2 : j ≠ s := fun h => hj (.inr h)
      exact ⟨by simp [h2], by rw [hH, if_neg h2, if_neg h1]⟩
    · intro j e2 t2 l2 c2 hj h
      rcases hj with hj | hj
      · subst hj
        rw [hk] at h; cases h
        exact .inr ⟨by simp [hsk.symm], _, _, by rw [hH, if_neg hsk.symm, if_pos rfl]; exact hO'⟩
      · subst hj; rw [hf] at h; simp [Ac] at h
    · intro j c2 hj h
      rcases hj with hj | hj
      · subst hj; rw [h] at hk; simp [Ac] at hk
      · subst hj; rw [hf] at h; cases h
    · intro j hj h
      rcases hj with hj | hj
      · subst hj; rw [h] at hk; simp [Ac] at hk
      · subst hj; rw [hf] at h; cases h
    · intro j hj h
      rcases hj with hj | hj
      · subst hj; rw [hH, if_neg hsk.symm, if_pos rfl]
        rcases hO with ⟨_, h⟩ | ⟨_, _, _, h⟩ <;> rw [h] <;> simp
      · subst hj; exact absurd hf h
    · intro s2 j o2 e2 t2 l2 c2 hs2 hh hj ha
      rcases hj with hj | hj
      · subst hj
        exact ⟨EA.2 ⟨_, _, _, _, hk⟩, fun b2 o3 h3 h4 => ⟨hlab b2 j [] h4 (by simp), rfl⟩⟩
      · subst hj; exact absurd hh (hnos _ _ _ _ _ _)
  have hsS : ∀ fl b2, 1 <= fl -> F.S w own fl b2 -> F.S w (Vb own k off s) fl b2 /\ w.heap[b2]? = w.heap[b2]? := fun fl b2 h1 h => st.sS inv fl b2 h1 h
  have hARk : AR F (Vb own k off s) w k (β k) e' t len' (cs.set off .undef) := by
    refine ⟨vs, by simp [g1], by simp [g2], g3, .inr ⟨b, o, hb, hlab b k [] h2 (by simp), h3⟩, ?_⟩
    intro i v y hv hy
    rw [List.getElem?_set] at hv
    split at hv
    · first
      | (cases hv; exact .undef)
      | (split at hv
         · cases hv; exact .undef
         · cases hv)
    · rename_i hne
      refine He (g5 i v y hv hy) (Nat.le_refl t) (fun b2 q hb2 => ⟨hlab b2 k _ hb2 ?_, rfl⟩) (fun fl b2 h1 h2 => hsS fl b2 h1 h2)
      simp; exact fun h => hne h.symm
  have hARs : AR F (Vb own k off s) w s ⟨a, cap⟩ e t len c := by
    refine ⟨us, hv, hw, hl, ?_, ?_⟩
    · rcases hm with hm | ⟨b2, o2, q1, q2, q3⟩
      · exact .inl hm
      · exact .inr ⟨b2, o2, q1, AgW q2, q3⟩
    · intro i v y hv' hy
      refine He (hcc i v y hv' hy) (Nat.le_refl t) (fun b2 q hb2 => ⟨?_, rfl⟩) (fun fl b2 h1 h2 => hsS fl b2 h1 h2)
      exact AgW (by simpa using hb2)
  refine ⟨_, fun j => if j = s then ⟨a, cap⟩ else β j, Vb own k off s, hcell, fun z y h => st.vr inv h, st.inv inv ?_ ?_, ?_⟩
  · intro j hj
    rcases hj with hj | hj
    · subst hj
      rw [hH, if_neg hsk.symm, if_pos rfl]
      rcases hO with ⟨h4, h5⟩ | ⟨k2, o2, h4, h5⟩
      · subst h5
        show AR F (Vb own j off s) w j (if j = s then _ else _) e' t len' _
        rw [if_neg hsk.symm]; exact hARk
      · subst h5
        have h6 := inv.objs j
        rw [h4] at h6
        obtain ⟨h7, h8, ⟨h9, h10⟩, h11⟩ := h6
        refine ⟨by dsimp only; rw [if_neg hsk.symm]; exact hARk, h8, ⟨h9, ?_⟩, ?_⟩
        · rw [hH]
          by_cases hks : k2 = s
          · rw [if_pos hks]; simp
          · rw [if_neg hks, if_neg h9]; exact h10
        · intro ha
          rw [hH] at ha
          by_cases hks : k2 = s
          · subst hks; exact absurd hf h10
          · rw [if_neg hks, if_neg h9] at ha
            obtain ⟨b3, o3, q1, q2, q3⟩ := h11 ha
            refine ⟨b3, o3, by dsimp only; rw [if_neg hks]; exact q1, hlab b3 k2 [] q2 (by simp), ?_⟩
            dsimp only
            rw [if_neg hsk.symm]; exact q3
    · subst hj
      rw [hH, if_pos rfl]
      refine ⟨by dsimp only; rw [if_pos rfl]; exact hARs, hs, ⟨hsk.symm, ?_⟩, ?_⟩
      · rw [hH, if_neg hsk.symm, if_pos rfl]
        rcases hO with ⟨_, h⟩ | ⟨_, _, _, h⟩ <;> rw [h] <;> simp
      · intro _
        refine ⟨b, o, by dsimp only; rw [if_neg hsk.symm]; exact hb, hlab b k [] h2 (by simp), ?_⟩
        dsimp only
        rw [if_pos rfl]; exact hcell
  · intro j hj hlt hnd
    rcases hj with hj | hj
    · subst hj
      refine ⟨by simp [hsk.symm], fun hh => ?_⟩
      rw [hh] at hk; simp [Ac] at hk
    · subst hj
      exact absurd hf (inv.gfree j hlt)
  · have := VR.arr (F := F) (β := fun j => if j = s then (⟨a, cap⟩ : Base) else β j) (own := Vb own k off s) (H := Al H [(k, O'), (s, .tarr k off e t len c)]) (w := w) (k := s)
      (e := e) (t := t) (len := len) (cs := c) (by rw [hH, if_pos rfl]; rfl)
    simpa using this
theorem An5 (inv:Inv F β own H w) {Hm:Hp} (hm:∀k,Hm k=H k∨Hm k= .dead) {t:TypeId} (hn:nB P t none=true) {s:Nat} (hs:s∈F.takes) {a:Value} {va v:V}
 (ha:VR F β own H w va a) {u:DL} (h:Agr F.bor Hm s va=some (v,u)):Z8 F β own H w ((do pure (.value (<-Instr.loadAt t a)):Sem Next).run P w) v u:=by
 unfold Agr at h
 split at h
 ·cases h
 rename_i hbor
 have hbor:F.bor=false:=by simpa using hbor
 split at h
 ·rename_i k off hf
  have hf':=RD hm hf
  have hkc:Hm k= .dead∨Hm k=H k:=by
   rcases hm k with h5 | h5
   ·exact .inr h5
   ·exact .inl h5
  have fin:∀ {e' tt len' e len:Nat} {cs c:List V} {O':O},Ac (H k)=some (e',tt,len',cs)->cs[off]? =some (.sl 0 e len c)->
   ((H k= .arr e' tt len' cs/\O' = .arr e' tt len' (cs.set off .undef))∨∃k2 o2,H k= .tarr k2 o2 e' tt len' cs/\O' = .tarr k2 o2 e' tt len' (cs.set off .undef))->
   Z8 F β own H w ((do pure (.value (<-Instr.loadAt t a)):Sem Next).run P w) (.arr s) [(k,O'),(s,.tarr k off e tt len c)]:=by
   intro e' tt len' e len cs c O' hk hc hO
   cases ha with
   | goneP h1=>rw[h1]at hk;simp[Ac]at hk
   | @ptr _ _ b o h1 hb=>
    obtain⟨x,β',own',q1,q2,q3,q4⟩:=Akp inv hbor hs hf' hk hc hO hb
    refine⟨x,w,β',own',.inl ?_,q2,q3,q4⟩
    simp only[nB,beq_iff_eq]at hn
    simp only[Instr.loadAt,Instr.sureAddr,Sem.run_bind,Sem.run_pure,Result.andThen_ok,loadVar,LC hn,Bool.false_eq_true,if_false]
    rw[run_load,q1]
    rfl
  split at h
  ·rename_i e' tt len' cs hc
   split at h
   ·rename_i e len c hcc
    cases h
    have hk:H k= .arr e' tt len' cs:=by
     rcases hkc with h5 | h5
     ·rw[h5]at hc;cases hc
     ·rw[<-h5];exact hc
    exact fin (by rw[hk];rfl) hcc (.inl ⟨hk,rfl⟩)
   ·cases h
  ·rename_i k2 o2 e' tt len' cs hc
   split at h
   ·rename_i e len c hcc
    cases h
    have hk:H k= .tarr k2 o2 e' tt len' cs:=by
     rcases hkc with h5 | h5
     ·rw[h5]at hc;cases hc
     ·rw[<-h5];exact hc
    exact fin (by rw[hk];rfl) hcc (.inr ⟨k2,o2,hk,rfl⟩)
   ·cases h
  ·cases h
 ·cases h
theorem An2 (inv:Inv F β own H w) {Hm:Hp} (hm:∀k,Hm k=H k∨Hm k= .dead) {ev:Src->V} {ρ:Operand->Value} {t:TypeId} {kv k e len:Nat} (ht:slB P t e=true) (hlen:len*e<=2 ^ 24) (hlen2:len<=2 ^ 24)
 (hz:∀et,P.underlying t=some (.slice et)->∃z,(P.info? et).bind (·.zero)=some z/\z.cells.size=e) {parts:List Src} {qs:Array (Nat×Operand)}
 (hidx:qs.toList.map (·.1)=List.range len) (hpl:parts.length=qs.toList.length)
 (hev:∀(j:Nat) (s:Src) (q:Nat×Operand),parts[j]? =some s->qs.toList[j]? =some q->VR F β own H w (ev s) (ρ q.2))
 {v:V} {u:DL} (h:Ahp F.bor Hm ev kv k e len parts=some (v,u)):
 Z8 F β own H w ((do pure (.value (<-Instr.buildSlice t len (qs.map fun(i,x)=>(i,ρ x)))):Sem Next).run P w) v u:=by
 unfold Ahp at h
 split at h
 ·rename_i v0 u0 cs0 hb hkv
  split at h
  ·rename_i hbor
   split at h
   ·cases h
   ·rename_i hnk
    cases h
    obtain⟨x,cells,et,cs,t',ks,μ,rfl,rfl,hfree,hks,hμ,hr,hvr,hinv,hv⟩:=QK inv hm ht hlen hlen2 hz hidx hpl hev hb
    have hHkv:H kv= .var cs0:=by
     rcases hm kv with g | g
     ·rw[<-g];exact hkv
     ·rw[g]at hkv;cases hkv
    have hnk':¬kv∈ks/\¬kv=k:=by
     simp only[C8,List.map_append,List.map_map,List.map_cons,List.map_nil,List.contains_eq_mem,List.mem_append,List.mem_singleton,decide_eq_true_eq,not_or]at hnk
     refine⟨fun hh=>hnk.1 ?_,hnk.2⟩
     exact List.mem_map.2 ⟨kv,hh,rfl⟩
    have hkeys:(C8 ks++ [(k,O.arr e t' len cs)]).map (·.1)=ks++ [k]:=by
     simp only[C8,List.map_append,List.map_map,List.map_cons,List.map_nil]
     congr 1
     conv=>rhs;rw[<-List.map_id ks]
     rfl
    rw[hkeys]
    have hH1:Al H (C8 ks++ [(k,O.arr e t' len cs)]) kv= .var cs0:=by rw[ES,if_neg hnk'.2,if_neg hnk'.1];exact hHkv
    have hβ1:(fun j=>if j=k then(⟨some ⟨w.heap.size,0,none⟩,len⟩:Base)else β j) kv=β kv:=if_neg hnk'.2
    have hown:∀b j p,own b=some (j,p)->(Cq own (some w.heap.size) ks k fun k1 p=>μ k1++p) b=if j∈ks then some (k,μ j++p)else some (j,p):=by
     intro b j p hb
     have hlt:=(inv.ownb b _ hb).1
     unfold Cq
     rw[if_neg (by simp;omega),hb]
    have hheap:∀b,b<w.heap.size->({w with heap:=w.heap.push (.cells cells et)}:World).heap[b]? =w.heap[b]? :=by
     intro b hb
     show(w.heap.push _)[b]? =_
     rw[Array.getElem?_push,if_neg (by omega)]
    have hsz:({w with heap:=w.heap.push (.cells cells et)}:World).heap.size=w.heap.size+1:=Array.size_push _
    generalize hw1:({w with heap:=w.heap.push (.cells cells et)}:World)=w1 at *
    generalize hβg:(fun j=>if j=k then(⟨some ⟨w.heap.size,0,none⟩,len⟩:Base)else β j)=β1 at *
    generalize hog:(Cq own (some w.heap.size) ks k fun k1 p=>μ k1++p)=own1 at *
    generalize hHg:Al H (C8 ks++ [(k,O.arr e t' len cs)])=H1 at *
    obtain⟨cs1,hcs1⟩:∃cs1,cs1=cs0.map (Ajt Hm (ks++ [k])):=⟨_,rfl⟩
    have hu:∀j,Al H1 [(kv,.var cs1)] j=if j=kv then .var cs1 else H1 j:=fun j=>rfl
    have stp:Step F β1 own1 H1 w1 β1 own1 (Al H1 [(kv,.var cs1)]) w1 (fun j=>j=kv):=by
     refine⟨Nat.le_refl _,rfl,rfl,rfl,fun _ _ _=>rfl,fun _ b _ h=>⟨rfl,h⟩,fun _ _ _ h _=>h,fun b p h=>⟨(hinv.ownb b p h).1,fun _=>by rw[h];simp⟩,?_,?_,?_,?_,?_,?_⟩
     ·intro j hj;exact⟨rfl,by rw[hu,if_neg hj]⟩
     ·intro j _ _ _ _ hj h;rw[hj,hH1]at h;cases h
     ·intro j _ hj _;exact .inr ⟨rfl,_,by rw[hu,if_pos hj]⟩
     ·intro j hj h;rw[hj,hH1]at h;cases h
     ·intro j hj _;rw[hu,if_pos hj];simp
     ·intro _ j _ _ _ _ _ _ _ hj h;rw[hu,if_pos hj]at h;cases h
    have inv2:Inv F β1 own1 (Al H1 [(kv,.var cs1)]) w1:=by
     refine stp.inv hinv ?_ (fun j hj _ _=>⟨rfl,by rw[hj,hH1];simp⟩)
     intro j hj
     subst hj
     rw[hu,if_pos rfl]
     have ho:=inv.objs j
     rw[hHkv]at ho
     obtain⟨b,o,vs,g1,g2,g3,g4,g5⟩:=ho
     refine⟨b,o,vs,by rw[hβ1];exact g1,by rw[hown b _ _ g2,if_neg hnk'.1],by rw[hcs1];simpa using g3,EU g4 (hheap b (inv.ownb b _ g2).1),?_⟩
     intro i v y hv' hy
     rw[hcs1,List.getElem?_map,Option.map_eq_some_iff]at hv'
     obtain⟨v1,hv1,rfl⟩:=hv'
     have hx0:=g5 i v1 y hv1 hy
     have hstay:=stp.vr hinv (hvr _ _ hx0)
     unfold Ajt
     split
     ·rename_i j1
      split
      ·rename_i hc1
       split
       ·rename_i e1 len1 cs2 hj1
        split
        ·rename_i hall
         have hHj:H j1= .arr e1 0 len1 cs2:=by
          rcases hm j1 with g | g
          ·rw[<-g];exact hj1
          ·rw[g]at hj1;cases hj1
         have hjk:j1∈ks:=by
          simp only[List.contains_eq_mem,List.mem_append,List.mem_singleton,decide_eq_true_eq]at hc1
          rcases hc1 with h1 | h1
          ·exact h1
          ·rw[h1,hfree]at hHj;cases hHj
         have ho:=inv.objs j1
         rw[hHj]at ho
         obtain⟨ws,a1,a2,a3,a4,a5⟩:=ho
         cases hx0 with
         | @arr _ e2 t2 len2 cs3 he=>
          rw[hHj]at he
          simp only[Ac,Option.some.injEq,Prod.mk.injEq]at he
          obtain⟨rfl,rfl,rfl,rfl⟩:=he
          refine .rd (by omega) (.sl (vs:=ws) a3.1 a2 a1 ?_ ?_)
          ·rcases a4 with a4 | ⟨b1,o1,c1,c2,c3⟩
           ·left
            have:len1*e1<=(β j1).cap*e1:=Nat.mul_le_mul_right _ a3.1
            exact List.eq_nil_of_length_eq_zero (by omega)
           ·right
            have hlt:=(inv.ownb b1 _ c2).1
            refine⟨b1,o1,c1,⟨hbor,by omega,fun k'=> ?_⟩,Rh (DF c3) (hheap b1 hlt)⟩
            rw[hown b1 _ _ c2,if_pos hjk]
            obtain⟨i1,hi1⟩:=hμ j1
            simp[hi1]
          ·intro i1 v2 y2 hv2 hy2
           have hsc:=List.all_eq_true.1 hall v2 (List.mem_of_getElem? hv2)
           have how:=a5 i1 v2 y2 hv2 hy2
           cases v2 with
           | sc y3=>
            cases how with
            | sc h1=>exact .sc h1
           | _=>simp[Mr]at hsc
         | goneA hd=>rw[hHj]at hd;cases hd
        ·exact hstay
       ·exact hstay
      ·exact hstay
     ·exact hstay
    refine⟨x,w1,β1,own1,.inl hr,fun z y h=> ?_,?_,?_⟩
    ·rw[ML,hHg,<-hcs1];exact stp.vr hinv (hvr z y h)
    ·rw[ML,hHg,<-hcs1];exact inv2
    ·rw[ML,hHg,<-hcs1];exact stp.vr hinv hv
  ·cases h
 ·cases h
end
end Go.Eng
