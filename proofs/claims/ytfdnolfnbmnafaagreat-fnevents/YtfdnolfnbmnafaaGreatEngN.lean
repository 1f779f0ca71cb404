/- Own work: part 14 of the proof of FnEvents. -/
import Derived.Test.YtfdnolfnbmnafaaGreatEngM
import Derived.Laws.MakeOwn
set_option linter.unusedSimpArgs false
set_option linter.unusedVariables false
namespace Go.Eng
set_option linter.unusedVariables false
def cA:V→Value→Bool
 | .sc v,x=>vq v x
 | .sl 0 _ 0 [],.slice none 0 0=>true
 | _,_=>false
def cAs:List V→List Value→Bool
 | [],[]=>true
 | v::r,x::s=>cA v x&&cAs r s
 | _,_=>false
theorem ANL {Ah:Nat→Option FuncId} {w:World} {own:Nat→Option (Nat×List Nat)} {S:Nat→Nat→Prop} {lim k:Nat} {p:List Nat} {v:V} {x:Value} (h:cA v x=true):
 Ow Ah w own S lim k p v x:=by
 unfold cA at h
 split at h
 ·obtain⟨rfl,h1⟩:=ALK h;exact .sc h1
 ·exact .own (vs:=[]) ⟨Nat.le_refl 0,by omega⟩ (by simp) rfl (.inl (by simp)) (by simp)
 ·cases h
theorem ADR:∀ {zs:List V} {xs:List Value} {j:Nat} {v:V} {x:Value},cAs zs xs=true→zs[j]? =some v→xs[j]? =some x→cA v x=true
 | [],_,_,_,_,_,h,_=>by simp at h
 | _::_,[],_,_,_,_,_,h=>by simp at h
 | z::zs,y::ys,0,v,x,h,h1,h2=>by
  simp at h1 h2;subst h1;subst h2
  simp[cAs]at h;exact h.1
 | z::zs,y::ys,j+1,v,x,h,h1,h2=>by
  simp[cAs]at h
  exact ADR h.2 (by simpa using h1) (by simpa using h2)
def elB (P:Program) (t:TypeId) (e b:Nat) (zero:Option (List V)):Bool:=
 match P.underlying t with
 | some (.slice et)=>match P.info? et with
  | some i=>match i.zero with
   | some z=>i.size==e&&e !=0&&i.bytes==b&&b !=0&&z.cells.size==e&&z.cells.toList.all (·.oneCell')&&(match zero with | some zs=>cAs zs z.cells.toList | none=>true)
   | none=>false
  | none=>false
 | _=>false
section
variable {P:Program} {F:Fr} {β:Nat→Base} {own:Nat→Option (Nat×List Nat)} {H:Hp} {w w':World}
theorem AqN {t:TypeId} {e b:Nat} {zero:Option (List V)} (h:elB P t e b zero=true):∃et i z,P.underlying t=some (.slice et)∧P.info? et=some i∧i.zero=some z∧i.size=e∧0<e∧
 i.bytes=b∧0<b∧z.cells.size=e∧GY z.cells.toList∧∀zs,zero=some zs→cAs zs z.cells.toList=true:=by
 unfold elB at h
 split at h
 ·rename_i et hu
  cases hi:P.info? et with
  | none=>simp[hi]at h
  | some i=>
   cases hz:i.zero with
   | none=>simp[hi,hz]at h
   | some z=>
    simp only[hi,hz,Bool.and_eq_true,beq_iff_eq,bne_iff_ne]at h
    obtain⟨⟨⟨⟨⟨⟨h1,h2⟩,h3⟩,h4⟩,h5⟩,h6⟩,h7⟩:=h
    refine⟨et,i,z,hu,hi,hz,h1,by omega,h3,by omega,h5,fun x hx=>List.all_eq_true.1 h6 x hx,?_⟩
    intro zs hzs
    subst hzs
    exact h7
 ·cases h
theorem Avh {α:Type} (z:List α) (n i:Nat) (hz:0<z.length) (hi:i<n*z.length):((List.replicate n z).flatten)[i]? =z[i % z.length]? :=by
 induction n generalizing i with
 | zero=>simp at hi
 | succ n ih=>
  rw[List.replicate_succ,List.flatten_cons]
  rcases Nat.lt_or_ge i z.length with h | h
  ·rw[List.getElem?_append_left h,Nat.mod_eq_of_lt h]
  ·rw[List.getElem?_append_right h,ih (i-z.length) (by rw[Nat.add_mul]at hi;omega),←Nat.mod_eq_sub_mod h]
theorem AAY {α:Type} (z:List α) (n:Nat):((List.replicate n z).flatten).length=n*z.length:=by
 induction n with
 | zero=>simp
 | succ n ih=>rw[List.replicate_succ,List.flatten_cons,List.length_append,ih,Nat.add_mul];omega
theorem Au1 (inv:Inv F β own H w) {Hm:Hp} (hm:∀k,Hm k=H k∨Hm k= .dead) {t:TypeId} {k e b:Nat} {zero:List V} (ht:elB P t e b (some zero)=true)
 {vn:V} {xn:Value} {n:Int} (hn:VR F β own H w vn xn) (hni:asI vn=some n) {v:V} {u:Gq} (h:UW Hm k e b zero n=some (v,u)):
 Did F β own H w ((do pure (.value (←Instr.makeSlice t xn xn)):Sem Next).run P w) v u:=by
 obtain⟨et,i,z,hu,hi,hz,he,he0,hb,hb0,hzs,h1,hzero⟩:=AqN ht
 obtain⟨kn,rfl⟩:=Abw hn hni
 unfold UW at h
 split at h
 ·rename_i hf
  split at h
  ·rename_i hc
   obtain⟨n0,nb,zl⟩:=hc
   cases h
   have hk:=AbC hm hf
   have hle:n≤2 ^ 40:=by
    have h1:n*1≤n*b:=Int.mul_le_mul_of_nonneg_left (by omega) n0
    omega
   have hr:=run_make (P:=P) w t et i z hu hi hz kn kn n n n0 (Int.le_refl _) (by rw[hb,Int.mul_comm];omega) (by omega)
   have hsz0:(madeCells z.cells (n.toNat*i.size)).size=n.toNat*e:=by rw[size_madeCells,he]
   have hget:∀j,j<n.toNat*e→(madeCells z.cells (n.toNat*i.size))[j]? =z.cells.toList[j % e]? :=by
    intro j hj
    have hmod:j % e<e:=Nat.mod_lt _ he0
    unfold madeCells
    rw[he]
    simp only[Array.getElem?_map,Array.getElem?_range,hj,if_true,Option.map_some]
    rw[hzs,getElem!_pos z.cells (j % e) (by omega),Array.getElem?_toList,Array.getElem?_eq_getElem (by omega)]
   have hlen:(List.replicate n.toNat zero).flatten.length=n.toNat*e:=by rw[AAY,zl]
   have:=AC3 (F:=F) (β:=β) (own:=own) (H:=H) (w:=w) inv (e:=e) (t:=0) (len:=n.toNat) hk (cs:=(List.replicate n.toNat zero).flatten) (ds:=[]) (by simp) (ν:=fun _ p=>p) (fun _ _ h=>h)
    (vs:=(madeCells z.cells (n.toNat*i.size)).toList) (cap:=n.toNat) (obj:=madeCells z.cells (n.toNat*i.size)) (et:=et) (w':=w.alloc (.cells (madeCells z.cells (n.toNat*i.size)) et)) rfl rfl rfl rfl
    (List.take_length) (by
     intro x hx
     obtain⟨j,hj,rfl⟩:=List.mem_iff_getElem.1 hx
     have hj':j<n.toNat*e:=by simpa[hsz0]using hj
     have h2:=hget j hj'
     rw[←Array.getElem?_toList,List.getElem?_eq_getElem hj]at h2
     exact h1 _ (List.mem_of_getElem? h2.symm)) hsz0 hlen (by simp[hsz0,hlen]) ⟨Nat.le_refl _,by omega⟩ (by
     intro j v x hv hx
     have hj:j<n.toNat*e:=by
      have:=(List.getElem?_eq_some_iff.1 hv).1
      omega
     rw[Avh zero n.toNat j (by omega) (by rw[zl];exact hj),zl]at hv
     rw[Array.getElem?_toList,hget j hj]at hx
     exact ANL (ADR (hzero zero rfl) hv hx)) (r:=((do pure (.value (←Instr.makeSlice t (.int kn n) (.int kn n))):Sem Next).run P w)) (by
      simp only[Sem.run_bind,hr,Result.andThen_ok,Sem.run_pure])
   simpa[EY]using this
  ·cases h
 ·cases h
def Rows (w:World) (ad:Option Addr) (vs:List Value):Prop:=vs=[]∨∃b o,ad=some ⟨b,o,none⟩∧Rds w b o vs
theorem AiT {ad:Option Addr} {vs:List Value} {e n c:Nat} (hr:Rows w ad vs) (hl:vs.length=n*e) {w':World} (hh:w'.heap=w.heap):
 (Builtin.firstCells e n (.slice ad n c)).run P w' = .ok vs.toArray w':=by
 cases ad with
 | none=>
  rcases hr with hr | ⟨b,o,h1,_⟩
  ·subst hr;simp[Builtin.firstCells]
  ·cases h1
 | some a=>
  refine run_firstCells_some w' e n a n c vs hl ?_
  intro j v hj
  rcases hr with hr | ⟨b,o,h1,h2⟩
  ·subst hr;simp at hj
  ·cases h1
   rw[Q7]
   have hlt:=(List.getElem?_eq_some_iff.1 hj).1
   have:=h2.2 j hlt
   simp only[World.cell?,hh]at this⊢
   rw[this,hj]
theorem AxO {t t2 ty et:TypeId} {i:TypeInfo} {z:Value} (hu:P.underlying t=some (.slice et)) (hu2:∃e2,P.underlying t2=some (.slice e2)) (hi:P.info? et=some i) (hz:i.zero=some z)
 {ad ad2:Option Addr} {sLen sCap n c2:Nat} {olds news:List Value} (hO:Rows w ad olds) (hol:olds.length=sLen*i.size) (hN:Rows w ad2 news) (hnl:news.length=n*i.size)
 (hb0:0<i.bytes) (hb:(sLen+n)*i.bytes≤2 ^ 40):
 (Builtin.append_ #[t,t2] ty #[.slice ad sLen sCap,.slice ad2 n c2]).run P w=
  if sLen+n≤sCap then(match ad with | some a=>(storeCells (a.add (sLen*i.size)) news).run P w | none=> .ok () w).andThen fun _ w'=> .ok (.slice ad (sLen+n) sCap) w'
  else .ok (.slice (some ⟨w.heap.size,0,none⟩) (sLen+n) (grownCap w (sLen+n) sCap et))
   (w.drew.alloc (.cells (olds.toArray++news.toArray++Builtin.zeroCells z.cells (grownCap w (sLen+n) sCap et-(sLen+n))) et)):=by
 obtain⟨e2,hu2⟩:=hu2
 have hle:sLen+n≤2 ^ 40:=by
  have:(sLen+n)*1≤(sLen+n)*i.bytes:=Nat.mul_le_mul_left _ hb0
  omega
 have hfN:(Builtin.firstCells i.size n (.slice ad2 n c2)).run P w= .ok news.toArray w:=AiT hN hnl rfl
 have hfN':(Builtin.firstCells i.size n (.slice ad2 n c2)).run P w.drew= .ok news.toArray w.drew:=AiT hN hnl rfl
 have hfO':(Builtin.firstCells i.size sLen (.slice ad sLen sCap)).run P w.drew= .ok olds.toArray w.drew:=AiT hO hol rfl
 by_cases hg:sLen+n≤sCap
 ·rw[if_pos hg]
  cases ad with
  | none=>
   simp[Builtin.append_,run_underlying hu,run_underlying hu2,sizeOf,typeInfo,hi,Builtin.lenOf,hg,hfN]
  | some a=>
   simp[Builtin.append_,run_underlying hu,run_underlying hu2,sizeOf,typeInfo,hi,Builtin.lenOf,hg,hfN]
 ·rw[if_neg hg]
  have h63':¬(9223372036854775807<((sLen:Int)+(n:Int))):=by omega
  have h48':¬(281474976710656<Builtin.nextslicecap (sLen+n) sCap*i.bytes):=by
   have:=growslice_fits (need:=sLen+n) (old:=sCap) (bytes:=i.bytes) (by omega) (by omega)
   omega
  simp[Builtin.append_,run_underlying hu,run_underlying hu2,sizeOf,typeInfo,zeroValue,hi,hz,Builtin.lenOf,hg,h63',h48',Question.forced,hfN',hfO',newRow,grownCap]
  congr 2
  apply Array.ext'
  simp[List.append_assoc]
theorem V7 (w:World) (need old:Nat) (et:TypeId):need≤grownCap w need old et:=by
 exact Nat.le_add_right _ _
theorem Ub (w:World) (need old:Nat) (et:TypeId) (h:need≤2 ^ 40):grownCap w need old et≤9223372036854775807:=by
 have:=Nat.mod_lt (w.tape w.drawn (.appendCap need old et)) (show 0<2 ^ 63-need by omega)
 unfold grownCap
 simp only[Question.cut]
 omega
theorem Ahf (inv : Inv F β own H w) {Hm : Hp} (hm : ∀ k, Hm k = H k ∨ Hm k = .dead) {e : Nat} {v : V} {x : Value} (hv : VR F β own H w v x) {t len : Nat} {cs : List V} {ks : List Nat}
    (h : YX Hm e v = some (t, len, cs, ks)) : ∃ ad cap vs, x = .slice ad len cap ∧ cs.length = len * e ∧ vs.length = cs.length ∧ (len ≤ cap ∧ cap ≤ 9223372036854775807) ∧ Rows w ad vs ∧ GY vs ∧
      ((ks = [] ∧ cs = [] ∧ cap = 0 ∧ ad = none) ∨ ∃ k0, ks = [k0] ∧ Al (H k0) = some (e, t, len, cs) ∧ ad = (β k0).a ∧ cap = (β k0).cap ∧
        (cap * e = 0 ∨ ∃ b o, ad = some ⟨b, o, none⟩ ∧ own b = some (k0, []) ∧ Has w b o vs (cap * e)) ∧
        ∀ (i : Nat) (v : V) (x : Value), cs[i]? = some v → vs[i]? = some x → Ow F.Ah w own (F.S w own) t k0 [i] v x) := by
  cases v with
  | nil e0 =>
    simp [YX] at h
    obtain ⟨rfl, rfl, rfl, rfl⟩ := h
    cases hv
    exact ⟨none, 0, [], rfl, by simp, rfl, ⟨Nat.le_refl _, by omega⟩, .inl rfl, by simp [GY], .inl ⟨rfl, rfl, rfl, rfl⟩⟩
  | arr k0 =>
    simp only [YX] at h
    cases hk : Al (Hm k0) with
    | none => simp [hk] at h
    | some r =>
      obtain ⟨e', t', len', cs'⟩ := r
      simp only [hk] at h
      split at h
      · rename_i he; subst he
        cases h
        have hk' := IY hm hk
        obtain ⟨vs, g1, g2, g3, g4, g5⟩ := Nj inv hk'
        refine ⟨_, _, vs, IW hv hk', g2, g1, g3, ?_, ?_, .inr ⟨k0, rfl, hk', rfl, rfl, g4, g5⟩⟩
        · rcases g4 with g4 | ⟨b, o, h1, _, h3⟩
          · left
            have : len * e' ≤ (β k0).cap * e' := Nat.mul_le_mul_right _ g3.1
            exact List.eq_nil_of_length_eq_zero (by omega)
          · exact .inr ⟨b, o, h1, EF h3⟩
        · rcases g4 with g4 | ⟨b, o, h1, _, h3⟩
          · have : len * e' ≤ (β k0).cap * e' := Nat.mul_le_mul_right _ g3.1
            have : vs = [] := List.eq_nil_of_length_eq_zero (by omega)
            subst this; simp [GY]
          · exact h3.1
      · cases h
  | _ => simp [YX] at h
theorem Az5 (inv:Inv F β own H w) {Hm:Hp} (hm:∀k,Hm k=H k∨Hm k= .dead) {e:Nat} {mv:Bool} {v:V} {x:Value} (hv:VR F β own H w v x) {t n:Nat} {c:List V} {ks:List Nat}
 (h:Xh Hm e mv v=some (t,n,c,ks)):∃ad cap vs,x= .slice ad n cap∧c.length=n*e∧vs.length=c.length∧Rows w ad vs∧GY vs∧
  (∀k1,k1∈ks→(Al (Hm k1)).isSome=true)∧
  ((ks=[]∧∀ {own':Nat→Option (Nat×List Nat)} {w':World} {S':Nat→Nat→Prop} {lim k:Nat} {p:List Nat},t≤lim→(∀fl b,1≤fl→F.S w own fl b→S' fl b∧w'.heap[b]? =w.heap[b]?)→
   ∀(i:Nat) (v:V) (x:Value),c[i]? =some v→vs[i]? =some x→Ow F.Ah w' own' S' lim k p v x)∨
   (∃k1,ks=[k1]∧∀(i:Nat) (v:V) (x:Value),c[i]? =some v→vs[i]? =some x→Ow F.Ah w own (F.S w own) t k1 [i] v x)):=by
 have scs:∀ {c:List V} {vs:List Value},c.all Vl=true→Pw (fun v x=>v= .sc x∧x.oneCell' =true) c vs→GY vs∧
  ∀ {own':Nat→Option (Nat×List Nat)} {w':World} {S':Nat→Nat→Prop} {lim k:Nat} {p:List Nat} (i:Nat) (v:V) (x:Value),c[i]? =some v→vs[i]? =some x→Ow F.Ah w' own' S' lim k p v x:=by
  intro c vs hc hp
  refine⟨?_,?_⟩
  ·intro y hy
   obtain⟨i,hi,rfl⟩:=List.mem_iff_getElem.1 hy
   obtain⟨v,hv⟩:∃v,c[i]? =some v:=⟨c[i]'(by rw[←hp.1];exact hi),by simp⟩
   exact(hp.2 i v _ hv (by simp[hi])).2
  ·intro own' w' S' lim k p i v x hv hx
   obtain⟨rfl,h1⟩:=hp.2 i v x hv hx
   exact .sc h1
 cases v with
 | nil e0=>
  simp[Xh]at h
  obtain⟨rfl,rfl,rfl,rfl⟩:=h
  cases hv
  exact⟨none,0,[],rfl,by simp,rfl,.inl rfl,by simp[GY],by simp,.inl ⟨rfl,by simp⟩⟩
 | sl fl e0 n0 c0=>
  cases fl with
  | zero=>simp[Xh]at h
  | succ fl=>
   simp only[Xh]at h
   split at h
   ·rename_i he;subst he
    split at h
    ·rename_i hsc
     cases h
     have hcon:content Hm (.sl (fl+1) e0 n c)=some (e0,n,c.map (Be (fl+1))):=rfl
     have hid:c.map (Be (fl+1))=c:=by
      apply List.ext_getElem?
      intro i
      simp only[List.getElem?_map]
      cases hi:c[i]? with
      | none=>rfl
      | some u=>
       have:=List.all_eq_true.1 hsc u (List.mem_of_getElem? hi)
       cases u<;>simp[Vl]at this
       rfl
     rw[hid]at hcon
     obtain⟨ad,cap,vs,rfl,h1,h2,h3,h4⟩:=YL inv hm hv hcon hsc
     obtain⟨g1,g2⟩:=scs hsc h3
     refine⟨ad,cap,vs,rfl,h1,h3.1,?_,g1,by simp,.inl ⟨rfl,fun _ _ i v x hv hx=>g2 i v x hv hx⟩⟩
     rcases h4 with h4 | h4
     ·left;subst h4;exact h3.PO
     ·exact .inr h4
    ·cases h
     cases hv with
     | rd h1 hr=>
      cases hr with
      | @sl _ _ _ _ ad cap vs hl hw hvl hmm hc=>
       refine⟨ad,cap,vs,rfl,by simpa using hw,by simpa using hvl,?_,?_,by simp,.inl ⟨rfl,?_⟩⟩
       ·rcases hmm with hmm | ⟨b,o,h2,_,h3⟩
        ·left;subst hmm;simpa using hvl
        ·exact .inr ⟨b,o,h2,h3⟩
       ·rcases hmm with hmm | ⟨b,o,h2,_,h3⟩
        ·have:vs=[]:=by subst hmm;simpa using hvl
         subst this;simp[GY]
        ·exact h3.1
       ·intro own' w' S' lim k p hlim hS i v x hv' hx
        simp only[List.getElem?_map,Option.map_eq_some_iff]at hv'
        obtain⟨u,hu,rfl⟩:=hv'
        have h6:=(hc i u x hu hx).flag (fl+1)
        have h7:Rd F.Ah w' (S' (fl+1)) (Be (fl+1) u) x:=h6.move (fun b hb=>(hS _ b h1 hb).1) (fun b hb=>(hS _ b h1 hb).2)
        cases u with
        | sc y=>cases h7;exact .sc ‹_›
        | sl f2 e2 l2 c2=>exact .ro h1 hlim h7
        | rptr f2 c2 o2=>exact .rptr h1 hlim h7
        | nil e2=>exact .ro h1 hlim h7
        | _=>exact .undef
   ·cases h
 | arr k1=>
  simp only[Xh]at h
  cases hk:Al (Hm k1)with
  | none=>simp[hk]at h
  | some r=>
   obtain⟨e',t',n',c'⟩:=r
   simp only[hk]at h
   split at h
   ·rename_i he;subst he
    have hk':=IY hm hk
    obtain⟨vs,g1,g2,g3,g4,g5⟩:=Nj inv hk'
    have hrows:Rows w (β k1).a vs:=by
     rcases g4 with g4 | ⟨b,o,h1,_,h3⟩
     ·left
      have:n'*e'≤(β k1).cap*e':=Nat.mul_le_mul_right _ g3.1
      exact List.eq_nil_of_length_eq_zero (by omega)
     ·exact .inr ⟨b,o,h1,EF h3⟩
    have hones:GY vs:=by
     rcases g4 with g4 | ⟨b,o,h1,_,h3⟩
     ·have:n'*e'≤(β k1).cap*e':=Nat.mul_le_mul_right _ g3.1
      have:vs=[]:=List.eq_nil_of_length_eq_zero (by omega)
      subst this;simp[GY]
     ·exact h3.1
    split at h
    ·cases h
     exact⟨_,_,vs,IW hv hk',g2,g1,hrows,hones,by simp[hk],.inr ⟨k1,rfl,g5⟩⟩
    ·split at h
     ·rename_i hsc
      cases h
      have hpw:Pw (fun v x=>v= .sc x∧x.oneCell' =true) c vs:=by
       refine⟨g1,fun i v x hv hx=> ?_⟩
       have h1:=List.all_eq_true.1 hsc v (List.mem_of_getElem? hv)
       cases v<;>simp[Vl]at h1
       have h2:=g5 i _ x hv hx
       cases h2;exact⟨rfl,‹_›⟩
      exact⟨_,_,vs,IW hv hk',g2,g1,hrows,hones,by simp,.inl ⟨rfl,fun _ _ i v x hv hx=>(scs hsc hpw).2 i v x hv hx⟩⟩
     ·cases h
   ·cases h
 | sub k1 off n0=>
  simp only[Xh]at h
  cases hk:Al (Hm k1)with
  | none=>simp[hk]at h
  | some r=>
   obtain⟨e',t',n',c'⟩:=r
   simp only[hk]at h
   split at h
   ·rename_i he
    obtain⟨rfl,hsc⟩:=he
    cases h
    have hcon:content Hm (.sub k1 off n)=some (e',n,Go.Eng.part c' e' off n):=by simp[content,hk]
    obtain⟨ad,cap,vs,rfl,h1,h2,h3,h4⟩:=YL inv hm hv hcon hsc
    obtain⟨g1,g2⟩:=scs hsc h3
    refine⟨ad,cap,vs,rfl,h1,h3.1,?_,g1,by simp,.inl ⟨rfl,fun _ _ i v x hv hx=>g2 i v x hv hx⟩⟩
    rcases h4 with h4 | h4
    ·left;rw[h4]at h3;exact h3.PO
    ·exact .inr h4
   ·cases h
 | _=>simp[Xh]at h
end
end Go.Eng
