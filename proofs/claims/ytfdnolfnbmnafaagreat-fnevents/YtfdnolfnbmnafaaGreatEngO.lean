/- Own work: part 15 of the proof of FnEvents. -/
import Derived.Test.YtfdnolfnbmnafaaGreatEngN
set_option linter.unusedSimpArgs false
set_option linter.unusedVariables false
namespace Go.Eng
theorem Ayo {α:Type} (vs ys:List α) (off:Nat) (h:off+ys.length≤vs.length):putAt vs off ys=vs.take off++ys++vs.drop (off+ys.length):=by
 have h1:vs=vs.take off++vs.drop off:=(List.take_append_drop off vs).symm
 have h2:(vs.take off).length=off:=by simp;omega
 have h3:=AbD (vs.take off) ys (vs.drop off) (by simp;omega)
 rw[←h1,h2]at h3
 rw[h3]
 simp
section
variable {P:Program} {F:Fr} {β:Nat→Base} {own:Nat→Option (Nat×List Nat)} {H:Hp} {w w':World}
theorem Aka {b o n:Nat} {vs ys:List Value} (h:Has w b o vs n) {off:Nat} (h1:off≤vs.length) (h2:off+ys.length≤n) (hy:GY ys):
 ∃w',(storeCells ⟨b,o+off,none⟩ ys).run P w= .ok () w'∧w'.heap.size=w.heap.size∧w'.os=w.os∧w'.tape=w.tape∧w'.output=w.output∧
  (∀b',b'≠b→w'.heap[b']? =w.heap[b']?)∧Has w' b o (vs.take off++ys++vs.drop (off+ys.length)) n∧
  ∀i,¬(off≤i∧i<off+ys.length)→w'.cell? ⟨b,o+i,none⟩=w.cell? ⟨b,o+i,none⟩:=by
 obtain⟨g1,c,et,g2,g3,g4,g5⟩:=h
 have hr:=run_storeCells_at (P:=P) b (o+off) et ys 0 c w g2 (by omega) (fun v hv=>hy v hv)
 refine⟨_,hr,by simp,rfl,rfl,rfl,fun b' hb'=>setRow_other w b b' _ hb',?_,?_⟩
 rotate_left
 ·intro i hi
  have hA:(c.toList.take (o+off)).length=o+off:=by simp;omega
  simp only[World.cell?,setRow_heap w b c _ et (0,0) g2,g2]
  simp only[Option.isSome_none,Bool.false_eq_true,if_false,Nat.add_zero,List.getElem?_toArray]
  rcases Nat.lt_or_ge i off with hi1 | hi1
  ·rw[List.append_assoc,List.getElem?_append_left (by omega),List.getElem?_take,if_pos (by omega),Array.getElem?_toList]
  ·rw[List.getElem?_append_right (by simp;omega)]
   simp only[List.length_append,hA,List.getElem?_drop]
   rw[show o+off+ys.length+(o+i-(o+off+ys.length))=o+i by omega,Array.getElem?_toList]
 refine⟨?_,_,et,setRow_heap w b c _ et (0,0) g2,?_,?_,?_⟩
 ·intro x hx
  simp only[List.mem_append]at hx
  rcases hx with(hx | hx) | hx
  ·exact g1 x (List.mem_of_mem_take hx)
  ·exact hy x hx
  ·exact g1 x (List.mem_of_mem_drop hx)
 ·simp;omega
 ·simp;omega
 ·intro i hi
  simp only[Nat.add_zero,List.getElem?_toArray]
  have hA:(c.toList.take (o+off)).length=o+off:=by simp;omega
  have hB:(vs.take off).length=off:=by simp;omega
  rcases Nat.lt_or_ge i off with hi1 | hi1
  ·rw[List.append_assoc,List.getElem?_append_left (by omega),List.append_assoc,List.getElem?_append_left (by omega),List.getElem?_take,if_pos (by omega),List.getElem?_take,if_pos hi1,
    Array.getElem?_toList]
   exact g5 i (by omega)
  ·rcases Nat.lt_or_ge i (off+ys.length)with hi2 | hi2
   ·rw[List.append_assoc,List.getElem?_append_right (by omega),hA,List.getElem?_append_left (by omega),List.append_assoc,List.getElem?_append_right (by omega),hB,
     List.getElem?_append_left (by omega),show o+i-(o+off)=i-off by omega]
   ·rw[List.getElem?_append_right (by simp;omega),List.getElem?_append_right (by simp;omega)]
    simp only[List.length_append,hA,hB,List.getElem?_drop]
    rw[show o+off+ys.length+(o+i-(o+off+ys.length))=o+i by omega,show off+ys.length+(i-(off+ys.length))=i by omega,Array.getElem?_toList]
    have:i<vs.length:=by
     simp only[List.length_append,hB,List.length_drop]at hi
     omega
    exact g5 i this
theorem ML {own':Nat→Option (Nat×List Nat)} {S':Nat→Nat→Prop} {t lim k1 k:Nat} {p p':List Nat} {v:V} {x:Value} (h:Ow F.Ah w own (F.S w own) t k1 p v x) (hlim:t≤lim)
 (hlab:∀b q,own b=some (k1,p++q)→own' b=some (k,p'++q)∧w'.heap[b]? =w.heap[b]?)
 (hro:∀fl b,1≤fl→F.S w own fl b→S' fl b∧w'.heap[b]? =w.heap[b]?):Ow F.Ah w' own' S' lim k p' v x:=by
 have hR:∀ {v:V} {x:Value} {fl:Nat},1≤fl→Rd F.Ah w (F.S w own fl) v x→Rd F.Ah w' (S' fl) v x:=
  fun h1 h=>h.move (fun b hb=>(hro _ b h1 hb).1) (fun b hb=>(hro _ b h1 hb).2)
 induction h generalizing p' with
 | sc h1=>exact .sc h1
 | own hl hw hv hm hc ih=>
  refine .own hl hw hv ?_ (fun i v x hv hx=>ih i v x hv hx fun b q hb=> ?_)
  ·rcases hm with hm | ⟨b,o,ha,hb,hr⟩
   ·exact .inl hm
   ·have:=hlab b [] (by simpa using hb)
    exact .inr ⟨b,o,ha,by simpa using this.1,IE hr this.2⟩
  ·have:=hlab b ([i]++q) (by simpa using hb);simpa using this
 | ro h1 h2 h=>exact .ro h1 (Nat.le_trans h2 hlim) (hR h1 h)
 | ptr hv hb hm hc ih=>
  have:=hlab _ [] (by simpa using hb)
  refine .ptr hv (by simpa using this.1) (IE hm this.2) (fun i v x hv hx=>ih i v x hv hx fun b q hb=> ?_)
  have:=hlab b ([i]++q) (by simpa using hb);simpa using this
 | rptr h1 h2 h=>exact .rptr h1 (Nat.le_trans h2 hlim) (hR h1 h)
 | fn h2 h=>exact .fn (Nat.le_trans h2 hlim) (hR (Nat.le_refl 1) h)
 | agg h1 hv hc ih=>
  refine .agg h1 hv (fun i v x hv hx=>ih i v x hv hx fun b q hb=> ?_)
  have:=hlab b ([i]++q) (by simpa using hb);simpa using this
 | tup hv hc ih=>
  refine .tup hv (fun i v x hv hx=>ih i v x hv hx fun b q hb=> ?_)
  have:=hlab b ([i]++q) (by simpa using hb);simpa using this
 | undef=>exact .undef
def shiftν (ks':List Nat) (n0:Nat):Nat→List Nat→List Nat:=fun k1 p=>
 if k1∈ks' then(match p with | i::r=>(n0+i)::r | []=> [])else p
theorem shiftν_ne (ks':List Nat) (n0:Nat) (k1:Nat) (p:List Nat) (hp:p≠ []):shiftν ks' n0 k1 p≠ []:=by
 unfold shiftν
 split
 ·cases p<;>simp_all
 ·exact hp
def Oy (own:Nat→Option (Nat×List Nat)) (k1 lo hi k n0:Nat):Nat→Option (Nat×List Nat):=fun b=>
 match own b with
 | some (j,i::p)=>if j=k1∧lo≤i∧i<hi then some (k,(n0+(i-lo))::p)else some (j,i::p)
 | o=>o
theorem Aej {k1 lo hi k n0 j b:Nat} (h:own b=some (j,[])):Oy own k1 lo hi k n0 b=some (j,[]):=by
 unfold Oy;rw[h]
theorem AF5 {k1 lo hi k n0 j b:Nat} {p:List Nat} (h:own b=some (j,p)) (hj:j≠k1):Oy own k1 lo hi k n0 b=some (j,p):=by
 unfold Oy;rw[h]
 cases p with
 | nil=>rfl
 | cons i p=>simp[hj]
theorem AA9 {k1 lo hi k n0 j b i:Nat} {p:List Nat} (h:own b=some (j,i::p)) (hi':¬(lo≤i∧i<hi)):Oy own k1 lo hi k n0 b=some (j,i::p):=by
 unfold Oy;rw[h]
 simp only
 rw[if_neg (fun h=>hi' h.2)]
theorem AFd {k1 lo hi k n0 b i:Nat} {p:List Nat} (h:own b=some (k1,i::p)) (h1:lo≤i) (h2:i<hi):Oy own k1 lo hi k n0 b=some (k,(n0+(i-lo))::p):=by
 unfold Oy;rw[h]
 simp[h1,h2]
theorem AzF {k1 lo hi k n0 b:Nat} {q:Nat×List Nat} (h:Oy own k1 lo hi k n0 b=some q):own b≠none:=by
 intro h0
 unfold Oy at h
 rw[h0]at h
 cases h
theorem Az0 {k1 lo hi k n0 b:Nat} (h:∀j,own b≠some (j,[])) (j:Nat):Oy own k1 lo hi k n0 b≠some (j,[]):=by
 unfold Oy
 split
 ·split<;>simp
 ·exact h j
theorem ABj {cs:List V} {e off n m:Nat} (h:cs.length=m*e) (hn:off+n≤m):(Ml cs e off n).length=m*e:=by
 have h1:(off+n)*e≤m*e:=Nat.mul_le_mul_right _ hn
 rw[Nat.add_mul]at h1
 unfold Ml
 simp only[List.length_append,List.length_take,List.length_replicate,List.length_drop,h,Nat.add_mul]
 omega
theorem AB5 {cs:List V} {e off n m i:Nat} {v:V} (h:cs.length=m*e) (hn:off+n≤m) (hv:(Ml cs e off n)[i]? =some v):
 v= .undef∨(¬(off*e≤i∧i<(off+n)*e)∧cs[i]? =some v):=by
 have h1:(off+n)*e≤m*e:=Nat.mul_le_mul_right _ hn
 rw[Nat.add_mul]at h1
 have hA:(cs.take (off*e)).length=off*e:=by simp;omega
 unfold Ml at hv
 rcases Nat.lt_or_ge i (off*e)with g | g
 ·rw[List.getElem?_append_left (by omega),List.getElem?_take,if_pos g]at hv
  exact .inr ⟨by omega,hv⟩
 ·rw[List.getElem?_append_right (by omega),hA]at hv
  rcases Nat.lt_or_ge i ((off+n)*e)with g2 | g2
  ·rw[Nat.add_mul]at g2
   rw[List.getElem?_append_left (by simp;omega),List.getElem?_replicate,if_pos (by omega)]at hv
   exact .inl (by simpa using hv.symm)
  ·have g3:=g2
   rw[Nat.add_mul]at g2
   rw[List.getElem?_append_right (by simp;omega)]at hv
   simp only[List.length_replicate,List.getElem?_drop]at hv
   rw[Nat.add_mul,show off*e+n*e+(i-off*e-n*e)=i by omega]at hv
   exact .inr ⟨by omega,hv⟩
theorem Step.part (inv:Inv F β own H w) {k k1 e t m off n n0:Nat} {c:List V} (hk:H k= .free) (hk1:H k1= .arr e t m c):
 Step F β own H w β (Oy own k1 (off*e) ((off+n)*e) k n0) (A7 H [(k1,.arr e t m (Ml c e off n))]) w (fun j=>j=k1∨j=k):=by
 have hne:k≠k1:=fun h=>by rw[h,hk1]at hk;cases hk
 have hu:∀j,A7 H [(k1,.arr e t m (Ml c e off n))] j=if j=k1 then .arr e t m (Ml c e off n)else H j:=fun j=>rfl
 refine⟨Nat.le_refl _,rfl,rfl,rfl,fun _ _ _=>rfl,?_,?_,?_,?_,?_,?_,?_,?_,?_⟩
 ·intro _ b _ hn
  exact⟨rfl,Az0 hn⟩
 ·intro b j p hb hK
  exact AF5 hb (fun h=>hK (.inl h))
 ·intro b p hb
  have:=AzF hb
  cases ho:own b with
  | none=>exact absurd ho this
  | some q=>exact⟨(inv.ownb b q ho).1,fun _=>by simp⟩
 ·intro j hj
  rw[hu,if_neg (fun h=>hj (.inl h))]
  exact⟨rfl,rfl⟩
 ·intro j e' t' len cs hj hH
  rcases hj with hj | hj
  ·subst hj
   rw[hk1]at hH
   cases hH
   right
   rw[hu,if_pos rfl]
   exact⟨rfl,_,_,rfl⟩
  ·subst hj;rw[hk]at hH;simp[Al]at hH
 ·intro j cs hj hH
  rcases hj with hj | hj
  ·subst hj;rw[hk1]at hH;cases hH
  ·subst hj;rw[hk]at hH;cases hH
 ·intro j hj hH
  rcases hj with hj | hj
  ·subst hj;rw[hk1]at hH;cases hH
  ·subst hj;rw[hk]at hH;cases hH
 ·intro j hj hH
  rcases hj with hj | hj
  ·subst hj;rw[hu,if_pos rfl];simp
  ·subst hj;exact absurd hk hH
 ·intro s j off' e' t' len cs hs hH hj ha
  rcases hj with hj | hj
  ·subst hj
   refine⟨by rw[hk1];rfl,fun b o h1 h2=>⟨Aej h2,rfl⟩⟩
  ·subst hj
   have:=inv.objs s
   rw[hH]at this
   exact absurd hk this.2.2.1.2
theorem AIz (inv:Inv F β own H w) {k k1 e t m off n n0:Nat} {c:List V} (hk:H k= .free) (hk1:H k1= .arr e t m c) (hn:off+n≤m):
 Inv F β (Oy own k1 (off*e) ((off+n)*e) k n0) (A7 H [(k1,.arr e t m (Ml c e off n))]) w:=by
 have hne:k≠k1:=fun h=>by rw[h,hk1]at hk;cases hk
 have st:=Step.part (F:=F) inv (off:=off) (n:=n) (n0:=n0) hk hk1
 have hu:∀j,A7 H [(k1,.arr e t m (Ml c e off n))] j=if j=k1 then .arr e t m (Ml c e off n)else H j:=fun j=>rfl
 refine st.inv inv ?_ ?_
 ·intro j hj
  rcases hj with hj | hj
  ·subst hj
   rw[hu,if_pos rfl]
   have h0:=inv.objs j
   rw[hk1]at h0
   obtain⟨vs,g1,g2,g3,g4,g5⟩:=h0
   have hl:=ABj (off:=off) (n:=n) g2 hn
   refine⟨vs,by rw[g1,g2,hl],hl,g3,?_,?_⟩
   ·rcases g4 with g4 | ⟨b,o,a1,a2,a3⟩
    ·exact .inl g4
    ·exact .inr ⟨b,o,a1,Aej a2,a3⟩
   ·intro i v x hv hx
    rcases AB5 g2 hn hv with rfl | ⟨hi,hv'⟩
    ·exact .undef
    ·exact ML (g5 i v x hv' hx) (Nat.le_refl _) (fun b q hb=>⟨AA9 hb hi,rfl⟩) (fun fl b h1 h2=>st.sS inv fl b h1 h2)
  ·subst hj
   rw[hu,if_neg hne,hk]
   trivial
 ·intro j hj _ _
  refine⟨rfl,?_⟩
  rcases hj with hj | hj
  ·subst hj;rw[hk1];simp
  ·subst hj;rw[hk];simp
theorem Did.pre {β1:Nat→Base} {own1:Nat→Option (Nat×List Nat)} {u1 u:Gq} {r:Result Next} {v:V} (hv:∀z y,VR F β own H w z y→VR F β1 own1 (A7 H u1) w z y)
 (h:Did F β1 own1 (A7 H u1) w r v u):Did F β own H w r v (u1++u):=by
 have e:A7 (A7 H u1) u=A7 H (u1++u):=by
  clear h hv
  induction u1 generalizing H with
  | nil=>rfl
  | cons p u1 ih=>exact ih
 obtain⟨x,w',β',own',h1,h2,h3,h4⟩:=h
 rw[e]at h2 h3 h4
 exact⟨x,w',β',own',h1,fun z y hz=>h2 z y (hv z y hz),h3,h4⟩
theorem Ako (inv:Inv F β own H w) {t t2 ty:TypeId} {k e b:Nat} (ht:elB P t e b none=true) (ht2:slB P t2 e=true) (hk:H k= .free)
 {t1 t2' len n cap cap2:Nat} {ad ad2:Option Addr} {cs c:List V} {vs vs2:List Value} {ks ks':List Nat} (hbound:(len+n)*b≤2 ^ 40)
 (b1:cs.length=len*e) (b2:vs.length=cs.length) (b3:len≤cap∧cap≤9223372036854775807) (b4:Rows w ad vs) (b5:GY vs)
 (b6:(ks=[]∧cs=[]∧cap=0∧ad=none)∨∃k0,ks=[k0]∧Al (H k0)=some (e,t1,len,cs)∧ad=(β k0).a∧cap=(β k0).cap∧
  (cap*e=0∨∃b o,ad=some ⟨b,o,none⟩∧own b=some (k0,[])∧Has w b o vs (cap*e))∧
  ∀(i:Nat) (v:V) (x:Value),cs[i]? =some v→vs[i]? =some x→Ow F.Ah w own (F.S w own) t1 k0 [i] v x)
 (s1:c.length=n*e) (s2:vs2.length=c.length) (s4:Rows w ad2 vs2) (s5:GY vs2) (s6:∀k1,k1∈ks'→(Al (H k1)).isSome=true) (hkk:∀k1,k1∈ks→k1∉ks')
 (s7:(ks' =[]∧∀ {own':Nat→Option (Nat×List Nat)} {w':World} {S':Nat→Nat→Prop} {lim k:Nat} {p:List Nat},t2'≤lim→(∀fl b,1≤fl→F.S w own fl b→S' fl b∧w'.heap[b]? =w.heap[b]?)→
  ∀(i:Nat) (v:V) (x:Value),c[i]? =some v→vs2[i]? =some x→Ow F.Ah w' own' S' lim k p v x)∨
  (∃k1,ks' =[k1]∧∀(i:Nat) (v:V) (x:Value),c[i]? =some v→vs2[i]? =some x→Ow F.Ah w own (F.S w own) t2' k1 [i] v x)∨
  (ks' =[]∧∀(i:Nat) (v:V) (x:Value),c[i]? =some v→vs2[i]? =some x→Ow F.Ah w own (F.S w own) t2' k [cs.length+i] v x)):
 Did F β own H w ((do pure (.value (←Builtin.append_ #[t,t2] ty #[.slice ad len cap,.slice ad2 n cap2])):Sem Next).run P w) (.arr k) (EY (ks++ks')++ [(k,.arr e (max t1 t2') (len+n) (cs++c))]):=by
 obtain⟨et,i,z,hu,hi,hz,he,he0,hbb,hb0,hzs,hz1,_⟩:=AqN ht
 obtain⟨et2,hu2,_,_⟩:=Xy ht2
 have hrun:=AxO (P:=P) (w:=w) (ty:=ty) hu ⟨et2,hu2⟩ hi hz (ad:=ad) (ad2:=ad2) (sLen:=len) (sCap:=cap) (n:=n) (c2:=cap2) (olds:=vs) (news:=vs2) b4 (by rw[b2,b1,he]) s4
  (by rw[s2,s1,he]) (by omega) (by rw[hbb];exact hbound)
 have hd:∀j,j∈ks++ks'→(Al (H j)).isSome=true:=by
  intro j hj
  rcases List.mem_append.1 hj with hj | hj
  ·rcases b6 with⟨h1,_⟩ | ⟨k0,h1,h2,_⟩
   ·subst h1;simp at hj
   ·subst h1;simp at hj;subst hj;rw[h2];rfl
  ·exact s6 j hj
 have hdk:k∉ks++ks':=fun hh=>by have:=hd k hh;rw[hk]at this;simp[Al]at this
 have cells:∀(own':Nat→Option (Nat×List Nat)) (w':World),(∀bl k1 p,own bl=some (k1,p)→k1∈ks++ks'→own' bl=some (k,shiftν ks' cs.length k1 p))→
  (∀bl k1 p,own bl=some (k1,p)→k1∈ks++ks'→p≠ []→w'.heap[bl]? =w.heap[bl]?)→(∀bl k1,own bl=some (k1,[])→k1∈ks'→w'.heap[bl]? =w.heap[bl]?)→
  (∀fl bl,1≤fl→F.S w own fl bl→F.S w' own' fl bl∧w'.heap[bl]? =w.heap[bl]?)→
  (∀bl p,own bl=some (k,p)→p≠ []→own' bl=some (k,p)∧w'.heap[bl]? =w.heap[bl]?)→
  ∀(j:Nat) (v:V) (x:Value),(cs++c)[j]? =some v→(vs++vs2)[j]? =some x→Ow F.Ah w' own' (F.S w' own') (max t1 t2') k [j] v x:=by
  intro own' w' hl hw1 hw2 hro hkp j v x hv hx
  rcases Nat.lt_or_ge j cs.length with hj | hj
  ·rw[List.getElem?_append_left (by omega)]at hv hx
   rcases b6 with⟨_,h2,_⟩ | ⟨k0,h1,h2,_,_,_,h6⟩
   ·subst h2;simp at hj
   ·subst h1
    refine ML (h6 j v x hv hx) (Nat.le_max_left _ _) (fun bl q hbl=> ?_) hro
    have:=hl bl k0 ([j]++q) hbl (by simp)
    refine⟨?_,hw1 bl k0 ([j]++q) hbl (by simp) (by simp)⟩
    rw[this]
    unfold shiftν
    rw[if_neg (hkk k0 (by simp))]
  ·rw[List.getElem?_append_right (by omega)]at hv hx
   rw[b2]at hx
   rcases s7 with⟨_,h2⟩ | ⟨k1,h1,h2⟩ | ⟨_,h2⟩
   ·exact h2 (Nat.le_max_right _ _) hro (j-cs.length) v x hv hx
   ·subst h1
    refine ML (h2 _ v x hv hx) (Nat.le_max_right _ _) (fun bl q hbl=> ?_) hro
    have:=hl bl k1 ([j-cs.length]++q) hbl (by simp)
    refine⟨?_,hw1 bl k1 ([j-cs.length]++q) hbl (by simp) (by simp)⟩
    rw[this]
    unfold shiftν
    rw[if_pos (by simp)]
    simp
    omega
   ·have h3:=h2 _ v x hv hx
    rw[show cs.length+(j-cs.length)=j by omega]at h3
    exact ML h3 (Nat.le_max_right _ _) (fun bl q hbl=>hkp bl ([j]++q) hbl (by simp)) hro
 have hcl:(cs++c).length=(len+n)*e:=by simp[b1,s1,Nat.add_mul]
 have hvl:(vs++vs2).length=(cs++c).length:=by simp[b2,s2]
 have hones:GY (vs++vs2):=by
  intro x hx
  rcases List.mem_append.1 hx with hx | hx
  ·exact b5 x hx
  ·exact s5 x hx
 by_cases hg:len+n≤cap
 ·
  rw[if_pos hg]at hrun
  have base:∀(w':World),w'.heap.size=w.heap.size→w'.os=w.os→w'.tape=w.tape→w'.output=w.output→
   (∀bl,bl<w.heap.size→(∀k1,k1∈ks++ks'→own bl≠some (k1,[]))→w'.heap[bl]? =w.heap[bl]?)→
   (∀bl k1,own bl=some (k1,[])→k1∈ks'→w'.heap[bl]? =w.heap[bl]?)→
   (cap*e=0∨∃bl o,ad=some ⟨bl,o,none⟩∧(∃k0,k0∈ks∧own bl=some (k0,[]))∧Has w' bl o (vs++vs2) (cap*e))→
   (Builtin.append_ #[t,t2] ty #[.slice ad len cap,.slice ad2 n cap2]).run P w= .ok (.slice ad (len+n) cap) w'→
   Did F β own H w ((do pure (.value (←Builtin.append_ #[t,t2] ty #[.slice ad len cap,.slice ad2 n cap2])):Sem Next).run P w) (.arr k) (EY (ks++ks')++ [(k,.arr e (max t1 t2') (len+n) (cs++c))]):=by
   intro w' q1 q2 q3 q4 q5 q6 q7 q8
   have st:=Step.gen (w':=w') inv hk (new:=none) (by simp) (by omega) q2 q3 q4 hd q5 (shiftν_ne ks' cs.length) (.arr e (max t1 t2') (len+n) (cs++c)) ⟨ad,cap⟩
   have hlab:∀bl k1 p,own bl=some (k1,p)→k1∈ks++ks'→Eo own none (ks++ks') k (shiftν ks' cs.length) bl=some (k,shiftν ks' cs.length k1 p):=by
    intro bl k1 p h1 h2
    unfold Eo
    rw[if_neg (by simp),h1]
    simp only
    rw[if_pos h2]
   have hcells:=cells (Eo own none (ks++ks') k (shiftν ks' cs.length)) w' hlab
    (fun bl k1 p h1 h2 h3=>q5 bl (inv.ownb bl _ h1).1 (fun k2 _ h5=>by rw[h1]at h5;cases h5;exact h3 rfl)) q6 (fun fl bl h1 h2=>st.sS inv fl bl h1 h2) (fun bl p h1 h2=>⟨by unfold Eo;rw[if_neg (by simp),h1];simp only;rw[if_neg hdk],q5 bl (inv.ownb bl _ h1).1 (fun k2 _ h5=>by rw[h1]at h5;cases h5;exact h2 rfl)⟩)
   have hor:=Aay (F:=F) (w':=w') (β':=fun j=>if j=k then⟨ad,cap⟩else β j) (own':=Eo own none (ks++ks') k (shiftν ks' cs.length)) hk hd
    (o:= .arr e (max t1 t2') (len+n) (cs++c)) (by
    refine⟨vs++vs2,hvl,hcl,by simpa using And.intro hg b3.2,?_,hcells⟩
    simp only[if_true]
    rcases q7 with q7 | ⟨bl,o,r1,⟨k0,r2,r3⟩,r4⟩
    ·exact .inl q7
    ·refine .inr ⟨bl,o,r1,?_,r4⟩
     rw[hlab bl k0 [] r3 (by simp[r2])]
     unfold shiftν
     rw[if_neg (hkk k0 r2)])
   refine⟨.slice ad (len+n) cap,w',_,_,.inl (by simp only[Sem.run_bind,q8,Result.andThen_ok,Sem.run_pure]),fun _ _ h=>st.vr inv h,st.inv inv hor (Ajh inv hk hd _ _),?_⟩
   have:=VR.arr (F:=F) (β:=fun j=>if j=k then⟨ad,cap⟩else β j) (own:=Eo own none (ks++ks') k (shiftν ks' cs.length))
    (H:=A7 H (EY (ks++ks')++ [(k,.arr e (max t1 t2') (len+n) (cs++c))])) (w:=w') (k:=k) (e:=e) (t:=max t1 t2') (len:=len+n) (cs:=cs++c) (by rw[IG];simp[Al])
   simpa using this
  have hcase:(cap*e=0)∨∃bl o k0,ad=some ⟨bl,o,none⟩∧ks=[k0]∧own bl=some (k0,[])∧Has w bl o vs (cap*e):=by
   rcases b6 with⟨_,_,h3,_⟩ | ⟨k0,h1,_,_,_,h5,_⟩
   ·left;simp[h3]
   ·rcases h5 with h5 | ⟨bl,o,g1,g2,g3⟩
    ·exact .inl h5
    ·exact .inr ⟨bl,o,k0,g1,h1,g2,g3⟩
  rcases hcase with hc0 | ⟨bl,o,k0,rfl,hks,hown,hhas⟩
  ·have hn0:n=0:=by
    have h1:(len+n)*e≤cap*e:=Nat.mul_le_mul_right _ hg
    have h2:(len+n)*e=0:=by omega
    rcases Nat.mul_eq_zero.1 h2 with h3 | h3<;>omega
   have hvs2:vs2=[]:=List.eq_nil_of_length_eq_zero (by rw[s2,s1,hn0];simp)
   refine base w rfl rfl rfl rfl (fun _ _ _=>rfl) (fun _ _ _ _=>rfl) (.inl hc0) ?_
   rw[hrun]
   subst hvs2
   cases ad with
   | none=>rfl
   | some ad=>simp[storeCells]
  ·obtain⟨w',r1,r2,r3,r4,r5,r6,r7,_⟩:=Aka (P:=P) hhas (off:=vs.length) (ys:=vs2) (Nat.le_refl _) (by
    have h1:(len+n)*e≤cap*e:=Nat.mul_le_mul_right _ hg
    rw[Nat.add_mul]at h1
    omega) s5
   refine base w' r2 r3 r4 r5 (fun bl' _ hn=>r6 bl' (fun hh=>hn k0 (by simp[hks]) (hh▸hown))) (fun bl' k1 h1 h2=>r6 bl' (fun hh=> ?_)) (.inr ⟨bl,o,rfl,⟨k0,by simp[hks],hown⟩,?_⟩) ?_
   ·subst hh
    rw[hown]at h1
    cases h1
    exact hkk k0 (by simp[hks]) h2
   ·rw[List.drop_eq_nil_of_le (by omega)]at r7;simpa using r7
   ·rw[hrun]
    simp only[Q7]
    rw[show len*i.size=vs.length by rw[b2,b1,he],r1]
    rfl
 ·
  rw[if_neg hg]at hrun
  have hcap:=And.intro (V7 w (len+n) cap et) (Ub w (len+n) cap et (by
   have:(len+n)*1≤(len+n)*b:=Nat.mul_le_mul_left _ (by omega)
   omega))
  generalize grownCap w (len+n) cap et=cap' at hrun hcap
  have hzc:(Builtin.zeroCells z.cells (cap'-(len+n))).size=(cap'-(len+n))*e:=by simp[Builtin.zeroCells,hzs]
  have hobj:(vs.toArray++vs2.toArray++Builtin.zeroCells z.cells (cap'-(len+n))).size=cap'*e:=by
   rw[Array.size_append,Array.size_append,hzc]
   have h1:vs.toArray.size+vs2.toArray.size=(len+n)*e:=by
    have:=hvl
    rw[hcl,List.length_append]at this
    simpa using this
   rw[h1,←Nat.add_mul]
   congr 1
   omega
  have hnew:∀(w2:World),w2=w.drew.alloc (.cells (vs.toArray++vs2.toArray++Builtin.zeroCells z.cells (cap'-(len+n))) et)→
   Did F β own H w ((do pure (.value (←Builtin.append_ #[t,t2] ty #[.slice ad len cap,.slice ad2 n cap2])):Sem Next).run P w) (.arr k) (EY (ks++ks')++ [(k,.arr e (max t1 t2') (len+n) (cs++c))]):=by
   intro w2 hw2
   have hh2:w2.heap=w.heap.push (.cells (vs.toArray++vs2.toArray++Builtin.zeroCells z.cells (cap'-(len+n))) et):=by rw[hw2];rfl
   have st:=Step.new (w':=w2) inv hk hh2 (by rw[hw2];rfl) (by rw[hw2];rfl) (by rw[hw2];rfl) hd (shiftν_ne ks' cs.length) (.arr e (max t1 t2') (len+n) (cs++c)) ⟨some ⟨w.heap.size,0,none⟩,cap'⟩
   have hold:∀bl,bl<w.heap.size→w2.heap[bl]? =w.heap[bl]? :=fun bl hb=>by rw[hh2,Array.getElem?_push,if_neg (by omega)]
   refine AC3 (F:=F) inv (e:=e) (t:=max t1 t2') (len:=len+n) hk hd (shiftν_ne ks' cs.length) (vs:=vs++vs2) (cap:=cap') (obj:=vs.toArray++vs2.toArray++Builtin.zeroCells z.cells (cap'-(len+n))) (et:=et)
    (w':=w2) hh2 (by rw[hw2];rfl) (by rw[hw2];rfl) (by rw[hw2];rfl) ?_ hones hobj hcl hvl hcap ?_ ?_
   ·simp only[Array.toList_append]
    rw[List.take_left']
    rfl
   ·refine cells (Eo own (some w.heap.size) (ks++ks') k (shiftν ks' cs.length)) w2 ?_ (fun bl k1 p h1 _ _=>hold bl (inv.ownb bl _ h1).1) (fun bl k1 h1 _=>hold bl (inv.ownb bl _ h1).1)
     (fun fl bl h1 h2=>st.sS inv fl bl h1 h2) (fun bl p h1 h2=>⟨by unfold Eo;rw[if_neg (by have:=(inv.ownb bl _ h1).1;simp;omega),h1];simp only;rw[if_neg hdk],hold bl (inv.ownb bl _ h1).1⟩)
    intro bl k1 p h1 h2
    unfold Eo
    rw[if_neg (by have:=(inv.ownb bl _ h1).1;simp;omega),h1]
    simp only
    rw[if_pos h2]
   ·simp only[Sem.run_bind,hrun,Result.andThen_ok,Sem.run_pure,←hw2]
  exact hnew _ rfl
theorem AFE (inv:Inv F β own H w) {Hm:Hp} (hm:∀k,Hm k=H k∨Hm k= .dead) {t t2 ty:TypeId} {k e b:Nat} {mv:Bool} (ht:elB P t e b none=true) (ht2:slB P t2 e=true)
 {va vb:V} {a y:Value} (ha:VR F β own H w va a) (hb:VR F β own H w vb y) {v:V} {u:Gq} (h:Anw Hm k e b mv va vb=some (v,u)):
 Did F β own H w ((do pure (.value (←Builtin.append_ #[t,t2] ty #[a,y])):Sem Next).run P w) v u:=by
 obtain⟨et,i,z,hu,hi,hz,he,he0,hbb,hb0,hzs,hz1,_⟩:=AqN ht
 obtain⟨et2,hu2,_,_⟩:=Xy ht2
 unfold Anw at h
 split at h
 ·rename_i hf
  have hk:=AbC hm hf
  cases hB:YX Hm e va with
  | none=>simp[hB]at h
  | some p1=>
   obtain⟨t1,len,cs,ks⟩:=p1
   simp only[hB]at h
   cases hQ:(if mv then AbR (Dp ks Hm) e vb else none)with
   | some p3=>
    obtain⟨t2',n,c,k1,o1⟩:=p3
    simp only[hQ]at h
    have hQ':AbR (Dp ks Hm) e vb=some (t2',n,c,k1,o1):=by
     cases mv with
     | true=>simpa using hQ
     | false=>simp at hQ
    split at h
    ·rename_i hbound
     cases h
     cases vb with
     | sub k1' off n'=>
      simp only[AbR]at hQ'
      cases hK:Dp ks Hm k1' with
      | arr e' t' m c'=>
       simp only[hK]at hQ'
       split at hQ'
       ·rename_i hc
        obtain⟨rfl,hle⟩:=hc
        cases hQ'
        have hal:Al (Dp ks Hm k1)=some (e',t2',m,c'):=by rw[hK];rfl
        have hnk:=(K5 hal).1
        have hm1:Hm k1= .arr e' t2' m c':=by
         unfold Dp at hK
         split at hK
         ·cases hK
         ·exact hK
        have hk1:H k1= .arr e' t2' m c':=by
         rcases hm k1 with g | g
         ·rw[←g];exact hm1
         ·rw[g]at hm1;cases hm1
        have hne:k≠k1:=fun h=>by rw[h,hk1]at hk;cases hk
        obtain⟨ad,cap,vs,rfl,b1,b2,b3,b4,b5,b6⟩:=Ahf inv hm ha hB
        obtain⟨hn,a',rfl,hx1,hx2⟩:=QW hb (by rw[hk1];rfl:Al (H k1)=some (e',t2',m,c'))
        have h0:=inv.objs k1
        rw[hk1]at h0
        obtain⟨vs1,g1,g2,g3,g4,g5⟩:=h0
        have hpl:(Go.Eng.part c' e' off n).length=n*e':=Va c' e' off n m g2 hle
        have hpl2:((vs1.drop (off*e')).take (n*e')).length=n*e':=by
         have:=Va vs1 e' off n m (by rw[g1,g2]) hle
         exact this
        have st:=Step.part (F:=F) inv (off:=off) (n:=n) (n0:=cs.length) hk hk1
        have inv1:=AIz (F:=F) inv (off:=off) (n:=n) (n0:=cs.length) hk hk1 hle
        have hu:∀j,A7 H [(k1,.arr e' t2' m (Ml c' e' off n))] j=if j=k1 then .arr e' t2' m (Ml c' e' off n)else H j:=fun j=>rfl
        refine Did.pre (u1:=[(k1,.arr e' t2' m (Ml c' e' off n))]) (fun z y hz=>st.vr inv hz) ?_
        have hcell:∀(i:Nat) (v:V) (x:Value),(Go.Eng.part c' e' off n)[i]? =some v→((vs1.drop (off*e')).take (n*e'))[i]? =some x→
         i<n*e'∧c'[off*e'+i]? =some v∧vs1[off*e'+i]? =some x:=by
         intro i v x hv hx
         have hi:i<n*e':=by
          have:=(List.getElem?_eq_some_iff.1 hx).1
          omega
         unfold Go.Eng.part at hv
         rw[List.getElem?_take,if_pos hi,List.getElem?_drop]at hv hx
         exact⟨hi,hv,hx⟩
        have hones:GY vs1:=by
         rcases g4 with g4 | ⟨b,o,h1,_,h3⟩
         ·have:m*e'≤(β k1).cap*e':=Nat.mul_le_mul_right _ g3.1
          have:vs1=[]:=List.eq_nil_of_length_eq_zero (by omega)
          subst this;simp[GY]
         ·exact h3.1
        have:=Ako (ty:=ty) (P:=P) inv1 ht ht2 (k:=k) (by rw[hu,if_neg hne];exact hk) (t1:=t1) (t2':=t2') (len:=len) (n:=n) (cap:=cap) (ad:=ad) (cs:=cs) (c:=Go.Eng.part c' e' off n)
         (vs:=vs) (vs2:=(vs1.drop (off*e')).take (n*e')) (ks:=ks) (ks':=[]) (ad2:=a') (cap2:=(β k1).cap-off) hbound b1 b2 b3 b4 b5 ?_ hpl (by rw[hpl2,hpl]) ?_ ?_ (by simp) (by simp) (.inr (.inr ⟨rfl,?_⟩))
        ·simpa using this
        ·rcases b6 with h | ⟨k0,h1,h2,h3,h4,h5,h6⟩
         ·exact .inl h
         ·have hk0:k0≠k1:=fun h=>hnk (by rw[h1,←h];simp)
          have hk0':¬(k0=k1∨k0=k):=by
           rintro (h | h)
           ·exact hk0 h
           ·rw[h,hk]at h2;simp[Al]at h2
          refine .inr ⟨k0,h1,by rw[hu,if_neg hk0];exact h2,h3,h4,?_,fun i v x hv hx=>st.ow inv hk0' (h6 i v x hv hx)⟩
          rcases h5 with h5 | ⟨b,o,r1,r2,r3⟩
          ·exact .inl h5
          ·exact .inr ⟨b,o,r1,Aej r2,r3⟩
        ·rcases Nat.eq_zero_or_pos (n*e')with h0 | h0
         ·left
          exact List.eq_nil_of_length_eq_zero (by omega)
         ·rcases g4 with g4 | ⟨b,o,h1,_,h3⟩
          ·have:m*e'≤(β k1).cap*e':=Nat.mul_le_mul_right _ g3.1
           have h2:(off+n)*e'≤m*e':=Nat.mul_le_mul_right _ hle
           rw[Nat.add_mul]at h2
           omega
          ·right
           have hn0:0<n:=Nat.pos_of_mul_pos_right h0
           rcases hx2 with hx2 | hx2
           ·omega
           ·refine⟨b,o+off*e',by rw[hx2,h1];simp[Q7],AnO (EF h3)⟩
        ·intro x hx
         exact hones x (List.mem_of_mem_drop (List.mem_of_mem_take hx))
        ·intro i v x hv hx
         obtain⟨hi,hv',hx'⟩:=hcell i v x hv hx
         refine ML (g5 _ v x hv' hx') (Nat.le_refl _) (fun b q hb=>⟨?_,rfl⟩) (fun fl b h1 h2=>st.sS inv fl b h1 h2)
         have:=AFd (k:=k) (n0:=cs.length) hb (show off*e'≤off*e'+i by omega) (show off*e'+i<(off+n)*e' by rw[Nat.add_mul];omega)
         rw[show cs.length+(off*e'+i-off*e')=cs.length+i by omega]at this
         exact this
       ·cases hQ'
      | _=>simp[hK]at hQ'
     | _=>simp[AbR]at hQ'
    ·cases h
   | none=>
    simp only[hQ]at h
    cases hS:Xh (Dp ks Hm) e mv vb with
    | none=>simp[hS]at h
    | some p2=>
     obtain⟨t2',n,c,ks'⟩:=p2
     simp only[hS]at h
     split at h
     ·rename_i hbound
      cases h
      obtain⟨ad,cap,vs,rfl,b1,b2,b3,b4,b5,b6⟩:=Ahf inv hm ha hB
      obtain⟨ad2,cap2,vs2,rfl,s1,s2,s4,s5,s6,s7⟩:=Az5 inv (YI hm ks) hb hS
      have hkk:∀k1,k1∈ks→k1∉ks':=by
       intro k1 h1 h2
       obtain⟨r,hr⟩:=Option.isSome_iff_exists.1 (s6 k1 h2)
       exact(K5 hr).1 h1
      refine Ako inv ht ht2 hk hbound b1 b2 b3 b4 b5 b6 s1 s2 s4 s5 (fun k1 h1=> ?_) hkk ?_
      ·obtain⟨r,hr⟩:=Option.isSome_iff_exists.1 (s6 k1 h1)
       rw[IY hm (K5 hr).2];rfl
      ·rcases s7 with h | h
       ·exact .inl h
       ·exact .inr (.inl h)
     ·cases h
 ·cases h
end
end Go.Eng
