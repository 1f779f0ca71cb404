/- Own work: part 18 of the proof of FnConsole. -/
import Derived.Test.YtogmkdgkgfhhoaaGreatDoorCP13
import Derived.Test.YtogmkdgkgfhhoaaGreatDoorCP14
import Derived.Test.YtogmkdgkgfhhoaaGreatDoorCP16
import Derived.Test.YtogmkdgkgfhhoaaGreatDoorCEngAQ
set_option linter.unusedSimpArgs false
set_option linter.unusedVariables false
namespace Go.Eng.T
set_option maxRecDepth 20000
set_option maxHeartbeats 1000000
structure QM where
 bs:List Int
 i:Nat
 h:Int
def u8s (bs:List Int):List V:=bs.map fun b=> .sc (.int .u8 b)
abbrev AL (c:QM):List V:=[.sl 3 1 c.bs.length (u8s c.bs),.sc (.int .i64 c.i),.sc (.int .i64 c.h)]
def Dw (c:QM):Prop:=c.bs.length<=1048576/\(∀b,b∈c.bs->0<=b/\b<=255)/\c.i<=c.bs.length
def JA (R:Rel) (args:List V) (c:QM) {α:Type} (P:α->Prop) (res:α->V):Prop:=∃a c',P a/\Dw c'/\R (.ptr 0 0::args) [.var (AL c)] (res a) [.var (AL c')]
theorem EJ {D:Dn} {f:Cm} {args:List V} {c:QM} {α:Type} {P:α->Prop} {res:α->V} (h:∀Q:V->List O->Prop,(∀a c',P a->Dw c'->Q (res a) [.var (AL c')])->Aju D f (.ptr 0 0::args) [.var (AL c)] Q):
 JA (Body D f) args c P res:=by
 obtain⟨v,o,⟨a,c',h1,h2,rfl,rfl⟩,h3⟩:=Afh (P:=fun v o=>∃a c',P a/\Dw c'/\v=res a/\o=[.var (AL c')]) (fun Q hQ=>h Q (fun a c' h1 h2=>hQ _ _ ⟨a,c',h1,h2,rfl,rfl⟩))
 exact⟨a,c',h1,h2,h3⟩
@[simp high] theorem Asv {bs:List Int} {j:Nat} (h:j<bs.length):(u8s bs)[j]? =some (.sc (.int .u8 bs[j])):=by simp[u8s,h]
@[simp high] theorem Asa (bs:List Int):(u8s bs).length=bs.length:=by simp[u8s]
@[simp] theorem Asw (bs:List Int) (fl:Nat):(u8s bs).map (AO fl)=u8s bs:=by simp[u8s,AO]
variable (R:Rel)
abbrev ZC:Prop:=∀c:QM,Dw c->JA R [] c (fun x:Int=>0<=x/\x<=255) (fun x=>I x)
theorem Amq (n:Nat):∃x:Nat,x<=255/\IntKind.i64.wrap ((n&&&255 % 2 ^ IntKind.i64.bits:Nat):Int)=x:=by
 have e:(255 % 2 ^ IntKind.i64.bits:Nat)=255:=by decide
 rw[e]
 have h:n&&&255<=255:=Nat.and_le_right
 exact⟨n&&&255,h,Ad (by omega) (by omega)⟩
variable (D:Dn)
theorem AnR:ZC (Body D Lr):=by
 intro c hc
 refine EJ (fun Q hQ=> ?_)
 have h1:=hc.1
 by_cases h:c.i<c.bs.length
 ·have hw:IntKind.i64.wrap ((c.i:Int)+1)=(c.i+1:Nat):=by rw[Ad (by omega) (by omega)];simp
  simp -implicitDefEqProofs [h,Cu,Ab]
  generalize IntKind.i64.wrap (IntKind.i64.wrap (c.h*6364136223846793005)+1442695040888963407)=h'
  generalize Int.toNat _=n1
  obtain⟨x,hx,e⟩:=Amq n1
  rw[e,hw]
  exact hQ x ⟨c.bs,c.i+1,h'⟩ ⟨by omega,by omega⟩ ⟨hc.1,hc.2.1,h⟩
 ·simp -implicitDefEqProofs [h,Cu,Ab]
  generalize IntKind.i64.wrap (IntKind.i64.wrap (c.h*6364136223846793005)+1442695040888963407)=h'
  generalize Int.toNat _=n1
  obtain⟨x,hx,e⟩:=Amq n1
  rw[e]
  exact hQ x ⟨c.bs,c.i,h'⟩ ⟨by omega,by omega⟩ ⟨hc.1,hc.2.1,hc.2.2⟩
abbrev CB:Prop:=∀(c:QM) (n:Int),Dw c->n<=1000000000->JA R [I n] c (fun x:Int=>0<=x/\(n<=0->x=0)/\(0<n->x<n)) (fun x=>I x)
theorem ApA {x n:Int} (h:0<=x) (hn:0<n):0<=x.tmod n/\x.tmod n<n:=⟨Int.tmod_nonneg n h,Int.tmod_lt_of_pos x hn⟩
theorem Akk (hB:ZC (D 486)):CB (Body D JS):=by
 intro c n hc hn
 refine EJ (fun Q hQ=> ?_)
 by_cases h0:n<=0
 ·simp -implicitDefEqProofs [h0,Cu,Ab]
  exact hQ 0 c ⟨by omega,fun _=>rfl,fun h=>by omega⟩ hc
 have hne:¬n=0:=by omega
 by_cases h1:n<=256
 ·simp -implicitDefEqProofs [h0,h1]
  obtain⟨x,c1,hx,hc1,px⟩:=hB c hc
  simp -implicitDefEqProofs [AL]at px
  refine Aa (px) ?_
  simp -implicitDefEqProofs [h0,hne,Cu,Ab]
  have:=ApA (n:=n) hx.1 (by omega)
  exact hQ _ c1 ⟨this.1,fun h=>absurd h h0,fun _=>this.2⟩ hc1
 ·simp -implicitDefEqProofs [h0,h1]
  obtain⟨x,c1,hx,hc1,px⟩:=hB c hc
  simp -implicitDefEqProofs [AL]at px
  refine Aa (px) ?_
  simp -implicitDefEqProofs [h0]
  obtain⟨y,c2,hy,hc2,py⟩:=hB c1 hc1
  simp -implicitDefEqProofs [AL]at py
  refine Aa (py) ?_
  simp -implicitDefEqProofs [h0]
  obtain⟨z,c3,hz,hc3,pz⟩:=hB c2 hc2
  simp -implicitDefEqProofs [AL]at pz
  refine Aa (pz) ?_
  simp -implicitDefEqProofs [h0,hne,Cu,Ab]
  have w1:IntKind.i64.wrap (x*65536)=x*65536:=Ad (by omega) (by omega)
  have w2:IntKind.i64.wrap (y*256)=y*256:=Ad (by omega) (by omega)
  have w3:IntKind.i64.wrap (x*65536+y*256)=x*65536+y*256:=Ad (by omega) (by omega)
  have w4:IntKind.i64.wrap (x*65536+y*256+z)=x*65536+y*256+z:=Ad (by omega) (by omega)
  rw[w1,w2,w3,w4]
  have:=ApA (x:=x*65536+y*256+z) (n:=n) (by omega) (by omega)
  exact hQ _ c3 ⟨this.1,fun h=>absurd h h0,fun _=>this.2⟩ hc3
abbrev Uk:Prop:=∀(c:QM) (n:Int),Dw c->n<=1000000000->JA R [I n] c (fun _:Bool=>True) (fun b=>B b)
theorem Anu (hB:CB (D 478)):Uk (Body D Lm):=by
 intro c n hc hn
 refine EJ (fun Q hQ=> ?_)
 simp -implicitDefEqProofs
 obtain⟨x,c1,hx,hc1,px⟩:=hB c n hc hn
 simp -implicitDefEqProofs [AL]at px
 refine Aa (px) ?_
 simp -implicitDefEqProofs [Cu,Ab]
 exact hQ _ c1 trivial hc1
abbrev Jc:Prop:=∀(c:QM) (xs:List Int),Dw c->0<xs.length->xs.length<=1000000->JA R [.sl 1 1 xs.length (ints xs)] c (fun x:Int=>x∈xs) (fun x=>I x)
theorem Aoe (hB:CB (D 478)):Jc (Body D MP):=by
 intro c xs hc h0 hl
 refine EJ (fun Q hQ=> ?_)
 simp -implicitDefEqProofs
 obtain⟨x,c1,hx,hc1,px⟩:=hB c xs.length hc (by omega)
 simp -implicitDefEqProofs [AL]at px
 refine Aa (px) ?_
 obtain⟨n,rfl⟩:∃n:Nat,x=n:=⟨x.toNat,by omega⟩
 have hn:n<xs.length:=by have:=hx.2.2 (by omega);omega
 simp -implicitDefEqProofs [hn,Cu,Ab]
 exact hQ _ c1 (List.getElem_mem hn) hc1
abbrev Qk:Prop:=∀bs:List Int,bs.length<=1048576->(∀b,b∈bs->0<=b/\b<=255)->∃c:QM,Dw c/\R [.sl 3 1 bs.length (u8s bs)] [] (.rptr 0 (AL c) 0) []
theorem Aow:Qk (Body D Ko):=by
 intro bs hl hb
 obtain⟨v,o,⟨c,h1,rfl,rfl⟩,h3⟩:=Afh (P:=fun v o=>∃c:QM,Dw c/\v= .rptr 0 (AL c) 0/\o=[]) (D:=D) (f:=Ko) (args:=[.sl 3 1 bs.length (u8s bs)]) (given:=[]) (fun Q hQ=>by
  simp -implicitDefEqProofs
  obtain⟨h0,hh0⟩:∃h0,h0=IntKind.i64.wrap (193017+(bs.length:Int)):=⟨_,rfl⟩
  rw[<-hh0]
  refine Ag (fun k s=>∃j h,j+k=min bs.length 4000/\s=⟨[.sl 3 1 bs.length (u8s bs),.undef,I h,I j,.undef],[.free]⟩) ?_ (min bs.length 4000) _ ⟨0,h0,by simp,by simp⟩
  intro k s ⟨j,h,hj,hs⟩
  subst hs
  by_cases hjn:j<bs.length
  ·by_cases hj4:j<4000
   ·have hw:=Cv (j:=j) (by omega)
    have hj4':(j:Int)<4000:=by omega
    simp -implicitDefEqProofs [hjn,hj4,hj4']
    refine⟨k-1,by omega,j+1,by omega,?_⟩
    simp[hw]
   ·have hj4':¬(j:Int)<4000:=by omega
    simp -implicitDefEqProofs [hjn,hj4,hj4']
    exact hQ _ _ ⟨⟨bs,0,h⟩,⟨hl,hb,Nat.zero_le _⟩,rfl,rfl⟩
  ·simp -implicitDefEqProofs [hjn]
   exact hQ _ _ ⟨⟨bs,0,h⟩,⟨hl,hb,Nat.zero_le _⟩,rfl,rfl⟩)
 exact⟨c,h1,h3⟩
set_option maxHeartbeats 1000000
theorem Am1 {l:List Int} (h:Up l) {i j:Nat} (hij:i<j) (hj:j<l.length):l[i]<l[j]:=List.pairwise_iff_getElem.1 h i j (by omega) hj hij
theorem ZB {l:List Int} (h:Up l) (h1:∀x,x∈l->1<=x/\x<=9) (h0:0<l.length):AQ l=true:=by
 unfold AQ
 simp only[Bool.and_eq_true,decide_eq_true_eq]
 refine⟨?_,h0⟩
 unfold JF
 rw[List.all_eq_true]
 intro i hi
 have hi:=List.mem_range.1 hi
 rw[VG hi]
 have:=h1 _ (List.getElem_mem hi)
 simp only[Bool.and_eq_true,Bool.or_eq_true,decide_eq_true_eq]
 refine⟨⟨by omega,by omega⟩,?_⟩
 by_cases hz:i=0
 ·exact .inl hz
 ·right
  rw[VG (by omega:i-1<l.length)]
  exact Am1 h (by omega) hi
theorem Ak9 {l:List Int} (h:Up l) (h1:∀x,x∈l->1<=x/\x<=100):Ju l l.length=true:=by
 unfold Ju
 rw[List.all_eq_true]
 intro i hi
 have hi:=List.mem_range.1 hi
 rw[getD_at hi]
 have:=h1 _ (List.getElem_mem hi)
 simp only[Bool.and_eq_true,Bool.or_eq_true,decide_eq_true_eq]
 refine⟨⟨by omega,by omega⟩,?_⟩
 by_cases hz:i=0
 ·exact .inl hz
 ·right
  rw[getD_at (by omega:i-1<l.length)]
  exact Am1 h (by omega) hi
theorem ZO {l:List Int} {a b:Int} (h1:∀x,x∈l->a<=x/\x<=b):allIn l a b=true:=by
 unfold allIn
 rw[List.all_eq_true]
 intro x hx
 have:=h1 x hx
 simpa using this
theorem Aj5 {l:List Int} (h:Up l) (h1:∀x,x∈l->0<=x/\x<=255):FI l=true:=by
 unfold FI
 simp only[Bool.and_eq_true]
 refine⟨?_,ZO h1⟩
 rw[V7]
 intro i hi
 by_cases hz:i=0
 ·subst hz;exact Xk l
 ·rw[VI hz hi (by omega)]
  simpa using Am1 h (by omega) hi
def VP (l:List Int) (b:Int) (m:Nat):Prop:=Up l/\(∀x,x∈l->1<=x/\x<=b)/\l.length<=m
theorem Xj {l:List Int} {b:Int} {m:Nat} {v:Int} (h:VP l b m) (hv:1<=v/\v<=b):VP (El l v) b (m+1):=by
 refine⟨AeM v h.1,?_,Nat.le_trans (Rm l v) (by have:=h.2.2;omega)⟩
 intro x hx
 rcases(IQ l v x).1 hx with hx | rfl
 ·exact h.2.1 x hx
 ·exact hv
theorem O5 {l:List Int} {b:Int} {m m':Nat} (h:VP l b m) (hm:m<=m'):VP l b m':=⟨h.1,h.2.1,by have:=h.2.2;omega⟩
theorem Aac (b:Int):VP [] b 0:=⟨List.Pairwise.nil,by simp,by simp⟩
theorem AnG {b v:Int} (hv:1<=v/\v<=b):VP [v] b 1:=⟨by simp,by simpa using hv,by simp⟩
theorem put_pos (l:List Int) (v:Int):0<(El l v).length:=List.length_pos_of_mem ((IQ l v v).2 (.inr rfl))
abbrev Ki:Prop:=∀c:QM,Dw c->JA R [] c (fun l:List Int=>VP l 6 4/\0<l.length) (fun l=> .sl 0 1 l.length (ints l))
theorem AkV (hB:CB (D 478)) (hP:Mf (D 159)):Ki (Body D JJ):=by
 intro c hc
 refine EJ (fun Q hQ=> ?_)
 simp -implicitDefEqProofs
 obtain⟨x,c1,hx,hc1,px⟩:=hB c 4 hc (by omega)
 simp -implicitDefEqProofs [AL,ints]at px
 refine Aa (px) ?_
 have hx4:=hx.2.2 (by omega)
 have w1:IntKind.i64.wrap (1+x)=1+x:=Ad (by omega) (by omega)
 simp -implicitDefEqProofs [w1]
 obtain⟨y,c2,hy,hc2,py⟩:=hB c1 4 hc1 (by omega)
 simp -implicitDefEqProofs [AL,ints]at py
 refine Aa (py) ?_
 have hy4:=hy.2.2 (by omega)
 obtain⟨n,rfl⟩:∃n:Nat,y=n:=⟨y.toNat,by omega⟩
 simp -implicitDefEqProofs
 obtain⟨LI,hLI⟩:∃LI:Nat->St->Prop,LI=fun k s=>∃j cc l o2,j+k=n/\Dw cc/\VP l 6 (1+j)/\0<l.length/\s=⟨[.ptr 0 0,.undef,.arr 3,I k,.undef],[.var (AL cc),.free,o2,.arr 1 0 l.length (ints l)]⟩:=⟨_,rfl⟩
 refine Ag LI ?_ (n) _ (by rw[hLI];exact⟨0,c2,[1+x],.free,by simp,hc2,AnG (by omega),by simp,by simp[ints]⟩)
 intro k s hs
 rw[hLI]at hs
 obtain⟨j,cc,l,o2,hj,hcc,hl,hl0,hs⟩:=hs
 subst hs
 by_cases hk:0<k
 ·have hwk:IntKind.i64.wrap ((k:Int)-1)=(k-1:Nat):=by rw[Ad (by omega) (by omega)];omega
  simp -implicitDefEqProofs [hk]
  obtain⟨z,c3,hz,hc3,pz⟩:=hB cc 6 hcc (by omega)
  simp -implicitDefEqProofs [AL,ints]at pz
  refine Aa (pz) ?_
  have hz4:=hz.2.2 (by omega)
  have w2:IntKind.i64.wrap (1+z)=1+z:=Ad (by omega) (by omega)
  simp -implicitDefEqProofs [w2]
  refine Aa (hP l (1+z) (by have:=hl.2.2;omega)) ?_
  simp -implicitDefEqProofs [hwk]
  refine⟨k-1,by omega,?_⟩
  rw[hLI]
  exact⟨j+1,c3,El l (1+z),.free,by omega,hc3,Xj hl (by omega),put_pos _ _,rfl⟩
 ·have hk0:k=0:=by omega
  subst hk0
  simp -implicitDefEqProofs [Cu,Ab]
  exact hQ l cc ⟨O5 hl (by omega),hl0⟩ hcc
abbrev Oc:Prop:=∀c:QM,Dw c->JA R [] c (fun l:List Int=>VP l 200 4) (fun l=> .sl 0 1 l.length (ints l))
theorem Asu {x:Int} (h:x∈[1,2,3,10,40,(200:Int)]):1<=x/\x<=200:=by simp at h;omega
theorem AlM (hB:CB (D 478)) (hI:Jc (D 481)) (hP:Mf (D 159)):Oc (Body D JK):=by
 intro c hc
 refine EJ (fun Q hQ=> ?_)
 simp -implicitDefEqProofs
 obtain⟨y,c2,hy,hc2,py⟩:=hB c 5 hc (by omega)
 simp -implicitDefEqProofs [AL,ints]at py
 refine Aa (py) ?_
 have hy4:=hy.2.2 (by omega)
 obtain⟨n,rfl⟩:∃n:Nat,y=n:=⟨y.toNat,by omega⟩
 simp -implicitDefEqProofs
 obtain⟨LI,hLI⟩:∃LI:Nat->St->Prop,LI=fun k s=>∃j cc l o2,j+k=n/\Dw cc/\VP l 200 j/\s=⟨[.ptr 0 0,.undef,.arr 4,I k,.undef],[.var (AL cc),.free,o2,.free,.arr 1 0 l.length (ints l)]⟩:=⟨_,rfl⟩
 refine Ag LI ?_ (n) _ (by rw[hLI];exact⟨0,c2,[],.free,by simp,hc2,Aac _,by simp[ints]⟩)
 intro k s hs
 rw[hLI]at hs
 obtain⟨j,cc,l,o2,hj,hcc,hl,hs⟩:=hs
 subst hs
 by_cases hk:0<k
 ·have hwk:IntKind.i64.wrap ((k:Int)-1)=(k-1:Nat):=by rw[Ad (by omega) (by omega)];omega
  simp -implicitDefEqProofs [hk]
  obtain⟨z,c3,hz,hc3,pz⟩:=hI cc [1,2,3,10,40,200] hcc (by simp) (by simp)
  simp -implicitDefEqProofs [AL,ints]at pz
  refine Aa (pz) ?_
  simp -implicitDefEqProofs
  refine Aa (hP l z (by have:=hl.2.2;omega)) ?_
  simp -implicitDefEqProofs [hwk]
  refine⟨k-1,by omega,?_⟩
  rw[hLI]
  exact⟨j+1,c3,El l z,_,by omega,hc3,Xj hl (Asu hz),rfl⟩
 ·have hk0:k=0:=by omega
  subst hk0
  simp -implicitDefEqProofs [Cu,Ab]
  exact hQ l cc (O5 hl (by omega)) hcc
set_option maxHeartbeats 1000000
def X5 (b:EG):Prop:=IL b=true/\b.drops.length<=4/\b.strips.length<=4
theorem WJ {b:EG} (h0:0<=b.limit/\b.limit<=9) (h1:VP b.drops 200 4) (h2:VP b.strips 200 4):X5 b:=by
 refine⟨?_,h1.2.2,h2.2.2⟩
 unfold IL
 rw[ZO (fun x hx=>by have:=h1.2.1 x hx;omega),ZO (fun x hx=>by have:=h2.2.1 x hx;omega)]
 have:=h1.2.2
 have:=h2.2.2
 simp only[Bool.and_eq_true,decide_eq_true_eq]
 exact⟨⟨⟨⟨⟨by omega,by omega⟩,by omega⟩,by omega⟩,trivial⟩,trivial⟩
abbrev Oq:Prop:=∀c:QM,Dw c->JA R [] c X5 (fun b=> .agg (DT b))
theorem Ako (hB:CB (D 478)) (hT:Oc (D 489)):Oq (Body D JQ):=by
 intro c hc
 refine EJ (fun Q hQ=> ?_)
 have hn:=O5 (Aac 200) (show 0<=4 by omega)
 simp -implicitDefEqProofs
 obtain⟨x,c1,hx,hc1,px⟩:=hB c 7 hc (by omega)
 simp -implicitDefEqProofs [AL,ints]at px
 refine Aa (px) ?_
 by_cases g0:x=0
 ·simp -implicitDefEqProofs [g0]
  obtain⟨y,c2,hy,hc2,py⟩:=hB c1 6 hc1 (by omega)
  simp -implicitDefEqProofs [AL,ints]at py
  refine Aa (py) ?_
  have hy6:=hy.2.2 (by omega)
  have w1:IntKind.i64.wrap (1+y)=1+y:=Ad (by omega) (by omega)
  simp -implicitDefEqProofs [w1,Cu,Ab]
  exact hQ ⟨1+y,[],[],false⟩ c2 (WJ (by dsimp only;omega) hn hn) hc2
 by_cases g1:x=1
 ·simp -implicitDefEqProofs [g1]
  obtain⟨t,c2,ht,hc2,pt⟩:=hT c1 hc1
  simp -implicitDefEqProofs [AL,ints]at pt
  refine Aa (pt) ?_
  simp -implicitDefEqProofs [Cu,Ab]
  exact hQ ⟨0,t,[],false⟩ c2 (WJ (by dsimp only;omega) ht hn) hc2
 by_cases g2:x=2
 ·simp -implicitDefEqProofs [g2]
  obtain⟨t,c2,ht,hc2,pt⟩:=hT c1 hc1
  simp -implicitDefEqProofs [AL,ints]at pt
  refine Aa (pt) ?_
  simp -implicitDefEqProofs [Cu,Ab]
  exact hQ ⟨0,[],t,false⟩ c2 (WJ (by dsimp only;omega) hn ht) hc2
 by_cases g3:x=3
 ·simp -implicitDefEqProofs [g3,Cu,Ab]
  exact hQ ⟨0,[],[],true⟩ c1 (WJ (by dsimp only;omega) hn hn) hc1
 simp -implicitDefEqProofs [g0,g1,g2,g3,Cu,Ab]
 exact hQ ⟨0,[],[],false⟩ c1 (WJ (by dsimp only;omega) hn hn) hc1
def Aha (b:EG):Prop:=b.drops.length<=7/\b.strips.length<=7
def TK (l:List EG) (m:Nat):Prop:=l.length<=m/\∀b,b∈l->X5 b
abbrev Qp:Prop:=∀c:QM,Dw c->JA R [] c (fun l:List EG=>TK l 3) (fun l=> .sl 0 4 l.length (l.flatMap DT))
theorem Anb {l:List EG} {m:Nat} {b:EG} (h:TK l m) (hb:X5 b):TK (l++ [b]) (m+1):=by
 refine⟨by have:=h.1;simp;omega,?_⟩
 intro x hx
 rcases List.mem_append.1 hx with hx | hx
 ·exact h.2 x hx
 ·simp at hx;subst hx;exact hb
theorem AkZ (hB:CB (D 478)) (hT:Oq (D 494)):Qp (Body D JO):=by
 intro c hc
 refine EJ (fun Q hQ=> ?_)
 simp -implicitDefEqProofs
 obtain⟨y,c2,hy,hc2,py⟩:=hB c 4 hc (by omega)
 simp -implicitDefEqProofs [AL,ints]at py
 refine Aa (py) ?_
 have hy4:=hy.2.2 (by omega)
 obtain⟨n,rfl⟩:∃n:Nat,y=n:=⟨y.toNat,by omega⟩
 simp -implicitDefEqProofs
 obtain⟨LI,hLI⟩:∃LI:Nat->St->Prop,LI=fun k s=>∃j cc l o2 o3 o4,j+k=n/\Dw cc/\TK l j/\s=⟨[.ptr 0 0,.undef,.arr 6,I k,.undef],[.var (AL cc),.free,o2,o3,o4,.free,.arr 4 0 l.length (l.flatMap DT)]⟩:=⟨_,rfl⟩
 refine Ag LI ?_ (n) _ (by rw[hLI];exact⟨0,c2,[],.free,.free,.free,by simp,hc2,⟨by simp,by simp⟩,by simp⟩)
 intro k s hs
 rw[hLI]at hs
 obtain⟨j,cc,l,o2,o3,o4,hj,hcc,hl,hs⟩:=hs
 subst hs
 by_cases hk:0<k
 ·have hwk:IntKind.i64.wrap ((k:Int)-1)=(k-1:Nat):=by rw[Ad (by omega) (by omega)];omega
  have hll:=hl.1
  have hb1:(l.length+1)*64<=1099511627776:=by omega
  simp -implicitDefEqProofs [hk]
  obtain⟨b,c3,hb,hc3,pb⟩:=hT cc hcc
  simp -implicitDefEqProofs [AL,ints]at pb
  refine Aa (pb) ?_
  simp -implicitDefEqProofs [hb1,hwk]
  refine⟨k-1,by omega,?_⟩
  rw[hLI]
  exact⟨j+1,c3,l++ [b],.dead,.dead,.dead,by omega,hc3,Anb hl hb,by simp[DT,ints]⟩
 ·have hk0:k=0:=by omega
  subst hk0
  simp -implicitDefEqProofs [Cu,Ab]
  exact hQ l cc ⟨by have:=hl.1;omega,hl.2⟩ hcc
def Arv (s:List Int):Prop:=VP s 100 3/\0<s.length/\s.getD (s.length-1) 0=100
def Aix (r:AX):Prop:=Arv r.stages/\(1<=r.version/\r.version<=6)
abbrev Uy:Prop:=∀c:QM,Dw c->JA R [] c Aix (fun r=> .agg (Dj r))
theorem Apk {l:List Int} (h:VP l 90 2):Arv (l++ [100]):=by
 obtain⟨h1,h2,h3⟩:=h
 refine⟨⟨?_,?_,by simp;omega⟩,by simp,by simp⟩
 ·refine List.pairwise_append.2 ⟨h1,by simp,?_⟩
  intro x hx y hy
  simp at hy
  have:=h2 x hx
  omega
 ·intro x hx
  rcases List.mem_append.1 hx with hx | hx
  ·have:=h2 x hx;omega
  ·simp at hx;omega
theorem AkN (hB:CB (D 478)) (hP:Mf (D 159)):Uy (Body D Ga):=by
 intro c hc
 refine EJ (fun Q hQ=> ?_)
 simp -implicitDefEqProofs
 obtain⟨x,c1,hx,hc1,px⟩:=hB c 6 hc (by omega)
 simp -implicitDefEqProofs [AL,ints]at px
 refine Aa (px) ?_
 have hx6:=hx.2.2 (by omega)
 have w1:IntKind.i64.wrap (1+x)=1+x:=Ad (by omega) (by omega)
 simp -implicitDefEqProofs [w1]
 obtain⟨y,c2,hy,hc2,py⟩:=hB c1 3 hc1 (by omega)
 simp -implicitDefEqProofs [AL,ints]at py
 refine Aa (py) ?_
 have hy3:=hy.2.2 (by omega)
 obtain⟨n,rfl⟩:∃n:Nat,y=n:=⟨y.toNat,by omega⟩
 simp -implicitDefEqProofs
 obtain⟨LI,hLI⟩:∃LI:Nat->St->Prop,LI=fun k s=>∃j cc l o3,j+k=n/\Dw cc/\VP l 90 j/\s=⟨[.ptr 0 0,.ptr 1 0,.ptr 2 0,I k,.undef],[.var (AL cc),.var [I 0,.nil 1,I 0,B false],.var [I (1+x),.arr 6,I 0,B false],o3,.free,.free,.arr 1 0 l.length (ints l)]⟩:=⟨_,rfl⟩
 refine Ag LI ?_ (n) _ (by rw[hLI];exact⟨0,c2,[],.free,by simp,hc2,Aac _,by simp[ints]⟩)
 intro k s hs
 rw[hLI]at hs
 obtain⟨j,cc,l,o3,hj,hcc,hl,hs⟩:=hs
 subst hs
 by_cases hk:0<k
 ·have hwk:IntKind.i64.wrap ((k:Int)-1)=(k-1:Nat):=by rw[Ad (by omega) (by omega)];omega
  simp -implicitDefEqProofs [hk]
  obtain⟨z,c3,hz,hc3,pz⟩:=hB cc 90 hcc (by omega)
  simp -implicitDefEqProofs [AL,ints]at pz
  refine Aa (pz) ?_
  have hz4:=hz.2.2 (by omega)
  have w2:IntKind.i64.wrap (1+z)=1+z:=Ad (by omega) (by omega)
  simp -implicitDefEqProofs [w2]
  refine Aa (hP l (1+z) (by have:=hl.2.2;omega)) ?_
  simp -implicitDefEqProofs [hwk]
  refine⟨k-1,by omega,?_⟩
  rw[hLI]
  exact⟨j+1,c3,El l (1+z),_,by omega,hc3,Xj hl (by omega),rfl⟩
 ·have hk0:k=0:=by omega
  subst hk0
  have hll:=hl.2.2
  have hb1:(l.length+1)*8<=1099511627776:=by omega
  simp -implicitDefEqProofs [hb1]
  have hst:=Apk (O5 hl (by omega))
  obtain⟨z,c3,hz,hc3,pz⟩:=hB cc (l.length+1) hcc (by omega)
  simp -implicitDefEqProofs [AL,ints]at pz
  refine Aa (pz) ?_
  simp -implicitDefEqProofs [Cu,Ab]
  have:=hQ ⟨1+x,l++ [100],z,false⟩ c3 ⟨hst,by dsimp only;omega⟩ hc3
  simpa[ints,Dj]using this
set_option maxHeartbeats 1000000
def AjF (l:List Int) (m:Nat):Prop:=Up l/\(∀x,x∈l->x∈[1,2,3,40,(200:Int)])/\l.length<=m
theorem AoH {l:List Int} {m:Nat} {v:Int} (h:AjF l m) (hv:v∈[1,2,3,40,(200:Int)]):AjF (El l v) (m+1):=by
 refine⟨AeM v h.1,?_,Nat.le_trans (Rm l v) (by have:=h.2.2;omega)⟩
 intro x hx
 rcases(IQ l v x).1 hx with hx | rfl
 ·exact h.2.1 x hx
 ·exact hv
structure Aj0 (e:Ai):Prop where
 vers:VP e.versions 6 4
 pos:0<e.versions.length
 tags:AjF e.tags 3
 path:TK e.path 3
 cls:0<=e.cls/\e.cls<=5
theorem ArT {x:Int} (h:x∈[1,2,3,40,(200:Int)]):(0<=x/\x<=255)/\BH x=false:=by
 simp at h
 rcases h with rfl | rfl | rfl | rfl | rfl<;>exact⟨by omega,by decide⟩
theorem AqE {e:Ai} (h:Aj0 e):Au e=true:=by
 unfold Au
 rw[ZB h.vers.1 (fun x hx=>by have:=h.vers.2.1 x hx;omega) h.pos,Aj5 h.tags.1 (fun x hx=>(ArT (h.tags.2.1 x hx)).1)]
 have h1:e.tags.any BH=false:=by
  rw[List.any_eq_false]
  intro x hx
  rw[(ArT (h.tags.2.1 x hx)).2]
  simp
 have h2:e.path.all IL=true:=List.all_eq_true.2 fun b hb=>(h.path.2 b hb).1
 rw[h1,h2]
 have:=h.tags.2.2
 have:=h.path.1
 have:=h.cls
 simp only[Bool.true_and,Bool.and_true,Bool.not_false,Bool.and_eq_true,decide_eq_true_eq]
 exact⟨by omega,by omega,by omega,by omega⟩
abbrev QI:Prop:=∀c:QM,Dw c->JA R [] c Aj0 (fun e=> .agg (Ah e))
theorem AkA (hB:CB (D 478)) (hI:Jc (D 481)) (hV:Ki (D 490)) (hP:Qp (D 493)) (hU:Mf (D 159)):QI (Body D JU):=by
 intro c hc
 refine EJ (fun Q hQ=> ?_)
 simp -implicitDefEqProofs
 obtain⟨vs,c1,hvs,hc1,pvs⟩:=hV c hc
 simp -implicitDefEqProofs [AL,ints]at pvs
 refine Aa (pvs) ?_
 simp -implicitDefEqProofs
 obtain⟨pa,c2,hpa,hc2,ppa⟩:=hP c1 hc1
 simp -implicitDefEqProofs [AL,ints]at ppa
 refine Aa (ppa) ?_
 simp -implicitDefEqProofs
 obtain⟨cl,c3,hcl,hc3,pcl⟩:=hB c2 6 hc2 (by omega)
 simp -implicitDefEqProofs [AL,ints]at pcl
 refine Aa (pcl) ?_
 have hcl6:=hcl.2.2 (by omega)
 simp -implicitDefEqProofs
 obtain⟨y,c4,hy,hc4,py⟩:=hB c3 4 hc3 (by omega)
 simp -implicitDefEqProofs [AL,ints]at py
 refine Aa (py) ?_
 have hy4:=hy.2.2 (by omega)
 obtain⟨n,rfl⟩:∃n:Nat,y=n:=⟨y.toNat,by omega⟩
 simp -implicitDefEqProofs
 obtain⟨LI,hLI⟩:∃LI:Nat->St->Prop,LI=fun k s=>∃j cc l o5,j+k=n/\Dw cc/\AjF l j/\s=⟨[.ptr 0 0,.ptr 1 0,.ptr 4 0,I k,.undef],[.var (AL cc),.var [.nil 1,.nil 1,.nil 4,I 0],.arr 1 0 vs.length (ints vs),.arr 4 0 pa.length (pa.flatMap DT),.var [.arr 2,.arr 7,.arr 3,I cl],o5,.free,.arr 1 0 l.length (ints l)]⟩:=⟨_,rfl⟩
 refine Ag LI ?_ (n) _ (by rw[hLI];exact⟨0,c4,[],.free,by simp,hc4,⟨List.Pairwise.nil,by simp,by simp⟩,by simp[ints]⟩)
 intro k s hs
 rw[hLI]at hs
 obtain⟨j,cc,l,o5,hj,hcc,hl,hs⟩:=hs
 subst hs
 by_cases hk:0<k
 ·have hwk:IntKind.i64.wrap ((k:Int)-1)=(k-1:Nat):=by rw[Ad (by omega) (by omega)];omega
  simp -implicitDefEqProofs [hk]
  obtain⟨z,c5,hz,hc5,pz⟩:=hI cc [1,2,3,40,200] hcc (by simp) (by simp)
  simp -implicitDefEqProofs [AL,ints]at pz
  refine Aa (pz) ?_
  simp -implicitDefEqProofs
  refine Aa (hU l z (by have:=hl.2.2;omega)) ?_
  simp -implicitDefEqProofs [hwk]
  refine⟨k-1,by omega,?_⟩
  rw[hLI]
  exact⟨j+1,c5,El l z,_,by omega,hc5,AoH hl hz,rfl⟩
 ·have hk0:k=0:=by omega
  subst hk0
  simp -implicitDefEqProofs [Cu,Ab]
  exact hQ ⟨vs,l,pa,cl⟩ cc ⟨hvs.1,hvs.2,⟨hl.1,hl.2.1,by have:=hl.2.2;dsimp only;omega⟩,hpa,by dsimp only;omega⟩ hcc
structure ArD (e:Ai):Prop where
 vers:e.versions.length<=5
 tags:e.tags.length<=6
 path:e.path.length<=5
 box:∀b,b∈e.path->Aha b
set_option maxHeartbeats 1000000
abbrev AxO (D:Dn) (R:Rel):Prop:=∀(a b:List EG) (g:Nat),a.length<=maxLen->b.length<=maxLen->(∀j (h:j<a.length) (h':j<b.length),D g [arg (DT a[j]),arg (DT b[j])] [] (B (decide (a[j]=b[j]))) [])->
 R [.sl 1 4 a.length (a.flatMap DT),.sl 1 4 b.length (b.flatMap DT),.fn g []] [] (B (decide (a=b))) []
theorem AGP:AxO D (Body D Afr):=by
 intro a b g h1 h2 hg
 unfold maxLen at h1 h2
 by_cases hl:a.length=b.length
 rotate_left
 ·have hl':¬(a.length:Int)=b.length:=by omega
  have:a≠b:=fun h=>hl (by rw[h])
  simp -implicitDefEqProofs [hl',this]
 have hl':(a.length:Int)=b.length:=by omega
 simp -implicitDefEqProofs [hl']
 refine Ag (fun k s=>∃j o0 o1,j+k=a.length/\a.take j=b.take j/\s=⟨[.undef,.sl 1 4 b.length (b.flatMap DT),.fn g [],.undef,.undef,.undef,.undef,.undef,.sl 1 4 a.length (a.flatMap DT),I b.length,I j,.undef,.undef],[o0,o1]⟩) ?_ (a.length) _ ⟨0,.free,.free,by simp,by simp,by simp⟩
 intro k s ⟨j,o0,o1,hj,hp,hs⟩
 subst hs
 by_cases hjn:j<a.length
 ·have hw:=Cv (j:=j) (by omega)
  have hy:j<b.length:=by omega
  simp -implicitDefEqProofs [hjn,hy,↓Atc Atd]
  refine Aa (hg j hjn hy) ?_
  by_cases g2:a[j]=b[j]
  ·simp -implicitDefEqProofs [g2]
   exact⟨k-1,by omega,j+1,by omega,Adh hjn hy hp g2,by simp[hw]⟩
  ·have hne:a≠b:=fun h=>g2 (by simp[h])
   simp -implicitDefEqProofs [g2,hne]
 ·obtain rfl:a=b:=Agx (by omega) hl hp
  simp -implicitDefEqProofs [hjn]
abbrev Axt (D:Dn) (R:Rel):Prop:=∀(a b:List Ai) (g:Nat),a.length<=maxLen->b.length<=maxLen->(∀j (h:j<a.length) (h':j<b.length),D g [arg (Ah a[j]),arg (Ah b[j])] [] (B (decide (a[j]=b[j]))) [])->
 R [.sl 1 4 a.length (a.flatMap Ah),.sl 1 4 b.length (b.flatMap Ah),.fn g []] [] (B (decide (a=b))) []
theorem AHh:Axt D (Body D Ab6):=by
 intro a b g h1 h2 hg
 unfold maxLen at h1 h2
 by_cases hl:a.length=b.length
 rotate_left
 ·have hl':¬(a.length:Int)=b.length:=by omega
  have:a≠b:=fun h=>hl (by rw[h])
  simp -implicitDefEqProofs [hl',this]
 have hl':(a.length:Int)=b.length:=by omega
 simp -implicitDefEqProofs [hl']
 refine Ag (fun k s=>∃j o0 o1,j+k=a.length/\a.take j=b.take j/\s=⟨[.undef,.sl 1 4 b.length (b.flatMap Ah),.fn g [],.undef,.undef,.undef,.undef,.undef,.sl 1 4 a.length (a.flatMap Ah),I b.length,I j,.undef,.undef],[o0,o1]⟩) ?_ (a.length) _ ⟨0,.free,.free,by simp,by simp,by simp⟩
 intro k s ⟨j,o0,o1,hj,hp,hs⟩
 subst hs
 by_cases hjn:j<a.length
 ·have hw:=Cv (j:=j) (by omega)
  have hy:j<b.length:=by omega
  simp -implicitDefEqProofs [hjn,hy,↓Atc Atd]
  refine Aa (hg j hjn hy) ?_
  by_cases g2:a[j]=b[j]
  ·simp -implicitDefEqProofs [g2]
   exact⟨k-1,by omega,j+1,by omega,Adh hjn hy hp g2,by simp[hw]⟩
  ·have hne:a≠b:=fun h=>g2 (by simp[h])
   simp -implicitDefEqProofs [g2,hne]
 ·obtain rfl:a=b:=Agx (by omega) hl hp
  simp -implicitDefEqProofs [hjn]
abbrev Au3 (D:Dn) (R:Rel):Prop:=∀(a b:List BP) (g:Nat),a.length<=maxLen->b.length<=maxLen->(∀j (h:j<a.length) (h':j<b.length),D g [arg (AB a[j]),arg (AB b[j])] [] (B (decide (a[j]=b[j]))) [])->
 R [.sl 1 5 a.length (a.flatMap AB),.sl 1 5 b.length (b.flatMap AB),.fn g []] [] (B (decide (a=b))) []
theorem AEe:Au3 D (Body D Ael):=by
 intro a b g h1 h2 hg
 unfold maxLen at h1 h2
 by_cases hl:a.length=b.length
 rotate_left
 ·have hl':¬(a.length:Int)=b.length:=by omega
  have:a≠b:=fun h=>hl (by rw[h])
  simp -implicitDefEqProofs [hl',this]
 have hl':(a.length:Int)=b.length:=by omega
 simp -implicitDefEqProofs [hl']
 refine Ag (fun k s=>∃j o0 o1,j+k=a.length/\a.take j=b.take j/\s=⟨[.undef,.sl 1 5 b.length (b.flatMap AB),.fn g [],.undef,.undef,.undef,.undef,.undef,.sl 1 5 a.length (a.flatMap AB),I b.length,I j,.undef,.undef],[o0,o1]⟩) ?_ (a.length) _ ⟨0,.free,.free,by simp,by simp,by simp⟩
 intro k s ⟨j,o0,o1,hj,hp,hs⟩
 subst hs
 by_cases hjn:j<a.length
 ·have hw:=Cv (j:=j) (by omega)
  have hy:j<b.length:=by omega
  simp -implicitDefEqProofs [hjn,hy,↓Atc Atd]
  refine Aa (hg j hjn hy) ?_
  by_cases g2:a[j]=b[j]
  ·simp -implicitDefEqProofs [g2]
   exact⟨k-1,by omega,j+1,by omega,Adh hjn hy hp g2,by simp[hw]⟩
  ·have hne:a≠b:=fun h=>g2 (by simp[h])
   simp -implicitDefEqProofs [g2,hne]
 ·obtain rfl:a=b:=Agx (by omega) hl hp
  simp -implicitDefEqProofs [hjn]
abbrev Au6 (D:Dn) (R:Rel):Prop:=∀(a b:List Eo) (g:Nat),a.length<=maxLen->b.length<=maxLen->(∀j (h:j<a.length) (h':j<b.length),D g [arg (Az a[j]),arg (Az b[j])] [] (B (decide (a[j]=b[j]))) [])->
 R [.sl 1 8 a.length (a.flatMap Az),.sl 1 8 b.length (b.flatMap Az),.fn g []] [] (B (decide (a=b))) []
theorem ADZ:Au6 D (Body D Adv):=by
 intro a b g h1 h2 hg
 unfold maxLen at h1 h2
 by_cases hl:a.length=b.length
 rotate_left
 ·have hl':¬(a.length:Int)=b.length:=by omega
  have:a≠b:=fun h=>hl (by rw[h])
  simp -implicitDefEqProofs [hl',this]
 have hl':(a.length:Int)=b.length:=by omega
 simp -implicitDefEqProofs [hl']
 refine Ag (fun k s=>∃j o0 o1,j+k=a.length/\a.take j=b.take j/\s=⟨[.undef,.sl 1 8 b.length (b.flatMap Az),.fn g [],.undef,.undef,.undef,.undef,.undef,.sl 1 8 a.length (a.flatMap Az),I b.length,I j,.undef,.undef],[o0,o1]⟩) ?_ (a.length) _ ⟨0,.free,.free,by simp,by simp,by simp⟩
 intro k s ⟨j,o0,o1,hj,hp,hs⟩
 subst hs
 by_cases hjn:j<a.length
 ·have hw:=Cv (j:=j) (by omega)
  have hy:j<b.length:=by omega
  simp -implicitDefEqProofs [hjn,hy,↓Atc Atd]
  refine Aa (hg j hjn hy) ?_
  by_cases g2:a[j]=b[j]
  ·simp -implicitDefEqProofs [g2]
   exact⟨k-1,by omega,j+1,by omega,Adh hjn hy hp g2,by simp[hw]⟩
  ·have hne:a≠b:=fun h=>g2 (by simp[h])
   simp -implicitDefEqProofs [g2,hne]
 ·obtain rfl:a=b:=Agx (by omega) hl hp
  simp -implicitDefEqProofs [hjn]
abbrev Awq:Prop:=∀a b:EG,Kh a->Kh b->R [arg (DT a),arg (DT b)] [] (B (decide (a=b))) []
theorem AF5 (hE:Uu (D 357)):Awq (Body D AuJ):=by
 intro a b ha hb
 by_cases g1:a.limit=b.limit
 rotate_left
 ·have hne:a≠b:=fun h=>g1 (by simp[h])
  simp -implicitDefEqProofs [g1,hne]
 simp -implicitDefEqProofs [g1]
 refine Aa (hE a.drops b.drops ha.1 hb.1) ?_
 by_cases g2:a.drops=b.drops
 rotate_left
 ·have hne:a≠b:=fun h=>g2 (by simp[h])
  simp -implicitDefEqProofs [g2,hne]
 simp -implicitDefEqProofs [g2]
 refine Aa (hE a.strips b.strips ha.2 hb.2) ?_
 by_cases g3:a.strips=b.strips
 rotate_left
 ·have hne:a≠b:=fun h=>g3 (by simp[h])
  simp -implicitDefEqProofs [g3,hne]
 by_cases g4:a.lists=b.lists
 ·have e:a=b:=by cases a;cases b;simp_all
  simp -implicitDefEqProofs [g3,g4,e]
 ·have hne:a≠b:=fun h=>g4 (by simp[h])
  simp -implicitDefEqProofs [g3,g4,hne]
abbrev AtP:Prop:=∀a b:Ai,AbY a->AbY b->R [arg (Ah a),arg (Ah b)] [] (B (decide (a=b))) []
theorem AB1 (hE:Uu (D 357)) (hB:Awq (D 503)) (hF:AxO D (D 504)):AtP (Body D Atp):=by
 intro a b ha hb
 simp -implicitDefEqProofs
 refine Aa (hE a.versions b.versions ha.1 hb.1) ?_
 by_cases g1:a.versions=b.versions
 rotate_left
 ·have hne:a≠b:=fun h=>g1 (by simp[h])
  simp -implicitDefEqProofs [g1,hne]
 simp -implicitDefEqProofs [g1]
 refine Aa (hE a.tags b.tags ha.2.1 hb.2.1) ?_
 by_cases g2:a.tags=b.tags
 rotate_left
 ·have hne:a≠b:=fun h=>g2 (by simp[h])
  simp -implicitDefEqProofs [g2,hne]
 simp -implicitDefEqProofs [g2]
 refine Aa (hF a.path b.path 503 ha.2.2.1 hb.2.2.1 (fun j h h'=>hB _ _ (ha.2.2.2 j h) (hb.2.2.2 j h'))) ?_
 by_cases g3:a.path=b.path
 rotate_left
 ·have hne:a≠b:=fun h=>g3 (by simp[h])
  simp -implicitDefEqProofs [g3,hne]
 by_cases g4:a.cls=b.cls
 ·have e:a=b:=by cases a;cases b;simp_all
  simp -implicitDefEqProofs [g3,g4,e]
 ·have hne:a≠b:=fun h=>g4 (by simp[h])
  simp -implicitDefEqProofs [g3,g4,hne]
abbrev Aux:Prop:=∀a b:AX,ABu a->ABu b->R [arg (Dj a),arg (Dj b)] [] (B (decide (a=b))) []
theorem ACI (hE:Uu (D 357)):Aux (Body D AtE):=by
 intro a b ha hb
 by_cases g1:a.version=b.version
 rotate_left
 ·have hne:a≠b:=fun h=>g1 (by simp[h])
  simp -implicitDefEqProofs [g1,hne]
 simp -implicitDefEqProofs [g1]
 refine Aa (hE a.stages b.stages ha hb) ?_
 by_cases g2:a.stages=b.stages
 rotate_left
 ·have hne:a≠b:=fun h=>g2 (by simp[h])
  simp -implicitDefEqProofs [g2,hne]
 by_cases g3:a.pos=b.pos
 rotate_left
 ·have hne:a≠b:=fun h=>g3 (by simp[h])
  simp -implicitDefEqProofs [g2,g3,hne]
 by_cases g4:a.off=b.off
 ·have e:a=b:=by cases a;cases b;simp_all
  simp -implicitDefEqProofs [g2,g3,g4,e]
 ·have hne:a≠b:=fun h=>g4 (by simp[h])
  simp -implicitDefEqProofs [g2,g3,g4,hne]
abbrev AwC:Prop:=∀a b:Aaf,AIl a->AIl b->R [arg (AfJ a),arg (AfJ b)] [] (B (decide (a=b))) []
theorem AGf (hE:Uu (D 357)):AwC (Body D AuQ):=by
 intro a b ha hb
 obtain⟨o1,v1,t1⟩:=a
 obtain⟨o2,v2,t2⟩:=b
 by_cases g1:o1=o2
 rotate_left
 ·simp -implicitDefEqProofs [g1]
 subst g1
 by_cases g2:v1=v2
 rotate_left
 ·simp -implicitDefEqProofs [g2]
 subst g2
 cases o1
 ·simp -implicitDefEqProofs
  refine Aa (hE t1 t2 ha hb) ?_
  simp -implicitDefEqProofs
 ·simp -implicitDefEqProofs
  refine Aa (hE t1 t2 ha hb) ?_
  simp -implicitDefEqProofs
abbrev Auv:Prop:=∀a b:BP,Ayh a->Ayh b->R [arg (AB a),arg (AB b)] [] (B (decide (a=b))) []
theorem AEv (hD:AwC (D 508)) (hE:Uu (D 357)):Auv (Body D Auj):=by
 intro a b ha hb
 simp -implicitDefEqProofs
 refine Aa (hD a.deal b.deal ha.1 hb.1) ?_
 by_cases g1:a.deal=b.deal
 rotate_left
 ·have hne:a≠b:=fun h=>g1 (by simp[h])
  have g1':decide (a.deal=b.deal)=false:=by simpa using g1
  rw[g1']
  simp -implicitDefEqProofs [hne]
 have g1':decide (a.deal=b.deal)=true:=by simpa using g1
 rw[g1']
 by_cases g2:a.tries=b.tries
 rotate_left
 ·have hne:a≠b:=fun h=>g2 (by simp[h])
  simp -implicitDefEqProofs [g2,hne]
 simp -implicitDefEqProofs [g2]
 refine Aa (hE a.up b.up ha.2 hb.2) ?_
 by_cases g3:a.up=b.up
 ·have e:a=b:=by cases a;cases b;simp_all
  simp -implicitDefEqProofs [g3,e]
 ·have hne:a≠b:=fun h=>g3 (by simp[h])
  simp -implicitDefEqProofs [g3,hne]
abbrev AvO:Prop:=∀a b:Eo,ADx a->ADx b->R [arg (Az a),arg (Az b)] [] (B (decide (a=b))) []
theorem AEr (hD:Auv (D 507)):AvO (Body D Aut):=by
 intro a b ha hb
 obtain⟨a1,a2,a3,a4⟩:=a
 obtain⟨b1,b2,b3,b4⟩:=b
 by_cases g1:a1=b1
 rotate_left
 ·simp -implicitDefEqProofs [g1]
 subst g1
 by_cases g2:a2=b2
 rotate_left
 ·simp -implicitDefEqProofs [g2]
 subst g2
 by_cases g3:a3=b3
 rotate_left
 ·simp -implicitDefEqProofs [g3]
 subst g3
 simp -implicitDefEqProofs
 refine Aa (hD a4 b4 ha hb) ?_
 generalize hq:decide (a4=b4)=q
 simp -implicitDefEqProofs
abbrev AvS:Prop:=∀a b:World,AAK a->AAK b->R [arg (Bu a),arg (Bu b)] [] (B (decide (a=b))) []
theorem AEo (hE:Uu (D 357)) (hEn:AtP (D 502)) (hFE:Axt D (D 501))
 (hR:Aux (D 505)) (hDi:Auv (D 507)) (hFD:Au3 D (D 506))
 (hLo:AvO (D 510)) (hFL:Au6 D (D 509)):AvS (Body D At4):=by
 intro a b ha hb
 obtain⟨a1,a2,a3,a4,a5,a6⟩:=ha
 obtain⟨b1,b2,b3,b4,b5,b6⟩:=hb
 simp -implicitDefEqProofs
 refine Aa (hE a.server b.server a1 b1) ?_
 by_cases g1:a.server=b.server
 rotate_left
 ·have hne:a≠b:=fun h=>g1 (by simp[h])
  simp -implicitDefEqProofs [g1,hne]
 simp -implicitDefEqProofs [g1]
 refine Aa (hE a.tags b.tags a2 b2) ?_
 by_cases g2:a.tags=b.tags
 rotate_left
 ·have hne:a≠b:=fun h=>g2 (by simp[h])
  simp -implicitDefEqProofs [g2,hne]
 by_cases g3:a.key=b.key
 rotate_left
 ·have hne:a≠b:=fun h=>g3 (by simp[h])
  simp -implicitDefEqProofs [g2,g3,hne]
 simp -implicitDefEqProofs [g2,g3]
 refine Aa (hFE a.ends b.ends 502 a3.1 b3.1 (fun j h h'=>hEn _ _ (a3.2 j h) (b3.2 j h'))) ?_
 by_cases g4:a.ends=b.ends
 rotate_left
 ·have hne:a≠b:=fun h=>g4 (by simp[h])
  simp -implicitDefEqProofs [g4,hne]
 simp -implicitDefEqProofs [g4]
 refine Aa (hR a.rollout b.rollout a4 b4) ?_
 by_cases g5:a.rollout=b.rollout
 rotate_left
 ·have hne:a≠b:=fun h=>g5 (by simp[h])
  have g5':decide (a.rollout=b.rollout)=false:=by simpa using g5
  rw[g5']
  simp -implicitDefEqProofs [hne]
 have g5':decide (a.rollout=b.rollout)=true:=by simpa using g5
 rw[g5']
 by_cases g6:a.least=b.least
 rotate_left
 ·have hne:a≠b:=fun h=>g6 (by simp[h])
  simp -implicitDefEqProofs [g6,hne]
 by_cases g7:a.percent=b.percent
 rotate_left
 ·have hne:a≠b:=fun h=>g7 (by simp[h])
  simp -implicitDefEqProofs [g6,g7,hne]
 simp -implicitDefEqProofs [g6,g7]
 refine Aa (hFD a.stage b.stage 507 a5.1 b5.1 (fun j h h'=>hDi _ _ (a5.2 j h) (b5.2 j h'))) ?_
 by_cases g8:a.stage=b.stage
 rotate_left
 ·have hne:a≠b:=fun h=>g8 (by simp[h])
  simp -implicitDefEqProofs [g8,hne]
 simp -implicitDefEqProofs [g8]
 refine Aa (hFL a.log b.log 510 a6.1 b6.1 (fun j h h'=>hLo _ _ (a6.2 j h) (b6.2 j h'))) ?_
 by_cases g9:a.log=b.log
 rotate_left
 ·have hne:a≠b:=fun h=>g9 (by simp[h])
  simp -implicitDefEqProofs [g9,hne]
 by_cases h1:a.now=b.now
 rotate_left
 ·have hne:a≠b:=fun h=>h1 (by simp[h])
  simp -implicitDefEqProofs [g9,h1,hne]
 by_cases h2:a.hurt=b.hurt
 rotate_left
 ·have hne:a≠b:=fun h=>h2 (by simp[h])
  simp -implicitDefEqProofs [g9,h1,h2,hne]
 by_cases h3:a.reached=b.reached
 ·have e:a=b:=by cases a;cases b;simp_all
  simp -implicitDefEqProofs [g9,h1,h2,h3,e]
 ·have hne:a≠b:=fun h=>h3 (by simp[h])
  simp -implicitDefEqProofs [g9,h1,h2,h3,hne]
set_option maxHeartbeats 2000000
theorem max_mem:∀ {l:List Int} {a x:Int},x∈l->x<=l.foldl (fun a v=>if v>a then v else a) a
 | y::l,a,x,h=>by
  have ge:∀(l:List Int) (a:Int),a<=l.foldl (fun a v=>if v>a then v else a) a:=by
   intro l
   induction l with
   | nil=>intro a;exact Int.le_refl a
   | cons z l ih=>
    intro a
    simp only[List.foldl_cons]
    refine Int.le_trans ?_ (ih _)
    split<;>omega
  simp only[List.foldl_cons]
  rcases List.mem_cons.1 h with rfl | h
  ·refine Int.le_trans ?_ (ge l _)
   split<;>omega
  ·exact max_mem h
theorem AlI {s l:List Int} (hs:AQ s=true) (hl:AQ l=true) (h1:1∈s) (h2:1∈l):reach s l=true:=by
 unfold reach AJ
 rw[if_pos ⟨hs,hl⟩]
 have hm:(1:Int)∈common s l:=List.mem_filter.2 ⟨h1,by simpa using h2⟩
 have:=max_mem (a:=0) hm
 have:¬Sw (common s l)=0:=by unfold Sw;omega
 simp[this]
def Qz (y:Int):List Int:=El [1] (2+y)
theorem RV {y:Int} (h:0<=y/\y<2):VP (Qz y) 6 2/\1∈Qz y/\0<(Qz y).length:=
 ⟨Xj (AnG (by omega)) (by omega),(IQ _ _ _).2 (.inl (by simp)),put_pos _ _⟩
theorem AjM {l:List Int} {m:Nat} (h:VP l 6 m) (h0:0<l.length):AQ l=true:=ZB h.1 (fun x hx=>by have:=h.2.1 x hx;omega) h0
def Ao3 (e:Ai):Prop:=Aj0 e/\1∈e.versions/\∃y:Int,(0<=y/\y<2)/\e.versions=Qz y
theorem Apa {e:Ai} (h:Aj0 e):Am e<=40:=by
 have h1:=h.vers.2.2
 have h2:=h.tags.2.2
 have h3:∀(l:List EG),(∀b,b∈l->X5 b)->Cr Gm l<=9*l.length:=by
  intro l
  induction l with
  | nil=>intro _;simp[Cr]
  | cons b l ih=>
   intro hb
   have:=ih (fun x hx=>hb x (by simp[hx]))
   have hb0:=hb b (by simp)
   have e1:=hb0.2.1
   have e2:=hb0.2.2
   simp only[Cr,Gm,List.length_cons,List.map_cons,List.sum_cons]at *
   omega
 have:=h3 e.path h.path.2
 have:=h.path.1
 unfold Am
 omega
theorem Ao4 {l:List Ai} {m:Nat} (h:∀e,e∈l->Am e<=m):Cr Am l<=l.length*(m+1):=by
 induction l with
 | nil=>simp[Cr]
 | cons e l ih=>
  have:=ih (fun x hx=>h x (by simp[hx]))
  have:=h e (by simp)
  simp only[Cr,List.length_cons,List.map_cons,List.sum_cons,Nat.add_mul,Nat.mul_add,Nat.mul_one]at *
  omega
theorem Ama {l:List Ai} {P:Ai->Prop} {e:Ai} (h:∀x,x∈l->P x) (he:P e):∀x,x∈l++ [e]->P x:=by
 intro x hx
 rcases List.mem_append.1 hx with hx | hx
 ·exact h x hx
 ·simp at hx;subst hx;exact he
abbrev zW:List V:=[.nil 1,.nil 1,I 0,.nil 4,I 0,.nil 1,I 0,B false,I 0,I 0,.nil 5,.nil 8,I 0,I 0,I 0]
structure Aek (w:World):Prop where
 ok:Ap w=true
 sz:Af w<=400
 ends:0<w.ends.length
 eok:∀e,e∈w.ends->Ao3 e
 nolog:w.log=[]
 nostage:w.stage=[]
 few:w.ends.length<=5
 start:w.now=0/\w.hurt=0
 key:w.key=77/\w.reached=0
 ver:w.rollout.version=4∨w.rollout.version=5
theorem Ags {y z:Int} {r:AX} {t:List Int} {es:List Ai} (hy:0<=y/\y<2) (hz:0<=z/\z<2) (hr:Aix r) (ht:VP t 200 4) (he:∀e,e∈es->Ao3 e) (hl:0<es.length/\es.length<=5)
 {s:List Int} (hs:s=El (El [1] (2+y)) (4+z)) {v:Int} (hv:v∈s) (hv4:v=4∨v=5):Aek (Cw s t es ⟨v,r.stages,0,r.off⟩):=by
 have hs1:VP s 6 3:=by rw[hs];exact Xj (RV hy).1 (by omega)
 have hs2:1∈s:=by rw[hs];exact(IQ _ _ _).2 (.inl (RV hy).2.1)
 have hs3:0<s.length:=List.length_pos_of_mem hs2
 have hsv:=AjM hs1 hs3
 obtain⟨⟨⟨q1,q2,q3⟩,q4,q5⟩,q6⟩:=hr
 have e1:FY (Cw s t es ⟨v,r.stages,0,r.off⟩).server (Fh (Cw s t es ⟨v,r.stages,0,r.off⟩))=true:=by
  show FY s _=true
  unfold FY
  rw[hsv,Bool.true_and,List.all_eq_true]
  intro l hl
  obtain⟨e,he',rfl⟩:=List.mem_map.1 hl
  have h1:=he e he'
  exact AlI hsv (AjM h1.1.vers h1.1.pos) hs2 h1.2.1
 refine⟨?_,?_,hl.1,he,rfl,rfl,hl.2,⟨rfl,rfl⟩,⟨rfl,rfl⟩,hv4⟩
 ·have e2:FI t=true:=Aj5 ht.1 (fun x hx=>by have:=ht.2.1 x hx;omega)
  have e3:es.all Au=true:=List.all_eq_true.2 fun e h=>AqE (he e h).1
  have e4:AP ⟨v,r.stages,0,r.off⟩=true:=by
   unfold AP
   dsimp only
   have hvb:=hs1.2.1 v hv
   rw[Ak9 q1 q2,q5]
   simp only[Bool.true_and,Bool.and_eq_true,decide_eq_true_eq]
   exact⟨⟨⟨⟨by omega,by omega⟩,by omega,by omega⟩,by trivial⟩,by omega,by omega⟩
  unfold Ap Ke FM Es
  rw[e1]
  simp only[Cw,e2,e3,e4,Bool.true_and,Bool.and_true]
  simp -implicitDefEqProofs only[Bool.and_eq_true]
  exact⟨rfl,decide_eq_true (by omega),⟨decide_eq_true hv,decide_eq_true ⟨by omega,by omega⟩,decide_eq_true ⟨by omega,by omega⟩⟩,rfl,rfl,decide_eq_true ⟨by omega,by omega⟩,decide_eq_true ⟨by simp,by simp⟩,decide_eq_true ⟨by omega,by omega⟩⟩
 ·rw[Amh]
  have h1:=hs1.2.2
  have h2:=ht.2.2
  have h3:=Ao4 (l:=es) (m:=40) (fun e h=>Apa (he e h).1)
  have h4:es.length*41<=5*41:=Nat.mul_le_mul_right _ hl.2
  simp only[Db]
  omega
theorem Anp {y z:Int} (hy:0<=y/\y<2) (hz:0<=z/\z<2) {s:List Int} (hs:s=El (El [1] (2+y)) (4+z)) (h:s.length-1<s.length):s[s.length-1]=4∨s[s.length-1]=5:=by
 have h1:y=0∨y=1:=by omega
 have h2:z=0∨z=1:=by omega
 subst hs
 rcases h1 with rfl | rfl<;>rcases h2 with rfl | rfl<;>revert h<;>decide
abbrev RU:Prop:=∀c:QM,Dw c->JA R [] c Aek (fun w=> .agg (Bu w))
theorem Aio (hB:CB (D 478)) (hP:Mf (D 159)) (hR:Uy (D 487)) (hE:QI (D 488)) (hT:Oc (D 489)) (hN:RJ (D 70)):RU (Body D I5):=by
 intro c hc
 refine EJ (fun Q hQ=> ?_)
 simp -implicitDefEqProofs
 obtain⟨y,c1,hy,hc1,py⟩:=hB c 2 hc (by omega)
 simp -implicitDefEqProofs [AL,ints]at py
 refine Aa (py) ?_
 have hy2:=hy.2.2 (by omega)
 have w1:IntKind.i64.wrap (2+y)=2+y:=Ad (by omega) (by omega)
 simp -implicitDefEqProofs [w1]
 have pp:=hP [1] (2+y) (by simp)
 simp -implicitDefEqProofs [ints]at pp
 refine Aa (pp) ?_
 simp -implicitDefEqProofs
 obtain⟨z,c2,hz,hc2,pz⟩:=hB c1 2 hc1 (by omega)
 simp -implicitDefEqProofs [AL,ints]at pz
 refine Aa (pz) ?_
 have hz2:=hz.2.2 (by omega)
 have w2:IntKind.i64.wrap (4+z)=4+z:=Ad (by omega) (by omega)
 have hl2:=(RV (y:=y) ⟨by omega,by omega⟩).1.2.2
 unfold Qz at hl2
 simp -implicitDefEqProofs [w2]
 have pp2:=hP (El [1] (2+y)) (4+z) (by omega)
 simp -implicitDefEqProofs [ints]at pp2
 refine Aa (pp2) ?_
 obtain⟨sv,hs⟩:∃sv,sv=El (El [1] (2+y)) (4+z):=⟨_,rfl⟩
 have hsp:0<sv.length:=by rw[hs];exact put_pos _ _
 have hsl:sv.length<=3:=by rw[hs];exact Nat.le_trans (Rm _ _) (by omega)
 rw[<-hs]
 simp -implicitDefEqProofs
 obtain⟨r,c3,hr,hc3,pr⟩:=hR c2 hc2
 simp -implicitDefEqProofs [AL,ints]at pr
 refine Aa (pr) ?_
 have hws:IntKind.i64.wrap ((sv.length:Int)-1)=(sv.length-1:Nat):=by rw[Ad (by omega) (by omega)];omega
 have hs1:sv.length-1<sv.length:=by omega
 simp -implicitDefEqProofs [hws,hs1]
 obtain⟨x,c4,hx,hc4,px⟩:=hB c3 4 hc3 (by omega)
 simp -implicitDefEqProofs [AL,ints]at px
 refine Aa (px) ?_
 have hx4:=hx.2.2 (by omega)
 have w3:IntKind.i64.wrap (2+x)=2+x:=Ad (by omega) (by omega)
 obtain⟨n,hn⟩:∃n:Nat,2+x=n:=⟨(2+x).toNat,by omega⟩
 simp -implicitDefEqProofs [w3,hn]
 have hv:sv[sv.length-1]∈sv:=List.getElem_mem hs1
 have hv4:=Anp ⟨by omega,by omega⟩ ⟨by omega,by omega⟩ hs hs1
 have w5:IntKind.i64.wrap (n:Int)=n:=Ad (by omega) (by omega)
 generalize sv[sv.length-1]=v at hv hv4
 obtain⟨LI,hLI⟩:∃LI:Nat->St->Prop,LI=fun k s=>∃j cc es o8 o9 o10 o11 o12 o13 o14,j+k=n/\Dw cc/\(es:List Ai).length=j/\(∀e,e∈es->Ao3 e)/\s=⟨[.ptr 0 0,.ptr 1 0,.arr 4,.ptr 6 0,.arr 24,I k,.undef,.undef,.undef],[.var (AL cc),.var zW,.arr 1 0 1 [I 1],.arr 1 0 (El [1] (2+y)).length (ints (El [1] (2+y))),.arr 1 0 sv.length (ints sv),.arr 1 0 r.stages.length (ints r.stages),.var [I v,.arr 5,I 0,B r.off],.free,o8,o9,o10,o11,o12,o13,o14,.free,.free,.free,.free,.free,.free,.free,.free,.free,.arr 4 0 es.length (es.flatMap Ah)]⟩:=⟨_,rfl⟩
 refine Ag LI ?_ (n) _ (by rw[hLI];exact⟨0,c4,[],.free,.free,.free,.free,.free,.free,.free,by simp,hc4,rfl,by simp,by simp[ints,w5]⟩)
 intro k s hs
 rw[hLI]at hs
 obtain⟨j,cc,es,o8,o9,o10,o11,o12,o13,o14,hj,hcc,hel,hes,hs⟩:=hs
 subst hs
 by_cases hk:0<k
 ·have hwk:IntKind.i64.wrap ((k:Int)-1)=(k-1:Nat):=by rw[Ad (by omega) (by omega)];omega
  have hb1:(es.length+1)*80<=1099511627776:=by omega
  simp -implicitDefEqProofs [hk]
  obtain⟨e,c5,he,hc5,pe⟩:=hE cc hcc
  simp -implicitDefEqProofs [AL,ints]at pe
  refine Aa (pe) ?_
  simp -implicitDefEqProofs
  obtain⟨u,c6,hu,hc6,pu⟩:=hB c5 2 hc5 (by omega)
  simp -implicitDefEqProofs [AL,ints]at pu
  refine Aa (pu) ?_
  have hu2:=hu.2.2 (by omega)
  have w4:IntKind.i64.wrap (2+u)=2+u:=Ad (by omega) (by omega)
  simp -implicitDefEqProofs [w4]
  have pp3:=hP [1] (2+u) (by simp)
  simp -implicitDefEqProofs [ints]at pp3
  refine Aa (pp3) ?_
  simp -implicitDefEqProofs [hb1,hwk]
  have ho:=RV (y:=u) ⟨by omega,by omega⟩
  have he1:Ao3 ⟨Qz u,e.tags,e.path,e.cls⟩:=⟨⟨O5 ho.1 (by omega),ho.2.2,he.tags,he.path,he.cls⟩,ho.2.1,u,⟨by omega,by omega⟩,rfl⟩
  refine⟨k-1,by omega,?_⟩
  rw[hLI]
  exact⟨j+1,c6,es++ [⟨Qz u,e.tags,e.path,e.cls⟩],_,_,_,_,_,_,_,by omega,hc6,by simp[hel],Ama hes he1,by simp[Ah,ints,Qz];exact⟨rfl,rfl,rfl,rfl,rfl,rfl,rfl⟩⟩
 ·have hk0:k=0:=by omega
  subst hk0
  simp -implicitDefEqProofs
  obtain⟨t,c7,ht,hc7,pt⟩:=hT cc hcc
  simp -implicitDefEqProofs [AL,ints]at pt
  refine Aa (pt) ?_
  have hw:=Ags (y:=y) (z:=z) (r:=r) (t:=t) (es:=es) ⟨by omega,by omega⟩ ⟨by omega,by omega⟩ hr ht hes ⟨by omega,by omega⟩ hs hv hv4
  have hnw:=hN sv t es ⟨v,r.stages,0,r.off⟩ (by have:=hw.sz;omega)
  have hne:JV sv t es ⟨v,r.stages,0,r.off⟩=(Cw sv t es ⟨v,r.stages,0,r.off⟩,true):=by unfold JV;rw[if_pos hw.ok]
  rw[hne]at hnw
  simp -implicitDefEqProofs
  simp -implicitDefEqProofs [AL,ints,Cw]at hnw
  refine Aa (hnw) ?_
  simp -implicitDefEqProofs [Cu,Ab]
  exact hQ _ c7 hw hc7
set_option maxHeartbeats 4000000
def Ca (w:World) (r:AX):World:={w with rollout:=r}
def BS (w:World):World×Bool:=
 if w.reached=0 then(w,false)
 else if LB w=1 then(if(Bp w.rollout).2=true then(enter (Ca w (Bp w.rollout).1),true)else(w,false))
 else if LB w=2 then(if(BI w.rollout).2=true then(leave (Ca w (BI w.rollout).1),true)else(w,false))
 else(w,false)
abbrev Pk:Prop:=∀w:World,Af w<=4194304->R [arg (Bu w)] [] (.tup [.agg (Bu (BS w).1),B (BS w).2]) []
theorem AjU (r:AX):Db (Bp r).1=Db r:=by unfold Bp;split<;>rfl
theorem Aoc (r:AX):Db (BI r).1=Db r:=by unfold BI;split<;>rfl
theorem Abi (r:AX):(BI r).1.version=r.version:=by unfold BI;split<;>rfl
theorem AgZ {w:World} {r:AX} (h:Db r=Db w.rollout):Af (Ca w r)=Af w:=by simp only[Af,Ca,h]
theorem Ah7 {w:World} {r:AX} (h:r.version=w.rollout.version):leave (Ca w r)=Ca (leave w) r:=by
 have e:Ev (Ca w r)=Ev w:=by
  funext x
  unfold Ev Ca
  rw[h]
 unfold leave
 rw[e]
 rfl
theorem AFA (hC:EF (D 38)) (hN:Pq (D 127)) (hX:PX (D 178)) (hE:J3 (D 177)) (hB:Pj (D 179)) (hL:JG (D 180)):Pk (Body D Avn):=by
 intro w hsz
 have hr:=XH hsz
 simp -implicitDefEqProofs
 refine Aa (hC w hsz) ?_
 by_cases h0:w.reached=0
 ·have e:BS w=(w,false):=by unfold BS;rw[if_pos h0]
  simp -implicitDefEqProofs [h0,e]
 simp -implicitDefEqProofs [h0]
 refine Aa (hN w hsz) ?_
 by_cases g1:LB w=1
 ·simp -implicitDefEqProofs [g1]
  refine Aa (hX w.rollout hr) ?_
  have hs:=AjU w.rollout
  by_cases hk:(Bp w.rollout).2=true
  ·have e:BS w=(enter (Ca w (Bp w.rollout).1),true):=by unfold BS;rw[if_neg h0,if_pos g1,if_pos hk]
   rw[e]
   generalize(Bp w.rollout).1=r at hs
   simp -implicitDefEqProofs [hk]
   refine Aa (hE (Ca w r) (by rw[AgZ hs];exact hsz)) ?_
   simp -implicitDefEqProofs
  ·have e:BS w=(w,false):=by unfold BS;rw[if_neg h0,if_pos g1,if_neg hk]
   rw[e]
   generalize(Bp w.rollout).1=r
   simp -implicitDefEqProofs [hk]
   refine Aa (hC w hsz) ?_
   simp -implicitDefEqProofs
 simp -implicitDefEqProofs [g1]
 by_cases g2:LB w=2
 ·simp -implicitDefEqProofs [g2]
  refine Aa (hB w.rollout hr) ?_
  have hs:=Aoc w.rollout
  by_cases hk:(BI w.rollout).2=true
  ·have e:BS w=(leave (Ca w (BI w.rollout).1),true):=by unfold BS;rw[if_neg h0,if_neg g1,if_pos g2,if_pos hk]
   rw[e]
   generalize(BI w.rollout).1=r at hs
   simp -implicitDefEqProofs [hk]
   refine Aa (hL (Ca w r) (by rw[AgZ hs];exact hsz)) ?_
   simp -implicitDefEqProofs
  ·have e:BS w=(w,false):=by unfold BS;rw[if_neg h0,if_neg g1,if_pos g2,if_neg hk]
   rw[e]
   generalize(BI w.rollout).1=r
   simp -implicitDefEqProofs [hk]
   refine Aa (hC w hsz) ?_
   simp -implicitDefEqProofs
 have e:BS w=(w,false):=by unfold BS;rw[if_neg h0,if_neg g1,if_neg g2]
 rw[e]
 simp -implicitDefEqProofs [g2]
 refine Aa (hC w hsz) ?_
 simp -implicitDefEqProofs
theorem AeE (hC:EF (D 22)) (hN:Pq (D 82)) (hX:PX (D 147)) (hE:J3 (D 146)) (hB:Pj (D 148)) (hL:JG (D 149)):Pk (Body D Kz):=by
 intro w hsz
 have hr:=XH hsz
 simp -implicitDefEqProofs
 refine Aa (hC w hsz) ?_
 by_cases h0:w.reached=0
 ·have e:BS w=(w,false):=by unfold BS;rw[if_pos h0]
  simp -implicitDefEqProofs [h0,e]
 simp -implicitDefEqProofs [h0]
 refine Aa (hN w hsz) ?_
 by_cases g1:LB w=1
 ·simp -implicitDefEqProofs [g1]
  refine Aa (hX w.rollout hr) ?_
  have hs:=AjU w.rollout
  by_cases hk:(Bp w.rollout).2=true
  ·have e:BS w=(enter (Ca w (Bp w.rollout).1),true):=by unfold BS;rw[if_neg h0,if_pos g1,if_pos hk]
   rw[e]
   generalize(Bp w.rollout).1=r at hs
   simp -implicitDefEqProofs [hk]
   refine Aa (hE (Ca w r) (by rw[AgZ hs];exact hsz)) ?_
   simp -implicitDefEqProofs
  ·have e:BS w=(w,false):=by unfold BS;rw[if_neg h0,if_pos g1,if_neg hk]
   rw[e]
   generalize(Bp w.rollout).1=r
   simp -implicitDefEqProofs [hk]
 simp -implicitDefEqProofs [g1]
 by_cases g2:LB w=2
 ·simp -implicitDefEqProofs [g2]
  refine Aa (hB w.rollout hr) ?_
  have hv:=Abi w.rollout
  by_cases hk:(BI w.rollout).2=true
  ·have e:BS w=(Ca (leave w) (BI w.rollout).1,true):=by unfold BS;rw[if_neg h0,if_neg g1,if_pos g2,if_pos hk,Ah7 hv]
   rw[e]
   generalize(BI w.rollout).1=r
   simp -implicitDefEqProofs [hk]
   refine Aa (hL w hsz) ?_
   simp -implicitDefEqProofs [Ca]
  ·have e:BS w=(w,false):=by unfold BS;rw[if_neg h0,if_neg g1,if_pos g2,if_neg hk]
   rw[e]
   generalize(BI w.rollout).1=r
   simp -implicitDefEqProofs [hk]
 have e:BS w=(w,false):=by unfold BS;rw[if_neg h0,if_neg g1,if_neg g2]
 rw[e]
 simp -implicitDefEqProofs [g2]
set_option maxHeartbeats 2000000
theorem Zu (p:Int->Bool) (l:List Ext):(kept p l).length<=l.length:=List.length_filter_le _ _
theorem AiX (b:EG) (h:Hello):(BV b h).1.exts.length<=h.exts.length:=by
 unfold BV
 split
 ·exact Zu _ _
 ·simp[AU]
theorem AdX:∀(path:List EG) (h:Hello),(Gd path h).1.exts.length<=h.exts.length
 | [],h=>by simp[Gd]
 | b::r,h=>by
  have h1:=AiX b h
  have h2:=AdX r (BV b h).1
  unfold Gd
  split
  ·omega
  ·simp[AU]
theorem AfM (path:List EG) (h:Hello):(Bd path h).1.exts.length<=h.exts.length:=by
 unfold Bd
 split
 ·exact AdX _ _
 ·simp[AU]
theorem Apd (h:Hello) (a b:List Int):(ET h a b).1.exts.length<=h.exts.length:=by
 unfold ET
 split
 ·exact Zu (fun t=> !decide (t∈b)) h.exts
 ·simp[AU]
theorem Aov (h:Hello) (path:List EG):(Bg h path).1.exts.length<=h.exts.length:=by
 unfold Bg fallback
 have:=Apd h (BZ path h.versions) (FZ path (leftOf h.versions (BZ path h.versions)) h.exts)
 repeat' split
 all_goals simp[AU]<;>omega
theorem AlG (h seen:Hello) (vs tags:List Int) (key:Int):(O1 h seen vs tags key).tags.length<=seen.exts.length:=by
 unfold O1
 split
 ·have:(Bb vs tags seen).1.exts.length<=seen.exts.length:=by
   unfold Bb
   split
   ·exact Nat.le_trans (Zu (fun t=> !BH t) (JP seen.exts tags)) (Zu (fun t=>decide (t∈tags)) seen.exts)
   ·simp
  simpa[Ba]using this
 ·simp[E9]
theorem AoR (h:Hello) (path:List EG) (vs tags:List Int) (key:Int):Cb (Xh h path vs tags key)<=2*h.exts.length+h.versions.length:=by
 unfold Xh
 split
 ·have h1:=Aov h path
  have h2:=AfM path (Bg h path).1
  have h3:(Hl (Bg h path).1 path vs tags key).tags.length<=h.exts.length:=by
   unfold Hl
   split
   ·have:=AlG (Bg h path).1 (Bd path (Bg h path).1).1 vs tags key;omega
   ·simp[E9]
  have h4:(JN h (Bg h path).1).length<=h.exts.length+h.versions.length:=by
   unfold JN leftOf
   have a1:=List.length_filter_le (fun v=> !decide (v∈(Bg h path).1.versions)) h.versions
   have a2:=List.length_filter_le (Abb (Ba (Bg h path).1.exts)) (Ba h.exts)
   have a3:(Ba h.exts).length=h.exts.length:=QA _
   simp only[List.length_append,List.length_map]
   omega
  simp only[Cb,ND]
  omega
 ·simp[Cb,ND,E9]
theorem Ak5 (l:List Ext) (seed:Int) (h:l.length<=5):(Ew l seed).length<=6:=by
 unfold Ew
 split
 ·simp;omega
 ·omega
theorem AiU (e:Ai) (vs tags:List Int) (key seed:Int):Cb (MO e vs tags key seed)<=21:=by
 unfold MO
 split
 ·rename_i h1
  have h5:=Uh h1
  have e1:Ho e seed=⟨e.versions,Ew (bare e.tags) seed⟩:=by unfold Ho;rw[if_pos h1]
  have h2:=AoR (Ho e seed) e.path vs tags key
  have h3:=Ak5 (bare e.tags) seed (by rw[Om];exact h5)
  have h4:e.versions.length<=9:=by
   unfold Au at h1
   simp only[Bool.and_eq_true,decide_eq_true_eq]at h1
   exact AgB h1.1
  rw[e1]at h2⊢
  dsimp only at h2⊢
  omega
 ·simp[Cb,ND,Md,E9]
theorem AdR (w:World) (i:Int):Cb (KI w i)<=21:=by
 unfold KI
 repeat' split
 all_goals first | exact AiU _ _ _ _ _ | simp[Cb,ND,Md,E9]
def Hu (w:World) (i:Int) (d:BP) (on:Bool):World:=
 {w with log:=w.log++ [⟨i,w.now,on,d⟩],stage:=(if on=true then w.stage++ [d]else w.stage),hurt:=(if(on&&Lj w.rollout.version d)=true then IntKind.i64.wrap (w.hurt+1)else w.hurt)}
def Lu (w:World) (i:Int):Bool:=decide (NJ i 0 ((w.ends.length:Int)-1))&&(decide (w.log.length<60)&&decide (w.stage.length<60))
def CR (w:World) (i:Int):World×Bool:=if Lu w i=true then(Hu w i (KI w i) (Pg w i),true)else(w,false)
abbrev RZ:Prop:=∀(w:World) (i:Int),Af w<=4194304->R [arg (Bu w),I i] [] (.tup [.agg (Bu (CR w i).1),B (CR w i).2]) []
theorem Ahi (hC:EF (D 22)) (hI:Vf (D 71)) (hDo:ZL (D 142)) (hOn:Vw (D 143)) (hCd:NY (D 67)) (hB:PN (D 144)):RZ (Body D Mx):=by
 intro w i hsz
 have he:=FE hsz
 have hw:IntKind.i64.wrap ((w.ends.length:Int)-1)=(w.ends.length:Int)-1:=Ad (by omega) (by omega)
 simp -implicitDefEqProofs
 refine Aa (hC w hsz) ?_
 simp -implicitDefEqProofs [hw]
 refine Aa (hI _ _ _) ?_
 by_cases h1:NJ i 0 ((w.ends.length:Int)-1)
 rotate_left
 ·simp -implicitDefEqProofs [h1,CR,Lu]
 by_cases h2:w.log.length<60
 rotate_left
 ·have h2':(60:Int)<=w.log.length:=by omega
  simp -implicitDefEqProofs [h1,h2,h2',CR,Lu]
 have h2':¬(60:Int)<=w.log.length:=by omega
 by_cases h3:w.stage.length<60
 rotate_left
 ·have h3':(60:Int)<=w.stage.length:=by omega
  simp -implicitDefEqProofs [h1,h2,h2',h3,h3',CR,Lu]
 have h3':¬(60:Int)<=w.stage.length:=by omega
 have e:CR w i=(Hu w i (KI w i) (Pg w i),true):=by unfold CR Lu;rw[if_pos (by simp[h1,h2,h3])]
 rw[e]
 have hds:=AdR w i
 simp -implicitDefEqProofs [h1,h2',h3']
 refine Aa (hDo w i hsz) ?_
 generalize KI w i=d at hds
 simp -implicitDefEqProofs
 refine Aa (hOn w i hsz) ?_
 generalize Pg w i=on
 have b1:(w.log.length+1)*96<=1099511627776:=by omega
 have b2:(w.stage.length+1)*72<=1099511627776:=by omega
 have b3:d.up.length<=maxLen:=by unfold Cb at hds;unfold maxLen;omega
 by_cases g:on=true
 rotate_left
 ·simp -implicitDefEqProofs [g,b1,Hu,Az]
 simp -implicitDefEqProofs [g,b1]
 trace_state
 refine Aa (hCd d (by omega)) ?_
 simp -implicitDefEqProofs [g,b1,b2]
 refine Aa (hB d _ b3) ?_
 by_cases g2:Lj w.rollout.version d=true
 ·simp -implicitDefEqProofs [g,g2,b1,b2,Hu,Az,AB]
 ·simp -implicitDefEqProofs [g,g2,b1,b2,Hu,Az,AB]
theorem AGZ (hC:EF (D 38)) (hI:Au5 (D 117)) (hDo:ZL (D 173)) (hOn:Vw (D 174)) (hCd:NY (D 103)) (hB:PN (D 175)):RZ (Body D Av8):=by
 intro w i hsz
 have he:=FE hsz
 simp -implicitDefEqProofs
 refine Aa (hC w hsz) ?_
 simp -implicitDefEqProofs
 refine Aa (hI w i he) ?_
 by_cases h1:NJ i 0 ((w.ends.length:Int)-1)
 rotate_left
 ·simp -implicitDefEqProofs [h1,CR,Lu]
 by_cases h2:w.log.length<60
 rotate_left
 ·have h2':(60:Int)<=w.log.length:=by omega
  simp -implicitDefEqProofs [h1,h2,h2',CR,Lu]
 have h2':¬(60:Int)<=w.log.length:=by omega
 by_cases h3:w.stage.length<60
 rotate_left
 ·have h3':(60:Int)<=w.stage.length:=by omega
  simp -implicitDefEqProofs [h1,h2,h2',h3,h3',CR,Lu]
 have h3':¬(60:Int)<=w.stage.length:=by omega
 have e:CR w i=(Hu w i (KI w i) (Pg w i),true):=by unfold CR Lu;rw[if_pos (by simp[h1,h2,h3])]
 rw[e]
 have hds:=AdR w i
 simp -implicitDefEqProofs [h1,h2',h3']
 refine Aa (hDo w i hsz) ?_
 generalize KI w i=d at hds
 simp -implicitDefEqProofs
 refine Aa (hOn w i hsz) ?_
 generalize Pg w i=on
 have b1:(w.log.length+1)*96<=1099511627776:=by omega
 have b2:(w.stage.length+1)*72<=1099511627776:=by omega
 have b3:d.up.length<=maxLen:=by unfold Cb at hds;unfold maxLen;omega
 by_cases g:on=true
 rotate_left
 ·simp -implicitDefEqProofs [g,b1,Hu,Az]
 simp -implicitDefEqProofs [g,b1]
 trace_state
 refine Aa (hCd d (by omega)) ?_
 simp -implicitDefEqProofs [g,b1,b2]
 refine Aa (hB d _ b3) ?_
 by_cases g2:Lj w.rollout.version d=true
 ·simp -implicitDefEqProofs [g,g2,b1,b2,Hu,Az,AB]
 ·simp -implicitDefEqProofs [g,g2,b1,b2,Hu,Az,AB]
theorem AdZ (w:World) (i:Int):Af (CR w i).1+(60-(CR w i).1.log.length)*50<=Af w+(60-w.log.length)*50/\(CR w i).1.ends=w.ends/\(CR w i).1.rollout=w.rollout:=by
 unfold CR
 split
 ·rename_i h
  unfold Lu at h
  simp only[Bool.and_eq_true,decide_eq_true_eq]at h
  have hd:=AdR w i
  refine⟨?_,rfl,rfl⟩
  unfold Hu
  simp only[Af,Cr,List.length_append,List.length_cons,List.length_nil,List.map_append,List.map_cons,List.map_nil,List.sum_append,List.sum_cons,List.sum_nil,Ip]
  split
  ·simp only[List.length_append,List.length_cons,List.length_nil,List.map_append,List.map_cons,List.map_nil,List.sum_append,List.sum_cons,List.sum_nil];omega
  ·omega
 ·exact⟨Nat.le_refl _,rfl,rfl⟩
def Apu (w:World):Nat->World
 | 0=>w
 | n+1=>(CR (Apu w n) n).1
def AGj (w:World):World:=Apu w w.ends.length
theorem AFh (w:World):∀n,Af (Apu w n)+(60-(Apu w n).log.length)*50<=Af w+(60-w.log.length)*50
 | 0=>Nat.le_refl _
 | n+1=>Nat.le_trans (AdZ (Apu w n) n).1 (AFh w n)
theorem AKm (w:World) (n:Nat):Af (Apu w n)<=Af w+3000:=by have:=AFh w n;omega
abbrev AC8:Prop:=∀w:World,Af w<=4190000->R [arg (Bu w)] [] (.agg (Bu (AGj w))) []
theorem AJq (hC:EF (D 38)) (hD:RZ (D 106)):AC8 (Body D Axp):=by
 intro w hsz
 have he:=FE (w:=w) (by omega)
 simp -implicitDefEqProofs
 refine Aa (hC w (by omega)) ?_
 simp -implicitDefEqProofs
 refine Ag (fun k s=>∃j,j+k=w.ends.length/\s=⟨[.undef,.undef,.ptr 1 0,.ptr 8 0,.undef,I w.ends.length,I j,.undef],[.var ((Bu w).map (AO 1)),.var [.nil 1,.nil 1,I 0,.nil 4,I 0,.nil 1,I 0,B false,I 0,I 0,.nil 5,.nil 8,I 0,I 0,I 0],.free,.free,.free,.free,.free,.free,.var [.arr 15,.arr 16,I (Apu w j).key,.arr 17,I (Apu w j).rollout.version,.arr 18,I (Apu w j).rollout.pos,B (Apu w j).rollout.off,I (Apu w j).least,I (Apu w j).percent,.arr 19,.arr 20,I (Apu w j).now,I (Apu w j).hurt,I (Apu w j).reached],.free,.free,.free,.free,.free,.free,.arr 1 0 (Apu w j).server.length (ints (Apu w j).server),.arr 1 0 (Apu w j).tags.length (ints (Apu w j).tags),.arr 4 0 (Apu w j).ends.length ((Apu w j).ends.flatMap Ah),.arr 1 0 (Apu w j).rollout.stages.length (ints (Apu w j).rollout.stages),.arr 5 0 (Apu w j).stage.length ((Apu w j).stage.flatMap AB),.arr 8 0 (Apu w j).log.length ((Apu w j).log.flatMap Az)]⟩) ?_ (w.ends.length) _ ⟨0,by simp,by simp[Apu]⟩
 intro k s ⟨j,hj,hs⟩
 subst hs
 by_cases hjn:j<w.ends.length
 ·have hw:=Cv (j:=j) (by omega)
  simp -implicitDefEqProofs [hjn]
  refine Aa (hD (Apu w j) j (by have:=AKm w j;omega)) ?_
  have e:(CR (Apu w j) j).1=Apu w (j+1):=rfl
  rw[e]
  simp -implicitDefEqProofs
  exact⟨k-1,by omega,j+1,by omega,by simp[hw]⟩
 ·obtain rfl:j=w.ends.length:=by omega
  simp -implicitDefEqProofs [AGj]
theorem Ajg (s:List Int) (ls:List (List Int)) (v pm:Int):(GN s ls v pm).1.length<=s.length:=by
 unfold GN
 split
 ·exact List.length_filter_le _ _
 ·exact Nat.le_refl _
theorem Aca (w:World) (v pm:Int):Af (Br w v pm).1<=Af w:=by
 unfold Br
 have:=Ajg w.server (Fh w) v pm
 split
 ·simp only[Af];omega
 ·exact Nat.le_refl _
set_option maxHeartbeats 4000000
def AA (w:World) (e:Event):World×Bool:=
 if e.kind=1 then CR w e.n else if e.kind=2 then Dc w else if e.kind=3 then BS w else if e.kind=4 then Br w e.n 200 else if e.kind=5 then EC w e.n
 else if e.kind=6 then Fg w e.n e.box else if e.kind=7 then DX w e.n else if e.kind=8 then ED w e.n else(w,false)
abbrev MS:Prop:=∀(w:World) (e:Event),Af w<=4194304->Hy e<=4194304->R [arg (Bu w),arg (BJ e)] [] (.tup [.agg (Bu (AA w e).1),B (AA w e).2]) []
theorem Adc (hC:EF (D 22)) (h1:RZ (D 72)) (h2:OT (D 74)) (h3:Pk (D 75)) (h4:MZ (D 76)) (h5:MI (D 77))
 (h6:UJ (D 78)) (h7:Pv (D 79)) (h8:RL (D 80)):MS (Body D Jv):=by
 intro w e hsz hse
 simp -implicitDefEqProofs
 by_cases g1:e.kind=1
 ·have ha:AA w e=CR w e.n:=by unfold AA;simp[g1]
  rw[ha]
  simp -implicitDefEqProofs [g1]
  refine Aa (h1 w e.n hsz) ?_
  generalize CR w e.n=r
  simp -implicitDefEqProofs
 by_cases g2:e.kind=2
 ·have ha:AA w e=Dc w:=by unfold AA;simp[g2]
  rw[ha]
  simp -implicitDefEqProofs [g2]
  refine Aa (h2 w hsz) ?_
  generalize Dc w=r
  simp -implicitDefEqProofs
 by_cases g3:e.kind=3
 ·have ha:AA w e=BS w:=by unfold AA;simp[g3]
  rw[ha]
  simp -implicitDefEqProofs [g3]
  refine Aa (h3 w hsz) ?_
  generalize BS w=r
  simp -implicitDefEqProofs
 by_cases g4:e.kind=4
 ·have ha:AA w e=Br w e.n 200:=by unfold AA;simp[g4]
  rw[ha]
  simp -implicitDefEqProofs [g4]
  refine Aa (h4 w e.n 200 hsz) ?_
  generalize Br w e.n 200=r
  simp -implicitDefEqProofs
 by_cases g5:e.kind=5
 ·have ha:AA w e=EC w e.n:=by unfold AA;simp[g5]
  rw[ha]
  simp -implicitDefEqProofs [g5]
  refine Aa (h5 w e.n hsz) ?_
  generalize EC w e.n=r
  simp -implicitDefEqProofs
 by_cases g6:e.kind=6
 ·have ha:AA w e=Fg w e.n e.box:=by unfold AA;simp[g6]
  rw[ha]
  simp -implicitDefEqProofs [g6]
  refine Aa (h6 w e.n e.box hsz hse) ?_
  generalize Fg w e.n e.box=r
  simp -implicitDefEqProofs
 by_cases g7:e.kind=7
 ·have ha:AA w e=DX w e.n:=by unfold AA;simp[g7]
  rw[ha]
  simp -implicitDefEqProofs [g7]
  refine Aa (h7 w e.n hsz) ?_
  generalize DX w e.n=r
  simp -implicitDefEqProofs
 by_cases g8:e.kind=8
 ·have ha:AA w e=ED w e.n:=by unfold AA;simp[g8]
  rw[ha]
  simp -implicitDefEqProofs [g8]
  refine Aa (h8 w e.n hsz) ?_
  generalize ED w e.n=r
  simp -implicitDefEqProofs
 have ha:AA w e=(w,false):=by unfold AA;simp[g1,g2,g3,g4,g5,g6,g7,g8]
 rw[ha]
 simp -implicitDefEqProofs [g1,g2,g3,g4,g5,g6,g7,g8]
 refine Aa (hC w hsz) ?_
 simp -implicitDefEqProofs
theorem AER (hC:EF (D 38)) (h1:RZ (D 106)) (h2:OT (D 107)) (h3:Pk (D 108)) (h4:MZ (D 109)) (h5:MI (D 110))
 (h6:UJ (D 111)) (h7:Pv (D 112)) (h8:RL (D 113)):MS (Body D AuZ):=by
 intro w e hsz hse
 simp -implicitDefEqProofs
 by_cases g1:e.kind=1
 ·have ha:AA w e=CR w e.n:=by unfold AA;simp[g1]
  rw[ha]
  simp -implicitDefEqProofs [g1]
  refine Aa (h1 w e.n hsz) ?_
  generalize CR w e.n=r
  simp -implicitDefEqProofs
 by_cases g2:e.kind=2
 ·have ha:AA w e=Dc w:=by unfold AA;simp[g2]
  rw[ha]
  simp -implicitDefEqProofs [g2]
  refine Aa (h2 w hsz) ?_
  generalize Dc w=r
  simp -implicitDefEqProofs
 by_cases g3:e.kind=3
 ·have ha:AA w e=BS w:=by unfold AA;simp[g3]
  rw[ha]
  simp -implicitDefEqProofs [g3]
  refine Aa (h3 w hsz) ?_
  generalize BS w=r
  simp -implicitDefEqProofs
 by_cases g4:e.kind=4
 ·have ha:AA w e=Br w e.n 200:=by unfold AA;simp[g4]
  rw[ha]
  simp -implicitDefEqProofs [g4]
  refine Aa (h4 w e.n 200 hsz) ?_
  generalize Br w e.n 200=r
  simp -implicitDefEqProofs
 by_cases g5:e.kind=5
 ·have ha:AA w e=EC w e.n:=by unfold AA;simp[g5]
  rw[ha]
  simp -implicitDefEqProofs [g5]
  refine Aa (h5 w e.n hsz) ?_
  generalize EC w e.n=r
  simp -implicitDefEqProofs
 by_cases g6:e.kind=6
 ·have ha:AA w e=Fg w e.n e.box:=by unfold AA;simp[g6]
  rw[ha]
  simp -implicitDefEqProofs [g6]
  refine Aa (h6 w e.n e.box hsz hse) ?_
  generalize Fg w e.n e.box=r
  simp -implicitDefEqProofs
 by_cases g7:e.kind=7
 ·have ha:AA w e=DX w e.n:=by unfold AA;simp[g7]
  rw[ha]
  simp -implicitDefEqProofs [g7]
  refine Aa (h7 w e.n hsz) ?_
  generalize DX w e.n=r
  simp -implicitDefEqProofs
 by_cases g8:e.kind=8
 ·have ha:AA w e=ED w e.n:=by unfold AA;simp[g8]
  rw[ha]
  simp -implicitDefEqProofs [g8]
  refine Aa (h8 w e.n hsz) ?_
  generalize ED w e.n=r
  simp -implicitDefEqProofs
 have ha:AA w e=(w,false):=by unfold AA;simp[g1,g2,g3,g4,g5,g6,g7,g8]
 rw[ha]
 simp -implicitDefEqProofs [g1,g2,g3,g4,g5,g6,g7,g8]
 refine Aa (hC w hsz) ?_
 simp -implicitDefEqProofs
theorem AfZ:∀(l:List Int) (v:Int),Ei (Ua l (Ei l v) v) v=Ei l v/\(Ua l (Ei l v) v)[Ei l v]? =some v
 | [],v=>by simp[Ei,Ua]
 | x::r,v=>by
  have:=AfZ r v
  by_cases h:x<v
  ·have e:Ua (x::r) (Ei (x::r) v) v=x::Ua r (Ei r v) v:=by simp[Ei,if_pos h,Ua]
   rw[e]
   simp only[Ei,if_pos h]
   exact⟨by rw[this.1],by simpa using this.2⟩
  ·simp[Ei,if_neg h,Ua]
theorem AiC (l:List Int) (v:Int):El (El l v) v=El l v:=by
 by_cases h:l[Ei l v]? =some v
 ·have e:El l v=l:=by unfold El;rw[if_pos h]
  rw[e,e]
 ·have e:El l v=Ua l (Ei l v) v:=by unfold El;rw[if_neg h]
  have:=AfZ l v
  rw[e]
  unfold El
  rw[this.1,if_pos this.2]
theorem Amg {l:List Int} {v:Int} (h:El l v=l):v∈l:=by
 unfold El at h
 split at h
 ·rename_i g;exact List.mem_of_getElem? g
 ·have:=congrArg List.length h
  rw[AgY (AeQ l v)]at this
  omega
def lacks (v:Int) (e:Ai):Nat:=if El e.versions v=e.versions then 0 else 1
def J2 (v:Int) (e:Ai):Nat:=Am e+lacks v e
def Yv (w:World):Nat:=w.server.length+w.tags.length+Cr (J2 w.rollout.version) w.ends+Db w.rollout+Cr Cb w.stage+Cr Ip w.log+(60-w.log.length)*50
theorem OA {α β:Type} {f:α->Nat} {g:β->Nat}:∀ {xs:List α} {ys:List β},xs.length=ys.length->(∀(i:Nat) (h:i<xs.length) (h':i<ys.length),f xs[i]<=g ys[i])->Cr f xs<=Cr g ys
 | [],[],_,_=>Nat.le_refl _
 | x::xs,y::ys,hl,h=>by
  have ih:=OA (f:=f) (g:=g) (xs:=xs) (ys:=ys) (by simpa using hl) (fun i h1 h2=>h (i+1) (by simpa using h1) (by simpa using h2))
  have h0:=h 0 (by simp) (by simp)
  simp only[Cr,List.length_cons,List.map_cons,List.sum_cons,List.getElem_cons_zero]at *
  omega
 | [],_::_,hl,_=>by simp at hl
 | _::_,[],hl,_=>by simp at hl
theorem AnN (w:World):Af w<=Yv w:=by
 have:Cr Am w.ends<=Cr (J2 w.rollout.version) w.ends:=OA rfl (fun i h h'=>by unfold J2;omega)
 unfold Af Yv
 omega
theorem Am5 (w:World):Yv w<=Af w+w.ends.length+3000:=by
 have key:∀(v:Int) (l:List Ai),Cr (J2 v) l<=Cr Am l+l.length:=by
  intro v l
  induction l with
  | nil=>simp[Cr]
  | cons e l ih=>
   have:lacks v e<=1:=by unfold lacks;split<;>omega
   simp only[Cr,J2,List.length_cons,List.map_cons,List.sum_cons]at *
   omega
 have:=key w.rollout.version w.ends
 unfold Af Yv
 omega
theorem Aoo (v:Int) (e:Ai):J2 v ⟨El e.versions v,e.tags,e.path,e.cls⟩<=J2 v e:=by
 have h1:=Rm e.versions v
 unfold J2 lacks Am
 dsimp only
 rw[if_pos (AiC _ _)]
 split
 ·rename_i h;rw[h];omega
 ·omega
theorem filter_lt {p:Int->Bool} {l:List Int} {x:Int} (h:x∈l) (hp:p x=false):(l.filter p).length<l.length:=by
 induction l with
 | nil=>simp at h
 | cons a r ih=>
  have hr:=List.length_filter_le p r
  rcases List.mem_cons.1 h with rfl | h
  ·rw[List.filter_cons_of_neg (by simp[hp])]
   simp only[List.length_cons];omega
  ·have:=ih h
   rw[List.filter_cons]
   split<;>simp only[List.length_cons]<;>omega
theorem AkC (w:World) (e:Ai):J2 w.rollout.version (Ev w e)<=J2 w.rollout.version e:=by
 unfold Ev
 split
 ·have h1:(Co e.versions w.rollout.version).length<=e.versions.length:=List.length_filter_le _ _
  unfold J2 Am
  dsimp only
  by_cases hg:El e.versions w.rollout.version=e.versions
  ·have h2:(Co e.versions w.rollout.version).length<e.versions.length:=filter_lt (Amg hg) (by simp)
   have:lacks w.rollout.version ⟨Co e.versions w.rollout.version,e.tags,e.path,e.cls⟩<=1:=by unfold lacks;split<;>omega
   omega
  ·have h2:lacks w.rollout.version e=1:=by unfold lacks;rw[if_neg hg]
   have:lacks w.rollout.version ⟨Co e.versions w.rollout.version,e.tags,e.path,e.cls⟩<=1:=by unfold lacks;split<;>omega
   omega
 ·exact Nat.le_refl _
theorem Adp (w:World):Yv (enter w)<=Yv w:=by
 unfold enter
 split
 ·have h:Cr (J2 w.rollout.version) (w.ends.mapIdx (Fv w))<=Cr (J2 w.rollout.version) w.ends:=OA (by simp) (fun i h h'=>by
   rw[List.getElem_mapIdx]
   unfold Fv
   split
   ·exact Aoo _ _
   ·exact Nat.le_refl _)
  have h0:Cr Cb ([]:List BP)=0:=rfl
  simp only[Yv,h0]
  omega
 ·exact Nat.le_refl _
theorem Aqj (w:World):Yv (leave w)<=Yv w:=by
 have h:Cr (J2 w.rollout.version) (w.ends.map (Ev w))<=Cr (J2 w.rollout.version) w.ends:=OA (by simp) (fun i h h'=>by
  rw[List.getElem_map]
  exact AkC w _)
 have h0:Cr Cb ([]:List BP)=0:=rfl
 unfold leave
 simp only[Yv,h0]
 omega
theorem Ag5 {w:World} {r:AX} (h:Db r=Db w.rollout) (hv:r.version=w.rollout.version):Yv (Ca w r)=Yv w:=by
 unfold Ca
 simp only[Yv,h,hv]
theorem Agw (r:AX):(Bp r).1.version=r.version:=by unfold Bp;split<;>rfl
theorem AjI {w:World} {j:Nat} (hj:j<w.ends.length) (e:Ai):Yv {w with ends:=w.ends.set j e} +J2 w.rollout.version w.ends[j]=Yv w+J2 w.rollout.version e:=by
 have:=size_set (f:=J2 w.rollout.version) hj e
 simp only[Yv]
 omega
theorem AkM (w:World) (e:Event):Yv (AA w e).1<=Yv w+1+Hy e:=by
 unfold AA
 split
 ·have h:=AdZ w e.n
  obtain⟨h1,h2,h3⟩:=h
  have h4:(CR w e.n).1.server=w.server/\(CR w e.n).1.tags=w.tags:=by unfold CR;split<;>exact⟨rfl,rfl⟩
  unfold Af at h1
  rw[h2,h3,h4.1,h4.2]at h1
  unfold Yv
  rw[h2,h3,h4.1,h4.2]
  have hm:Cr Am w.ends<=Cr (J2 w.rollout.version) w.ends:=OA rfl (fun i h h'=>by unfold J2;omega)
  omega
 split
 ·have:=Adp w
  unfold Dc
  split<;>dsimp only<;>omega
 split
 ·unfold BS
  split
  ·dsimp only;omega
  split
  ·split
   ·have:=Adp (Ca w (Bp w.rollout).1)
    rw[Ag5 (AjU _) (Agw _)]at this
    dsimp only;omega
   ·dsimp only;omega
  split
  ·split
   ·have:=Aqj (Ca w (BI w.rollout).1)
    rw[Ag5 (Aoc _) (Abi _)]at this
    dsimp only;omega
   ·dsimp only;omega
  ·dsimp only;omega
 split
 ·have h:=Aca w e.n 200
  have h2:(Br w e.n 200).1.ends=w.ends/\(Br w e.n 200).1.rollout=w.rollout/\(Br w e.n 200).1.stage=w.stage/\(Br w e.n 200).1.log=w.log/\(Br w e.n 200).1.tags=w.tags:=by
   unfold Br
   repeat' split
   all_goals exact⟨rfl,rfl,rfl,rfl,rfl⟩
  unfold Af at h
  rw[h2.1,h2.2.1,h2.2.2.1,h2.2.2.2.1,h2.2.2.2.2]at h
  unfold Yv
  rw[h2.1,h2.2.1,h2.2.2.1,h2.2.2.2.1,h2.2.2.2.2]
  omega
 split
 ·have h:=Ac7 w e.n
  unfold Af at h
  unfold Yv
  unfold EC at *
  dsimp only at *
  omega
 split
 ·unfold Fg
  split
  ·split
   ·rename_i x hx
    split
    ·obtain⟨hj,rfl⟩:=List.getElem?_eq_some_iff.1 hx
     have:=AjI hj ⟨w.ends[e.n.toNat].versions,w.ends[e.n.toNat].tags,w.ends[e.n.toNat].path++ [e.box],w.ends[e.n.toNat].cls⟩
     have h1:J2 w.rollout.version ⟨w.ends[e.n.toNat].versions,w.ends[e.n.toNat].tags,w.ends[e.n.toNat].path++ [e.box],w.ends[e.n.toNat].cls⟩=J2 w.rollout.version w.ends[e.n.toNat]+1+Gm e.box:=by
      unfold J2 Am lacks
      simp only[Cr,List.length_append,List.length_cons,List.length_nil,List.map_append,List.map_cons,List.map_nil,List.sum_append,List.sum_cons,List.sum_nil]
      omega
     unfold Hy
     dsimp only
     omega
    ·dsimp only;omega
   ·dsimp only;omega
  ·dsimp only;omega
 split
 ·unfold DX
  split
  ·split
   ·rename_i x hx
    split
    ·dsimp only;omega
    ·unfold Ob
     rw[hx]
     obtain⟨hj,rfl⟩:=List.getElem?_eq_some_iff.1 hx
     have:=AjI hj ⟨w.ends[e.n.toNat].versions,w.ends[e.n.toNat].tags,[],w.ends[e.n.toNat].cls⟩
     have h1:J2 w.rollout.version ⟨w.ends[e.n.toNat].versions,w.ends[e.n.toNat].tags,[],w.ends[e.n.toNat].cls⟩<=J2 w.rollout.version w.ends[e.n.toNat]:=by
      unfold J2 Am lacks
      simp only[Cr,List.length_nil,List.map_nil,List.sum_nil]
      omega
     dsimp only
     omega
   ·dsimp only;omega
  ·dsimp only;omega
 split
 ·unfold ED
  split
  ·simp only[Yv];omega
  ·dsimp only;omega
 ·dsimp only;omega
def Av (w:World) (l:List Event):World:=l.foldl (fun x e=>(AA x e).1) w
theorem AgI {w:World} {l:List Event} {j:Nat} (h:j<l.length):Av w (l.take (j+1))=(AA (Av w (l.take j)) l[j]).1:=by
 have e:l.take (j+1)=l.take j++ [l[j]]:=by simp
 unfold Av
 rw[e,List.foldl_append]
 rfl
theorem Aeh (w:World) (l:List Event):∀j,j<=l.length->Yv (Av w (l.take j))<=Yv w+Cr Hy (l.take j)
 | 0,_=>by simp[Av]
 | j+1,h=>by
  have hj:j<l.length:=by omega
  have h1:=Aeh w l j (by omega)
  have h2:=AkM (Av w (l.take j)) l[j]
  have e:l.take (j+1)=l.take j++ [l[j]]:=by simp
  rw[AgI hj,e]
  simp only[Cr,List.length_append,List.length_cons,List.length_nil,List.map_append,List.map_cons,List.map_nil,List.sum_append,List.sum_cons,List.sum_nil]at *
  omega
theorem AlT {α:Type} (f:α->Nat) (l:List α) (j:Nat):Cr f (l.take j)<=Cr f l:=by
 have e:l=l.take j++l.drop j:=(List.take_append_drop j l).symm
 have:Cr f l=Cr f (l.take j)+Cr f (l.drop j):=by
  conv=>lhs;rw[e]
  simp only[Cr,List.length_append,List.map_append,List.sum_append]
  omega
 omega
def Abe (w:World) (l:List Event):Prop:=Af w+w.ends.length+3000+Cr Hy l<=4194304
theorem ApZ {w:World} {l:List Event} (h:Abe w l) {j:Nat} (hj:j<=l.length):Af (Av w (l.take j))<=4194304:=by
 have h1:=Aeh w l j hj
 have h2:=AnN (Av w (l.take j))
 have h3:=Am5 w
 have h4:=AlT Hy l j
 unfold Abe at h
 omega
abbrev P6:Prop:=∀(w:World) (l:List Event),Abe w l->R [arg (Bu w),.sl 1 6 l.length (l.flatMap BJ)] [] (.agg (Bu (Av w l))) []
theorem Aey (hC:EF (D 22)) (hA:MS (D 27)):P6 (Body D KN):=by
 intro w l hok
 have hsz:Af w<=4194304:=by unfold Abe at hok;omega
 have hle:Cr Hy l<=4194304:=by unfold Abe at hok;omega
 have hll:=J9 (f:=Hy) (xs:=l)
 simp -implicitDefEqProofs
 refine Aa (hC w hsz) ?_
 simp -implicitDefEqProofs
 refine Ag (fun k s=>∃j,j+k=l.length/\s=⟨[.undef,.sl 1 6 l.length (l.flatMap BJ),.undef,.ptr 1 0,.ptr 8 0,I j,.undef],[.var ((Bu w).map (AO 1)),.var [.nil 1,.nil 1,I 0,.nil 4,I 0,.nil 1,I 0,B false,I 0,I 0,.nil 5,.nil 8,I 0,I 0,I 0],.free,.free,.free,.free,.free,.free,.var [.arr 15,.arr 16,I (Av w (l.take j)).key,.arr 17,I (Av w (l.take j)).rollout.version,.arr 18,I (Av w (l.take j)).rollout.pos,B (Av w (l.take j)).rollout.off,I (Av w (l.take j)).least,I (Av w (l.take j)).percent,.arr 19,.arr 20,I (Av w (l.take j)).now,I (Av w (l.take j)).hurt,I (Av w (l.take j)).reached],.free,.free,.free,.free,.free,.free,.arr 1 0 (Av w (l.take j)).server.length (ints (Av w (l.take j)).server),.arr 1 0 (Av w (l.take j)).tags.length (ints (Av w (l.take j)).tags),.arr 4 0 (Av w (l.take j)).ends.length ((Av w (l.take j)).ends.flatMap Ah),.arr 1 0 (Av w (l.take j)).rollout.stages.length (ints (Av w (l.take j)).rollout.stages),.arr 5 0 (Av w (l.take j)).stage.length ((Av w (l.take j)).stage.flatMap AB),.arr 8 0 (Av w (l.take j)).log.length ((Av w (l.take j)).log.flatMap Az)]⟩) ?_ (l.length) _ ⟨0,by simp,by simp[Av]⟩
 intro k s ⟨j,hj,hs⟩
 subst hs
 by_cases hjn:j<l.length
 ·have hw:=Cv (j:=j) (by omega)
  have hst:=AgI (w:=w) hjn
  have hsj:=ApZ hok (j:=j) (by omega)
  have hej:=size_at (f:=Hy) hjn
  simp -implicitDefEqProofs [hjn]
  refine Aa (hA (Av w (l.take j)) l[j] hsj (by omega)) ?_
  rw[<-hst]
  simp -implicitDefEqProofs
  exact⟨k-1,by omega,j+1,by omega,by simp[hw]⟩
 ·have e:l.take j=l:=List.take_of_length_le (by omega)
  simp -implicitDefEqProofs [hjn,e]
end Go.Eng.T
