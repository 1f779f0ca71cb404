/- Own work: part 49 of the proof of FnTop. -/
import Derived.Test.YtdoefikagfghnabGreatEngAR
set_option linter.unusedSimpArgs false
set_option linter.unusedVariables false
namespace Go.Eng.T
set_option maxRecDepth 20000
set_option maxHeartbeats 1000000
structure Cur where
 bs:List Int
 i:Nat
 h:Int
def u8s (bs:List Int):List V:=bs.map fun b=> .sc (.int .u8 b)
abbrev DI (c:Cur):List V:=[.sl 3 1 c.bs.length (u8s c.bs),.sc (.int .i64 c.i),.sc (.int .i64 c.h)]
def Ga (c:Cur):Prop:=c.bs.length≤1048576∧(∀b,b∈c.bs→0≤b∧b≤255)∧c.i≤c.bs.length
def Xu (R:Rel) (args:List V) (c:Cur) {α:Type} (P:α→Prop) (res:α→V):Prop:=∃a c',P a∧Ga c'∧R (.ptr 0 0::args) [.var (DI c)] (res a) [.var (DI c')]
theorem NE {D:Dn} {f:Bw} {args:List V} {c:Cur} {α:Type} {P:α→Prop} {res:α→V} (h:∀Q:V→List O→Prop,(∀a c',P a→Ga c'→Q (res a) [.var (DI c')])→AsE D f (.ptr 0 0::args) [.var (DI c)] Q):
 Xu (Body D f) args c P res:=by
 obtain⟨v,o,⟨a,c',h1,h2,rfl,rfl⟩,h3⟩:=Alf (P:=fun v o=>∃a c',P a∧Ga c'∧v=res a∧o=[.var (DI c')]) (fun Q hQ=>h Q (fun a c' h1 h2=>hQ _ _ ⟨a,c',h1,h2,rfl,rfl⟩))
 exact⟨a,c',h1,h2,h3⟩
@[simp high] theorem AFF {bs:List Int} {j:Nat} (h:j<bs.length):(u8s bs)[j]? =some (.sc (.int .u8 bs[j])):=by simp[u8s,h]
@[simp high] theorem AE9 (bs:List Int):(u8s bs).length=bs.length:=by simp[u8s]
@[simp] theorem AFE (bs:List Int) (fl:Nat):(u8s bs).map (AX fl)=u8s bs:=by simp[u8s,AX]
abbrev AeQ (R:Rel):Prop:=∀c:Cur,Ga c→Xu R [] c (fun x:Int=>0≤x∧x≤255) (fun x=>I x)
theorem Awm (n:Nat):∃x:Nat,x≤255∧IntKind.i64.wrap ((n&&&255 % 2 ^ IntKind.i64.bits:Nat):Int)=x:=by
 have e:(255 % 2 ^ IntKind.i64.bits:Nat)=255:=by decide
 rw[e]
 have h:n&&&255≤255:=Nat.and_le_right
 exact⟨n&&&255,h,Ac (by omega) (by omega)⟩
theorem AxL (D:Dn):AeQ (Body D OH):=by
 intro c hc
 refine NE (fun Q hQ=> ?_)
 have h1:=hc.1
 by_cases h:c.i<c.bs.length
 ·have hw:IntKind.i64.wrap ((c.i:Int)+1)=(c.i+1:Nat):=by rw[Ac (by omega) (by omega)];simp
  simp -implicitDefEqProofs [h,NS,AY]
  generalize IntKind.i64.wrap (IntKind.i64.wrap (c.h*6364136223846793005)+1442695040888963407)=h'
  generalize Int.toNat _=n1
  obtain⟨x,hx,e⟩:=Awm n1
  rw[e,hw]
  exact hQ x ⟨c.bs,c.i+1,h'⟩ ⟨by omega,by omega⟩ ⟨hc.1,hc.2.1,h⟩
 ·simp -implicitDefEqProofs [h,NS,AY]
  generalize IntKind.i64.wrap (IntKind.i64.wrap (c.h*6364136223846793005)+1442695040888963407)=h'
  generalize Int.toNat _=n1
  obtain⟨x,hx,e⟩:=Awm n1
  rw[e]
  exact hQ x ⟨c.bs,c.i,h'⟩ ⟨by omega,by omega⟩ ⟨hc.1,hc.2.1,hc.2.2⟩
abbrev FK (R:Rel):Prop:=∀(c:Cur) (n:Int),Ga c→n≤1000000000→Xu R [I n] c (fun x:Int=>0≤x∧(n≤0→x=0)∧(0<n→x<n)) (fun x=>I x)
theorem ABm {x n:Int} (h:0≤x) (hn:0<n):0≤x.tmod n∧x.tmod n<n:=⟨Int.tmod_nonneg n h,Int.tmod_lt_of_pos x hn⟩
theorem Auu (D:Dn) (hB:AeQ (D AlL)):FK (Body D MR):=by
 intro c n hc hn
 refine NE (fun Q hQ=> ?_)
 by_cases h0:n≤0
 ·simp -implicitDefEqProofs [h0,NS,AY]
  exact hQ 0 c ⟨by omega,fun _=>rfl,fun h=>by omega⟩ hc
 have hne:¬n=0:=by omega
 by_cases h1:n≤256
 ·simp -implicitDefEqProofs [h0,h1]
  obtain⟨x,c1,hx,hc1,px⟩:=hB c hc
  simp -implicitDefEqProofs [DI]at px
  refine Aa (px) ?_
  simp -implicitDefEqProofs [h0,hne,NS,AY]
  have:=ABm (n:=n) hx.1 (by omega)
  exact hQ _ c1 ⟨this.1,fun h=>absurd h h0,fun _=>this.2⟩ hc1
 ·simp -implicitDefEqProofs [h0,h1]
  obtain⟨x,c1,hx,hc1,px⟩:=hB c hc
  simp -implicitDefEqProofs [DI]at px
  refine Aa (px) ?_
  simp -implicitDefEqProofs [h0]
  obtain⟨y,c2,hy,hc2,py⟩:=hB c1 hc1
  simp -implicitDefEqProofs [DI]at py
  refine Aa (py) ?_
  simp -implicitDefEqProofs [h0]
  obtain⟨z,c3,hz,hc3,pz⟩:=hB c2 hc2
  simp -implicitDefEqProofs [DI]at pz
  refine Aa (pz) ?_
  simp -implicitDefEqProofs [h0,hne,NS,AY]
  have w1:IntKind.i64.wrap (x*65536)=x*65536:=Ac (by omega) (by omega)
  have w2:IntKind.i64.wrap (y*256)=y*256:=Ac (by omega) (by omega)
  have w3:IntKind.i64.wrap (x*65536+y*256)=x*65536+y*256:=Ac (by omega) (by omega)
  have w4:IntKind.i64.wrap (x*65536+y*256+z)=x*65536+y*256+z:=Ac (by omega) (by omega)
  rw[w1,w2,w3,w4]
  have:=ABm (x:=x*65536+y*256+z) (n:=n) (by omega) (by omega)
  exact hQ _ c3 ⟨this.1,fun h=>absurd h h0,fun _=>this.2⟩ hc3
abbrev AeM (R:Rel):Prop:=∀(c:Cur) (n:Int),Ga c→n≤1000000000→Xu R [I n] c (fun _:Bool=>True) (fun b=>B b)
theorem AxM (D:Dn) (hB:FK (D Dj)):AeM (Body D OG):=by
 intro c n hc hn
 refine NE (fun Q hQ=> ?_)
 simp -implicitDefEqProofs
 obtain⟨x,c1,hx,hc1,px⟩:=hB c n hc hn
 simp -implicitDefEqProofs [DI]at px
 refine Aa (px) ?_
 simp -implicitDefEqProofs [NS,AY]
 exact hQ _ c1 trivial hc1
abbrev AfP (R:Rel):Prop:=∀(c:Cur) (xs:List Int),Ga c→0<xs.length→xs.length≤1000000→Xu R [.sl 1 1 xs.length (ints xs)] c (fun x:Int=>x∈xs) (fun x=>I x)
theorem AAS (D:Dn) (hB:FK (D Dj)):AfP (Body D Qy):=by
 intro c xs hc h0 hl
 refine NE (fun Q hQ=> ?_)
 simp -implicitDefEqProofs
 obtain⟨x,c1,hx,hc1,px⟩:=hB c xs.length hc (by omega)
 simp -implicitDefEqProofs [DI]at px
 refine Aa (px) ?_
 obtain⟨n,rfl⟩:∃n:Nat,x=n:=⟨x.toNat,by omega⟩
 have hn:n<xs.length:=by have:=hx.2.2 (by omega);omega
 simp -implicitDefEqProofs [hn,NS,AY]
 exact hQ _ c1 (List.getElem_mem hn) hc1
abbrev Agh (R:Rel):Prop:=∀bs:List Int,bs.length≤1048576→(∀b,b∈bs→0≤b∧b≤255)→∃c:Cur,Ga c∧R [.sl 3 1 bs.length (u8s bs)] [] (.rptr 0 (DI c) 0) []
theorem AzS (D:Dn):Agh (Body D Ni):=by
 intro bs hl hb
 obtain⟨v,o,⟨c,h1,rfl,rfl⟩,h3⟩:=Alf (P:=fun v o=>∃c:Cur,Ga c∧v= .rptr 0 (DI c) 0∧o=[]) (D:=D) (f:=Ni) (args:=[.sl 3 1 bs.length (u8s bs)]) (given:=[]) (fun Q hQ=>by
  simp -implicitDefEqProofs
  obtain⟨h0,hh0⟩:∃h0,h0=IntKind.i64.wrap (193017+(bs.length:Int)):=⟨_,rfl⟩
  rw[←hh0]
  refine Ae (fun k s=>∃j h,j+k=min bs.length 4000∧s=⟨[.sl 3 1 bs.length (u8s bs),.undef,I h,I j,.undef],[.free]⟩) ?_ (min bs.length 4000) _ ⟨0,h0,by simp,by simp⟩
  intro k s ⟨j,h,hj,hs⟩
  subst hs
  by_cases hjn:j<bs.length
  ·by_cases hj4:j<4000
   ·have hw:IntKind.i64.wrap ((j:Int)+1)=(j+1:Nat):=by rw[Ac (by omega) (by omega)];simp
    have hj4':(j:Int)<4000:=by omega
    simp -implicitDefEqProofs [hjn,hj4,hj4']
    refine⟨k-1,by omega,j+1,by omega,?_⟩
    simp[hw]
   ·have hj4':¬(j:Int)<4000:=by omega
    simp -implicitDefEqProofs [hjn,hj4,hj4']
    exact hQ _ _ ⟨⟨bs,0,h⟩,⟨hl,hb,Nat.zero_le _⟩,rfl,rfl⟩
  ·simp -implicitDefEqProofs [hjn]
   exact hQ _ _ ⟨⟨bs,0,h⟩,⟨hl,hb,Nat.zero_le _⟩,rfl,rfl⟩)
 exact⟨c,h1,h3⟩
end Go.Eng.T
namespace Go.Eng.T
set_option maxRecDepth 20000
set_option maxHeartbeats 1000000
theorem Ayl {l:List Int} (h:Up l) {i j:Nat} (hij:i<j) (hj:j<l.length):l[i]<l[j]:=List.pairwise_iff_getElem.1 h i j (by omega) hj hij
theorem ZK {l:List Int} (h:Up l) (h1:∀x,x∈l→1≤x∧x≤9) (h0:0<l.length):Ar l=true:=by
 unfold Ar
 simp only[Bool.and_eq_true,decide_eq_true_eq]
 refine⟨?_,h0⟩
 unfold Jk
 rw[List.all_eq_true]
 intro i hi
 have hi:=List.mem_range.1 hi
 rw[R7 hi]
 have:=h1 _ (List.getElem_mem hi)
 simp only[Bool.and_eq_true,Bool.or_eq_true,decide_eq_true_eq]
 refine⟨⟨by omega,by omega⟩,?_⟩
 by_cases hz:i=0
 ·exact .inl hz
 ·right
  rw[R7 (by omega:i-1<l.length)]
  exact Ayl h (by omega) hi
theorem As8 {l:List Int} (h:Up l) (h1:∀x,x∈l→1≤x∧x≤100):JU l l.length=true:=by
 unfold JU
 rw[List.all_eq_true]
 intro i hi
 have hi:=List.mem_range.1 hi
 rw[getD_at hi]
 have:=h1 _ (List.getElem_mem hi)
 simp only[Bool.and_eq_true,Bool.or_eq_true,decide_eq_true_eq]
 refine⟨⟨by omega,by omega⟩,?_⟩
 by_cases hz:i=0
 ·exact .inl hz
 ·right
  rw[getD_at (by omega:i-1<l.length)]
  exact Ayl h (by omega) hi
theorem Sd {l:List Int} {a b:Int} (h1:∀x,x∈l→a≤x∧x≤b):allIn l a b=true:=by
 unfold allIn
 rw[List.all_eq_true]
 intro x hx
 have:=h1 x hx
 simpa using this
theorem ArS {l:List Int} (h:Up l) (h1:∀x,x∈l→0≤x∧x≤255):EO l=true:=by
 unfold EO
 simp only[Bool.and_eq_true]
 refine⟨?_,Sd h1⟩
 rw[Abn]
 intro i hi
 by_cases hz:i=0
 ·subst hz;exact Wq l
 ·rw[TN hz hi (by omega)]
  simpa using Ayl h (by omega) hi
def VP (l:List Int) (b:Int) (m:Nat):Prop:=Up l∧(∀x,x∈l→1≤x∧x≤b)∧l.length≤m
theorem AgY {l:List Int} {b:Int} {m:Nat} {v:Int} (h:VP l b m) (hv:1≤v∧v≤b):VP (Gb l v) b (m+1):=by
 refine⟨YS v h.1,?_,Nat.le_trans (U5 l v) (by have:=h.2.2;omega)⟩
 intro x hx
 rcases(KT l v x).1 hx with hx | rfl
 ·exact h.2.1 x hx
 ·exact hv
theorem ZR {l:List Int} {b:Int} {m m':Nat} (h:VP l b m) (hm:m≤m'):VP l b m':=⟨h.1,h.2.1,by have:=h.2.2;omega⟩
theorem Arh (b:Int):VP [] b 0:=⟨List.Pairwise.nil,by simp,by simp⟩
theorem AxF {b v:Int} (hv:1≤v∧v≤b):VP [v] b 1:=⟨by simp,by simpa using hv,by simp⟩
theorem put_pos (l:List Int) (v:Int):0<(Gb l v).length:=List.length_pos_of_mem ((KT l v v).2 (.inr rfl))
abbrev Zd (R:Rel):Prop:=∀c:Cur,Ga c→Xu R [] c (fun l:List Int=>VP l 6 4∧0<l.length) (fun l=> .sl 0 1 l.length (ints l))
theorem AuQ (D:Dn) (hB:FK (D Dj)) (hP:TF (D Ke)):Zd (Body D MK):=by
 intro c hc
 refine NE (fun Q hQ=> ?_)
 simp -implicitDefEqProofs
 obtain⟨x,c1,hx,hc1,px⟩:=hB c 4 hc (by omega)
 simp -implicitDefEqProofs [DI,ints]at px
 refine Aa (px) ?_
 have hx4:=hx.2.2 (by omega)
 have w1:IntKind.i64.wrap (1+x)=1+x:=Ac (by omega) (by omega)
 simp -implicitDefEqProofs [w1]
 obtain⟨y,c2,hy,hc2,py⟩:=hB c1 4 hc1 (by omega)
 simp -implicitDefEqProofs [DI,ints]at py
 refine Aa (py) ?_
 have hy4:=hy.2.2 (by omega)
 obtain⟨n,rfl⟩:∃n:Nat,y=n:=⟨y.toNat,by omega⟩
 simp -implicitDefEqProofs
 obtain⟨LI,hLI⟩:∃LI:Nat→St→Prop,LI=fun k s=>∃j cc l o2,j+k=n∧Ga cc∧VP l 6 (1+j)∧0<l.length∧s=⟨[.ptr 0 0,.undef,.arr 3,I k,.undef],[.var (DI cc),.free,o2,.arr 1 0 l.length (ints l)]⟩:=⟨_,rfl⟩
 refine Ae LI ?_ (n) _ (by rw[hLI];exact⟨0,c2,[1+x],.free,by simp,hc2,AxF (by omega),by simp,by simp[ints]⟩)
 intro k s hs
 rw[hLI]at hs
 obtain⟨j,cc,l,o2,hj,hcc,hl,hl0,hs⟩:=hs
 subst hs
 by_cases hk:0<k
 ·have hwk:IntKind.i64.wrap ((k:Int)-1)=(k-1:Nat):=by rw[Ac (by omega) (by omega)];omega
  simp -implicitDefEqProofs [hk]
  obtain⟨z,c3,hz,hc3,pz⟩:=hB cc 6 hcc (by omega)
  simp -implicitDefEqProofs [DI,ints]at pz
  refine Aa (pz) ?_
  have hz4:=hz.2.2 (by omega)
  have w2:IntKind.i64.wrap (1+z)=1+z:=Ac (by omega) (by omega)
  simp -implicitDefEqProofs [w2]
  refine Aa (hP l (1+z) (by have:=hl.2.2;omega)) ?_
  simp -implicitDefEqProofs [hwk]
  refine⟨k-1,by omega,?_⟩
  rw[hLI]
  exact⟨j+1,c3,Gb l (1+z),.free,by omega,hc3,AgY hl (by omega),put_pos _ _,rfl⟩
 ·have hk0:k=0:=by omega
  subst hk0
  simp -implicitDefEqProofs [NS,AY]
  exact hQ l cc ⟨ZR hl (by omega),hl0⟩ hcc
abbrev Vg (R:Rel):Prop:=∀c:Cur,Ga c→Xu R [] c (fun l:List Int=>VP l 200 4) (fun l=> .sl 0 1 l.length (ints l))
theorem AFf {x:Int} (h:x∈[1,2,3,10,40,(200:Int)]):1≤x∧x≤200:=by simp at h;omega
theorem Aup (D:Dn) (hB:FK (D Dj)) (hI:AfP (D Acz)) (hP:TF (D Ke)):Vg (Body D MW):=by
 intro c hc
 refine NE (fun Q hQ=> ?_)
 simp -implicitDefEqProofs
 obtain⟨y,c2,hy,hc2,py⟩:=hB c 5 hc (by omega)
 simp -implicitDefEqProofs [DI,ints]at py
 refine Aa (py) ?_
 have hy4:=hy.2.2 (by omega)
 obtain⟨n,rfl⟩:∃n:Nat,y=n:=⟨y.toNat,by omega⟩
 simp -implicitDefEqProofs
 obtain⟨LI,hLI⟩:∃LI:Nat→St→Prop,LI=fun k s=>∃j cc l o2,j+k=n∧Ga cc∧VP l 200 j∧s=⟨[.ptr 0 0,.undef,.arr 4,I k,.undef],[.var (DI cc),.free,o2,.free,.arr 1 0 l.length (ints l)]⟩:=⟨_,rfl⟩
 refine Ae LI ?_ (n) _ (by rw[hLI];exact⟨0,c2,[],.free,by simp,hc2,Arh _,by simp[ints]⟩)
 intro k s hs
 rw[hLI]at hs
 obtain⟨j,cc,l,o2,hj,hcc,hl,hs⟩:=hs
 subst hs
 by_cases hk:0<k
 ·have hwk:IntKind.i64.wrap ((k:Int)-1)=(k-1:Nat):=by rw[Ac (by omega) (by omega)];omega
  simp -implicitDefEqProofs [hk]
  obtain⟨z,c3,hz,hc3,pz⟩:=hI cc [1,2,3,10,40,200] hcc (by simp) (by simp)
  simp -implicitDefEqProofs [DI,ints]at pz
  refine Aa (pz) ?_
  simp -implicitDefEqProofs
  refine Aa (hP l z (by have:=hl.2.2;omega)) ?_
  simp -implicitDefEqProofs [hwk]
  refine⟨k-1,by omega,?_⟩
  rw[hLI]
  exact⟨j+1,c3,Gb l z,_,by omega,hc3,AgY hl (AFf hz),rfl⟩
 ·have hk0:k=0:=by omega
  subst hk0
  simp -implicitDefEqProofs [NS,AY]
  exact hQ l cc (ZR hl (by omega)) hcc
end Go.Eng.T
namespace Go.Eng.T
set_option maxRecDepth 20000
set_option maxHeartbeats 1000000
def AoR (b:EK):Prop:=ET b=true∧b.drops.length≤4∧b.strips.length≤4
theorem AhA {b:EK} (h0:0≤b.limit∧b.limit≤9) (h1:VP b.drops 200 4) (h2:VP b.strips 200 4):AoR b:=by
 refine⟨?_,h1.2.2,h2.2.2⟩
 unfold ET
 rw[Sd (fun x hx=>by have:=h1.2.1 x hx;omega),Sd (fun x hx=>by have:=h2.2.1 x hx;omega)]
 have:=h1.2.2
 have:=h2.2.2
 simp only[Bool.and_eq_true,decide_eq_true_eq]
 exact⟨⟨⟨⟨⟨by omega,by omega⟩,by omega⟩,by omega⟩,trivial⟩,trivial⟩
abbrev Aas (R:Rel):Prop:=∀c:Cur,Ga c→Xu R [] c AoR (fun b=> .agg (Cz b))
theorem At4 (D:Dn) (hB:FK (D Dj)) (hT:Vg (D Xm)):Aas (Body D MQ):=by
 intro c hc
 refine NE (fun Q hQ=> ?_)
 have hn:=ZR (Arh 200) (show 0≤4 by omega)
 simp -implicitDefEqProofs
 obtain⟨x,c1,hx,hc1,px⟩:=hB c 7 hc (by omega)
 simp -implicitDefEqProofs [DI,ints]at px
 refine Aa (px) ?_
 by_cases g0:x=0
 ·simp -implicitDefEqProofs [g0]
  obtain⟨y,c2,hy,hc2,py⟩:=hB c1 6 hc1 (by omega)
  simp -implicitDefEqProofs [DI,ints]at py
  refine Aa (py) ?_
  have hy6:=hy.2.2 (by omega)
  have w1:IntKind.i64.wrap (1+y)=1+y:=Ac (by omega) (by omega)
  simp -implicitDefEqProofs [w1,NS,AY]
  exact hQ ⟨1+y,[],[],false⟩ c2 (AhA (by dsimp only;omega) hn hn) hc2
 by_cases g1:x=1
 ·simp -implicitDefEqProofs [g1]
  obtain⟨t,c2,ht,hc2,pt⟩:=hT c1 hc1
  simp -implicitDefEqProofs [DI,ints]at pt
  refine Aa (pt) ?_
  simp -implicitDefEqProofs [NS,AY]
  exact hQ ⟨0,t,[],false⟩ c2 (AhA (by dsimp only;omega) ht hn) hc2
 by_cases g2:x=2
 ·simp -implicitDefEqProofs [g2]
  obtain⟨t,c2,ht,hc2,pt⟩:=hT c1 hc1
  simp -implicitDefEqProofs [DI,ints]at pt
  refine Aa (pt) ?_
  simp -implicitDefEqProofs [NS,AY]
  exact hQ ⟨0,[],t,false⟩ c2 (AhA (by dsimp only;omega) hn ht) hc2
 by_cases g3:x=3
 ·simp -implicitDefEqProofs [g3,NS,AY]
  exact hQ ⟨0,[],[],true⟩ c1 (AhA (by dsimp only;omega) hn hn) hc1
 simp -implicitDefEqProofs [g0,g1,g2,g3,NS,AY]
 exact hQ ⟨0,[],[],false⟩ c1 (AhA (by dsimp only;omega) hn hn) hc1
def AEy (b:EK):Prop:=b.drops.length≤7∧b.strips.length≤7
def AgA (l:List EK) (m:Nat):Prop:=l.length≤m∧∀b,b∈l→AoR b
abbrev ZP (R:Rel):Prop:=∀c:Cur,Ga c→Xu R [] c (fun l:List EK=>AgA l 3) (fun l=> .sl 0 4 l.length (l.flatMap Cz))
theorem Av5 {l:List EK} {m:Nat} {b:EK} (h:AgA l m) (hb:AoR b):AgA (l++ [b]) (m+1):=by
 refine⟨by have:=h.1;simp;omega,?_⟩
 intro x hx
 rcases List.mem_append.1 hx with hx | hx
 ·exact h.2 x hx
 ·simp at hx;subst hx;exact hb
theorem Atk (D:Dn) (hB:FK (D Dj)) (hT:Aas (D Ajj)):ZP (Body D MN):=by
 intro c hc
 refine NE (fun Q hQ=> ?_)
 simp -implicitDefEqProofs
 obtain⟨y,c2,hy,hc2,py⟩:=hB c 4 hc (by omega)
 simp -implicitDefEqProofs [DI,ints]at py
 refine Aa (py) ?_
 have hy4:=hy.2.2 (by omega)
 obtain⟨n,rfl⟩:∃n:Nat,y=n:=⟨y.toNat,by omega⟩
 simp -implicitDefEqProofs
 obtain⟨LI,hLI⟩:∃LI:Nat→St→Prop,LI=fun k s=>∃j cc l o2 o3 o4,j+k=n∧Ga cc∧AgA l j∧s=⟨[.ptr 0 0,.undef,.arr 6,I k,.undef],[.var (DI cc),.free,o2,o3,o4,.free,.arr 4 0 l.length (l.flatMap Cz)]⟩:=⟨_,rfl⟩
 refine Ae LI ?_ (n) _ (by rw[hLI];exact⟨0,c2,[],.free,.free,.free,by simp,hc2,⟨by simp,by simp⟩,by simp⟩)
 intro k s hs
 rw[hLI]at hs
 obtain⟨j,cc,l,o2,o3,o4,hj,hcc,hl,hs⟩:=hs
 subst hs
 by_cases hk:0<k
 ·have hwk:IntKind.i64.wrap ((k:Int)-1)=(k-1:Nat):=by rw[Ac (by omega) (by omega)];omega
  have hll:=hl.1
  have hb1:(l.length+1)*64≤1099511627776:=by omega
  simp -implicitDefEqProofs [hk]
  obtain⟨b,c3,hb,hc3,pb⟩:=hT cc hcc
  simp -implicitDefEqProofs [DI,ints]at pb
  refine Aa (pb) ?_
  simp -implicitDefEqProofs [hb1,hwk]
  refine⟨k-1,by omega,?_⟩
  rw[hLI]
  exact⟨j+1,c3,l++ [b],.dead,.dead,.dead,by omega,hc3,Av5 hl hb,by simp[Cz,ints]⟩
 ·have hk0:k=0:=by omega
  subst hk0
  simp -implicitDefEqProofs [NS,AY]
  exact hQ l cc ⟨by have:=hl.1;omega,hl.2⟩ hcc
def AD5 (s:List Int):Prop:=VP s 100 3∧0<s.length∧s.getD (s.length-1) 0=100
def AwO (r:EP):Prop:=AD5 r.stages∧(1≤r.version∧r.version≤6)
abbrev Aao (R:Rel):Prop:=∀c:Cur,Ga c→Xu R [] c AwO (fun r=> .agg (Iq r))
theorem AEq {l:List Int} (h:VP l 90 2):AD5 (l++ [100]):=by
 obtain⟨h1,h2,h3⟩:=h
 refine⟨⟨?_,?_,by simp;omega⟩,by simp,by simp⟩
 ·refine List.pairwise_append.2 ⟨h1,by simp,?_⟩
  intro x hx y hy
  simp at hy
  have:=h2 x hx
  omega
 ·intro x hx
  rcases List.mem_append.1 hx with hx | hx
  ·have:=h2 x hx;omega
  ·simp at hx;omega
theorem AuR (D:Dn) (hB:FK (D Dj)) (hP:TF (D Ke)):Aao (Body D MS):=by
 intro c hc
 refine NE (fun Q hQ=> ?_)
 simp -implicitDefEqProofs
 obtain⟨x,c1,hx,hc1,px⟩:=hB c 6 hc (by omega)
 simp -implicitDefEqProofs [DI,ints]at px
 refine Aa (px) ?_
 have hx6:=hx.2.2 (by omega)
 have w1:IntKind.i64.wrap (1+x)=1+x:=Ac (by omega) (by omega)
 simp -implicitDefEqProofs [w1]
 obtain⟨y,c2,hy,hc2,py⟩:=hB c1 3 hc1 (by omega)
 simp -implicitDefEqProofs [DI,ints]at py
 refine Aa (py) ?_
 have hy3:=hy.2.2 (by omega)
 obtain⟨n,rfl⟩:∃n:Nat,y=n:=⟨y.toNat,by omega⟩
 simp -implicitDefEqProofs
 obtain⟨LI,hLI⟩:∃LI:Nat→St→Prop,LI=fun k s=>∃j cc l o3,j+k=n∧Ga cc∧VP l 90 j∧s=⟨[.ptr 0 0,.ptr 1 0,.ptr 2 0,I k,.undef],[.var (DI cc),.var [I 0,.nil 1,I 0,B false],.var [I (1+x),.arr 6,I 0,B false],o3,.free,.free,.arr 1 0 l.length (ints l)]⟩:=⟨_,rfl⟩
 refine Ae LI ?_ (n) _ (by rw[hLI];exact⟨0,c2,[],.free,by simp,hc2,Arh _,by simp[ints]⟩)
 intro k s hs
 rw[hLI]at hs
 obtain⟨j,cc,l,o3,hj,hcc,hl,hs⟩:=hs
 subst hs
 by_cases hk:0<k
 ·have hwk:IntKind.i64.wrap ((k:Int)-1)=(k-1:Nat):=by rw[Ac (by omega) (by omega)];omega
  simp -implicitDefEqProofs [hk]
  obtain⟨z,c3,hz,hc3,pz⟩:=hB cc 90 hcc (by omega)
  simp -implicitDefEqProofs [DI,ints]at pz
  refine Aa (pz) ?_
  have hz4:=hz.2.2 (by omega)
  have w2:IntKind.i64.wrap (1+z)=1+z:=Ac (by omega) (by omega)
  simp -implicitDefEqProofs [w2]
  refine Aa (hP l (1+z) (by have:=hl.2.2;omega)) ?_
  simp -implicitDefEqProofs [hwk]
  refine⟨k-1,by omega,?_⟩
  rw[hLI]
  exact⟨j+1,c3,Gb l (1+z),_,by omega,hc3,AgY hl (by omega),rfl⟩
 ·have hk0:k=0:=by omega
  subst hk0
  have hll:=hl.2.2
  have hb1:(l.length+1)*8≤1099511627776:=by omega
  simp -implicitDefEqProofs [hb1]
  have hst:=AEq (ZR hl (by omega))
  obtain⟨z,c3,hz,hc3,pz⟩:=hB cc (l.length+1) hcc (by omega)
  simp -implicitDefEqProofs [DI,ints]at pz
  refine Aa (pz) ?_
  simp -implicitDefEqProofs [NS,AY]
  have:=hQ ⟨1+x,l++ [100],z,false⟩ c3 ⟨hst,by dsimp only;omega⟩ hc3
  simpa[ints,Iq]using this
end Go.Eng.T
namespace Go.Eng.T
set_option maxRecDepth 20000
set_option maxHeartbeats 1000000
def Acd (l:List Int) (m:Nat):Prop:=Up l∧(∀x,x∈l→x∈[1,2,3,40,(200:Int)])∧l.length≤m
theorem AA3 {l:List Int} {m:Nat} {v:Int} (h:Acd l m) (hv:v∈[1,2,3,40,(200:Int)]):Acd (Gb l v) (m+1):=by
 refine⟨YS v h.1,?_,Nat.le_trans (U5 l v) (by have:=h.2.2;omega)⟩
 intro x hx
 rcases(KT l v x).1 hx with hx | rfl
 ·exact h.2.1 x hx
 ·exact hv
structure AsP (e:Ai):Prop where
 vers:VP e.versions 6 4
 pos:0<e.versions.length
 tags:Acd e.tags 3
 path:AgA e.path 3
 cls:0≤e.cls∧e.cls≤5
theorem ABY {x:Int} (h:x∈[1,2,3,40,(200:Int)]):(0≤x∧x≤255)∧Aq x=false:=by
 simp at h
 rcases h with rfl | rfl | rfl | rfl | rfl<;>exact⟨by omega,by decide⟩
theorem Ayp {e:Ai} (h:AsP e):Aj e=true:=by
 unfold Aj
 rw[ZK h.vers.1 (fun x hx=>by have:=h.vers.2.1 x hx;omega) h.pos,ArS h.tags.1 (fun x hx=>(ABY (h.tags.2.1 x hx)).1)]
 have h1:e.tags.any Aq=false:=by
  rw[List.any_eq_false]
  intro x hx
  rw[(ABY (h.tags.2.1 x hx)).2]
  simp
 have h2:e.path.all ET=true:=List.all_eq_true.2 fun b hb=>(h.path.2 b hb).1
 rw[h1,h2]
 have:=h.tags.2.2
 have:=h.path.1
 have:=h.cls
 simp only[Bool.true_and,Bool.and_true,Bool.not_false,Bool.and_eq_true,decide_eq_true_eq]
 exact⟨by omega,by omega,by omega,by omega⟩
abbrev AaB (R:Rel):Prop:=∀c:Cur,Ga c→Xu R [] c AsP (fun e=> .agg (Ap e))
theorem Att (D:Dn) (hB:FK (D Dj)) (hI:AfP (D Acz)) (hV:Zd (D Ajo)) (hP:ZP (D AiB)) (hU:TF (D Ke)):AaB (Body D MO):=by
 intro c hc
 refine NE (fun Q hQ=> ?_)
 simp -implicitDefEqProofs
 obtain⟨vs,c1,hvs,hc1,pvs⟩:=hV c hc
 simp -implicitDefEqProofs [DI,ints]at pvs
 refine Aa (pvs) ?_
 simp -implicitDefEqProofs
 obtain⟨pa,c2,hpa,hc2,ppa⟩:=hP c1 hc1
 simp -implicitDefEqProofs [DI,ints]at ppa
 refine Aa (ppa) ?_
 simp -implicitDefEqProofs
 obtain⟨cl,c3,hcl,hc3,pcl⟩:=hB c2 6 hc2 (by omega)
 simp -implicitDefEqProofs [DI,ints]at pcl
 refine Aa (pcl) ?_
 have hcl6:=hcl.2.2 (by omega)
 simp -implicitDefEqProofs
 obtain⟨y,c4,hy,hc4,py⟩:=hB c3 4 hc3 (by omega)
 simp -implicitDefEqProofs [DI,ints]at py
 refine Aa (py) ?_
 have hy4:=hy.2.2 (by omega)
 obtain⟨n,rfl⟩:∃n:Nat,y=n:=⟨y.toNat,by omega⟩
 simp -implicitDefEqProofs
 obtain⟨LI,hLI⟩:∃LI:Nat→St→Prop,LI=fun k s=>∃j cc l o5,j+k=n∧Ga cc∧Acd l j∧s=⟨[.ptr 0 0,.ptr 1 0,.ptr 4 0,I k,.undef],[.var (DI cc),.var [.nil 1,.nil 1,.nil 4,I 0],.arr 1 0 vs.length (ints vs),.arr 4 0 pa.length (pa.flatMap Cz),.var [.arr 2,.arr 7,.arr 3,I cl],o5,.free,.arr 1 0 l.length (ints l)]⟩:=⟨_,rfl⟩
 refine Ae LI ?_ (n) _ (by rw[hLI];exact⟨0,c4,[],.free,by simp,hc4,⟨List.Pairwise.nil,by simp,by simp⟩,by simp[ints]⟩)
 intro k s hs
 rw[hLI]at hs
 obtain⟨j,cc,l,o5,hj,hcc,hl,hs⟩:=hs
 subst hs
 by_cases hk:0<k
 ·have hwk:IntKind.i64.wrap ((k:Int)-1)=(k-1:Nat):=by rw[Ac (by omega) (by omega)];omega
  simp -implicitDefEqProofs [hk]
  obtain⟨z,c5,hz,hc5,pz⟩:=hI cc [1,2,3,40,200] hcc (by simp) (by simp)
  simp -implicitDefEqProofs [DI,ints]at pz
  refine Aa (pz) ?_
  simp -implicitDefEqProofs
  refine Aa (hU l z (by have:=hl.2.2;omega)) ?_
  simp -implicitDefEqProofs [hwk]
  refine⟨k-1,by omega,?_⟩
  rw[hLI]
  exact⟨j+1,c5,Gb l z,_,by omega,hc5,AA3 hl hz,rfl⟩
 ·have hk0:k=0:=by omega
  subst hk0
  simp -implicitDefEqProofs [NS,AY]
  exact hQ ⟨vs,l,pa,cl⟩ cc ⟨hvs.1,hvs.2,⟨hl.1,hl.2.1,by have:=hl.2.2;dsimp only;omega⟩,hpa,by dsimp only;omega⟩ hcc
structure AFH (e:Ai):Prop where
 vers:e.versions.length≤5
 tags:e.tags.length≤6
 path:e.path.length≤5
 box:∀b,b∈e.path→AEy b
end Go.Eng.T
namespace Go.Eng.T
set_option maxRecDepth 20000
set_option maxHeartbeats 1000000
end Go.Eng.T
namespace Go.Eng.T
set_option maxRecDepth 20000
set_option maxHeartbeats 2000000
theorem max_mem:∀ {l:List Int} {a x:Int},x∈l→x≤l.foldl (fun a v=>if v>a then v else a) a
 | y::l,a,x,h=>by
  have ge:∀(l:List Int) (a:Int),a≤l.foldl (fun a v=>if v>a then v else a) a:=by
   intro l
   induction l with
   | nil=>intro a;exact Int.le_refl a
   | cons z l ih=>
    intro a
    simp only[List.foldl_cons]
    refine Int.le_trans ?_ (ih _)
    split<;>omega
  simp only[List.foldl_cons]
  rcases List.mem_cons.1 h with rfl | h
  ·refine Int.le_trans ?_ (ge l _)
   split<;>omega
  ·exact max_mem h
theorem Auy {s l:List Int} (hs:Ar s=true) (hl:Ar l=true) (h1:1∈s) (h2:1∈l):reach s l=true:=by
 unfold reach AB
 rw[if_pos ⟨hs,hl⟩]
 have hm:(1:Int)∈common s l:=List.mem_filter.2 ⟨h1,by simpa using h2⟩
 have:=max_mem (a:=0) hm
 have:¬Ti (common s l)=0:=by unfold Ti;omega
 simp[this]
def Vs (y:Int):List Int:=Gb [1] (2+y)
theorem R5 {y:Int} (h:0≤y∧y<2):VP (Vs y) 6 2∧1∈Vs y∧0<(Vs y).length:=
 ⟨AgY (AxF (by omega)) (by omega),(KT _ _ _).2 (.inl (by simp)),put_pos _ _⟩
theorem Asr {l:List Int} {m:Nat} (h:VP l 6 m) (h0:0<l.length):Ar l=true:=ZK h.1 (fun x hx=>by have:=h.2.1 x hx;omega) h0
def AwF (e:Ai):Prop:=AsP e∧1∈e.versions∧∃y:Int,(0≤y∧y<2)∧e.versions=Vs y
theorem AAJ {e:Ai} (h:AsP e):Af e≤40:=by
 have h1:=h.vers.2.2
 have h2:=h.tags.2.2
 have h3:∀(l:List EK),(∀b,b∈l→AoR b)→Er Lf l≤9*l.length:=by
  intro l
  induction l with
  | nil=>intro _;simp[Er]
  | cons b l ih=>
   intro hb
   have:=ih (fun x hx=>hb x (by simp[hx]))
   have hb0:=hb b (by simp)
   have e1:=hb0.2.1
   have e2:=hb0.2.2
   simp only[Er,Lf,List.length_cons,List.map_cons,List.sum_cons]at *
   omega
 have:=h3 e.path h.path.2
 have:=h.path.1
 unfold Af
 omega
theorem AAy {l:List Ai} {m:Nat} (h:∀e,e∈l→Af e≤m):Er Af l≤l.length*(m+1):=by
 induction l with
 | nil=>simp[Er]
 | cons e l ih=>
  have:=ih (fun x hx=>h x (by simp[hx]))
  have:=h e (by simp)
  simp only[Er,List.length_cons,List.map_cons,List.sum_cons,Nat.add_mul,Nat.mul_add,Nat.mul_one]at *
  omega
theorem Axt {l:List Ai} {P:Ai→Prop} {e:Ai} (h:∀x,x∈l→P x) (he:P e):∀x,x∈l++ [e]→P x:=by
 intro x hx
 rcases List.mem_append.1 hx with hx | hx
 ·exact h x hx
 ·simp at hx;subst hx;exact he
abbrev zW:List V:=[.nil 1,.nil 1,I 0,.nil 4,I 0,.nil 1,I 0,B false,I 0,I 0,.nil 5,.nil 8,I 0,I 0,I 0]
structure Asq (w:World):Prop where
 ok:D5 w=true
 sz:Bo w≤400
 ends:0<w.ends.length
 eok:∀e,e∈w.ends→AwF e
 nolog:w.log=[]
 nostage:w.stage=[]
 few:w.ends.length≤5
 start:w.now=0∧w.hurt=0
 key:w.key=77∧w.reached=0
 ver:w.rollout.version=4∨w.rollout.version=5
theorem Ano {y z:Int} {r:EP} {t:List Int} {es:List Ai} (hy:0≤y∧y<2) (hz:0≤z∧z<2) (hr:AwO r) (ht:VP t 200 4) (he:∀e,e∈es→AwF e) (hl:0<es.length∧es.length≤5)
 {s:List Int} (hs:s=Gb (Gb [1] (2+y)) (4+z)) {v:Int} (hv:v∈s) (hv4:v=4∨v=5):Asq (CB s t es ⟨v,r.stages,0,r.off⟩):=by
 have hs1:VP s 6 3:=by rw[hs];exact AgY (R5 hy).1 (by omega)
 have hs2:1∈s:=by rw[hs];exact(KT _ _ _).2 (.inl (R5 hy).2.1)
 have hs3:0<s.length:=List.length_pos_of_mem hs2
 have hsv:=Asr hs1 hs3
 obtain⟨⟨⟨q1,q2,q3⟩,q4,q5⟩,q6⟩:=hr
 have e1:Ih (CB s t es ⟨v,r.stages,0,r.off⟩).server (Oy (CB s t es ⟨v,r.stages,0,r.off⟩))=true:=by
  show Ih s _=true
  unfold Ih
  rw[hsv,Bool.true_and,List.all_eq_true]
  intro l hl
  obtain⟨e,he',rfl⟩:=List.mem_map.1 hl
  have h1:=he e he'
  exact Auy hsv (Asr h1.1.vers h1.1.pos) hs2 h1.2.1
 refine⟨?_,?_,hl.1,he,rfl,rfl,hl.2,⟨rfl,rfl⟩,⟨rfl,rfl⟩,hv4⟩
 ·have e2:EO t=true:=ArS ht.1 (fun x hx=>by have:=ht.2.1 x hx;omega)
  have e3:es.all Aj=true:=List.all_eq_true.2 fun e h=>Ayp (he e h).1
  have e4:Br ⟨v,r.stages,0,r.off⟩=true:=by
   unfold Br
   dsimp only
   have hvb:=hs1.2.1 v hv
   rw[As8 q1 q2,q5]
   simp only[Bool.true_and,Bool.and_eq_true,decide_eq_true_eq]
   exact⟨⟨⟨⟨by omega,by omega⟩,by omega,by omega⟩,by trivial⟩,by omega,by omega⟩
  unfold D5 PG Lx JD
  rw[e1]
  simp only[CB,e2,e3,e4,Bool.true_and,Bool.and_true]
  simp -implicitDefEqProofs only[Bool.and_eq_true]
  exact⟨rfl,decide_eq_true (by omega),⟨decide_eq_true hv,decide_eq_true ⟨by omega,by omega⟩,decide_eq_true ⟨by omega,by omega⟩⟩,rfl,rfl,decide_eq_true ⟨by omega,by omega⟩,decide_eq_true ⟨by simp,by simp⟩,decide_eq_true ⟨by omega,by omega⟩⟩
 ·rw[Aww]
  have h1:=hs1.2.2
  have h2:=ht.2.2
  have h3:=AAy (l:=es) (m:=40) (fun e h=>AAJ (he e h).1)
  have h4:es.length*41≤5*41:=Nat.mul_le_mul_right _ hl.2
  simp only[G8]
  omega
theorem AwZ {y z:Int} (hy:0≤y∧y<2) (hz:0≤z∧z<2) {s:List Int} (hs:s=Gb (Gb [1] (2+y)) (4+z)) (h:s.length-1<s.length):s[s.length-1]=4∨s[s.length-1]=5:=by
 have h1:y=0∨y=1:=by omega
 have h2:z=0∨z=1:=by omega
 subst hs
 rcases h1 with rfl | rfl<;>rcases h2 with rfl | rfl<;>revert h<;>decide
abbrev Wo (R:Rel):Prop:=∀c:Cur,Ga c→Xu R [] c Asq (fun w=> .agg (FH w))
theorem ApQ (D:Dn) (hB:FK (D Dj)) (hP:TF (D Ke)) (hR:Aao (D AiI)) (hE:AaB (D Ajy)) (hT:Vg (D Xm)) (hN:V3 (D Agz)):Wo (Body D Lp):=by
 intro c hc
 refine NE (fun Q hQ=> ?_)
 simp -implicitDefEqProofs
 obtain⟨y,c1,hy,hc1,py⟩:=hB c 2 hc (by omega)
 simp -implicitDefEqProofs [DI,ints]at py
 refine Aa (py) ?_
 have hy2:=hy.2.2 (by omega)
 have w1:IntKind.i64.wrap (2+y)=2+y:=Ac (by omega) (by omega)
 simp -implicitDefEqProofs [w1]
 have pp:=hP [1] (2+y) (by simp)
 simp -implicitDefEqProofs [ints]at pp
 refine Aa (pp) ?_
 simp -implicitDefEqProofs
 obtain⟨z,c2,hz,hc2,pz⟩:=hB c1 2 hc1 (by omega)
 simp -implicitDefEqProofs [DI,ints]at pz
 refine Aa (pz) ?_
 have hz2:=hz.2.2 (by omega)
 have w2:IntKind.i64.wrap (4+z)=4+z:=Ac (by omega) (by omega)
 have hl2:=(R5 (y:=y) ⟨by omega,by omega⟩).1.2.2
 unfold Vs at hl2
 simp -implicitDefEqProofs [w2]
 have pp2:=hP (Gb [1] (2+y)) (4+z) (by omega)
 simp -implicitDefEqProofs [ints]at pp2
 refine Aa (pp2) ?_
 obtain⟨sv,hs⟩:∃sv,sv=Gb (Gb [1] (2+y)) (4+z):=⟨_,rfl⟩
 have hsp:0<sv.length:=by rw[hs];exact put_pos _ _
 have hsl:sv.length≤3:=by rw[hs];exact Nat.le_trans (U5 _ _) (by omega)
 rw[←hs]
 simp -implicitDefEqProofs
 obtain⟨r,c3,hr,hc3,pr⟩:=hR c2 hc2
 simp -implicitDefEqProofs [DI,ints]at pr
 refine Aa (pr) ?_
 have hws:IntKind.i64.wrap ((sv.length:Int)-1)=(sv.length-1:Nat):=by rw[Ac (by omega) (by omega)];omega
 have hs1:sv.length-1<sv.length:=by omega
 simp -implicitDefEqProofs [hws,hs1]
 obtain⟨x,c4,hx,hc4,px⟩:=hB c3 4 hc3 (by omega)
 simp -implicitDefEqProofs [DI,ints]at px
 refine Aa (px) ?_
 have hx4:=hx.2.2 (by omega)
 have w3:IntKind.i64.wrap (2+x)=2+x:=Ac (by omega) (by omega)
 obtain⟨n,hn⟩:∃n:Nat,2+x=n:=⟨(2+x).toNat,by omega⟩
 simp -implicitDefEqProofs [w3,hn]
 have hv:sv[sv.length-1]∈sv:=List.getElem_mem hs1
 have hv4:=AwZ ⟨by omega,by omega⟩ ⟨by omega,by omega⟩ hs hs1
 have w5:IntKind.i64.wrap (n:Int)=n:=Ac (by omega) (by omega)
 generalize sv[sv.length-1]=v at hv hv4
 obtain⟨LI,hLI⟩:∃LI:Nat→St→Prop,LI=fun k s=>∃j cc es o8 o9 o10 o11 o12 o13 o14,j+k=n∧Ga cc∧(es:List Ai).length=j∧(∀e,e∈es→AwF e)∧s=⟨[.ptr 0 0,.ptr 1 0,.arr 4,.ptr 6 0,.arr 24,I k,.undef,.undef,.undef],[.var (DI cc),.var zW,.arr 1 0 1 [I 1],.arr 1 0 (Gb [1] (2+y)).length (ints (Gb [1] (2+y))),.arr 1 0 sv.length (ints sv),.arr 1 0 r.stages.length (ints r.stages),.var [I v,.arr 5,I 0,B r.off],.free,o8,o9,o10,o11,o12,o13,o14,.free,.free,.free,.free,.free,.free,.free,.free,.free,.arr 4 0 es.length (es.flatMap Ap)]⟩:=⟨_,rfl⟩
 refine Ae LI ?_ (n) _ (by rw[hLI];exact⟨0,c4,[],.free,.free,.free,.free,.free,.free,.free,by simp,hc4,rfl,by simp,by simp[ints,w5]⟩)
 intro k s hs
 rw[hLI]at hs
 obtain⟨j,cc,es,o8,o9,o10,o11,o12,o13,o14,hj,hcc,hel,hes,hs⟩:=hs
 subst hs
 by_cases hk:0<k
 ·have hwk:IntKind.i64.wrap ((k:Int)-1)=(k-1:Nat):=by rw[Ac (by omega) (by omega)];omega
  have hb1:(es.length+1)*80≤1099511627776:=by omega
  simp -implicitDefEqProofs [hk]
  obtain⟨e,c5,he,hc5,pe⟩:=hE cc hcc
  simp -implicitDefEqProofs [DI,ints]at pe
  refine Aa (pe) ?_
  simp -implicitDefEqProofs
  obtain⟨u,c6,hu,hc6,pu⟩:=hB c5 2 hc5 (by omega)
  simp -implicitDefEqProofs [DI,ints]at pu
  refine Aa (pu) ?_
  have hu2:=hu.2.2 (by omega)
  have w4:IntKind.i64.wrap (2+u)=2+u:=Ac (by omega) (by omega)
  simp -implicitDefEqProofs [w4]
  have pp3:=hP [1] (2+u) (by simp)
  simp -implicitDefEqProofs [ints]at pp3
  refine Aa (pp3) ?_
  simp -implicitDefEqProofs [hb1,hwk]
  have ho:=R5 (y:=u) ⟨by omega,by omega⟩
  have he1:AwF ⟨Vs u,e.tags,e.path,e.cls⟩:=⟨⟨ZR ho.1 (by omega),ho.2.2,he.tags,he.path,he.cls⟩,ho.2.1,u,⟨by omega,by omega⟩,rfl⟩
  refine⟨k-1,by omega,?_⟩
  rw[hLI]
  exact⟨j+1,c6,es++ [⟨Vs u,e.tags,e.path,e.cls⟩],_,_,_,_,_,_,_,by omega,hc6,by simp[hel],Axt hes he1,by simp[Ap,ints,Vs];exact⟨rfl,rfl,rfl,rfl,rfl,rfl,rfl⟩⟩
 ·have hk0:k=0:=by omega
  subst hk0
  simp -implicitDefEqProofs
  obtain⟨t,c7,ht,hc7,pt⟩:=hT cc hcc
  simp -implicitDefEqProofs [DI,ints]at pt
  refine Aa (pt) ?_
  have hw:=Ano (y:=y) (z:=z) (r:=r) (t:=t) (es:=es) ⟨by omega,by omega⟩ ⟨by omega,by omega⟩ hr ht hes ⟨by omega,by omega⟩ hs hv hv4
  have hnw:=hN sv t es ⟨v,r.stages,0,r.off⟩ (by have:=hw.sz;omega)
  have hne:M0 sv t es ⟨v,r.stages,0,r.off⟩=(CB sv t es ⟨v,r.stages,0,r.off⟩,true):=by unfold M0;rw[if_pos hw.ok]
  rw[hne]at hnw
  simp -implicitDefEqProofs
  simp -implicitDefEqProofs [DI,ints,CB]at hnw
  refine Aa (hnw) ?_
  simp -implicitDefEqProofs [NS,AY]
  exact hQ _ c7 hw hc7
end Go.Eng.T
namespace Go.Eng.T
set_option maxRecDepth 20000
set_option maxHeartbeats 4000000
def AEm (w:World) (r:EP):World:={w with rollout:=r}
def ACJ (w:World):World×Bool:=
 if w.reached=0 then(w,false)
 else if SB w=1 then(if(AmJ w.rollout).2=true then(enter (AEm w (AmJ w.rollout).1),true)else(w,false))
 else if SB w=2 then(if(ArC w.rollout).2=true then(leave (AEm w (ArC w.rollout).1),true)else(w,false))
 else(w,false)
abbrev AHR (R:Rel):Prop:=∀w:World,Bo w≤4194304→R [arg (FH w)] [] (.tup [.agg (FH (ACJ w).1),B (ACJ w).2]) []
theorem ANO (r:EP):G8 (AmJ r).1=G8 r:=by unfold AmJ;split<;>rfl
theorem ANM (r:EP):G8 (ArC r).1=G8 r:=by unfold ArC;split<;>rfl
theorem AMf (r:EP):(ArC r).1.version=r.version:=by unfold ArC;split<;>rfl
theorem AJ4 {w:World} {r:EP} (h:G8 r=G8 w.rollout):Bo (AEm w r)=Bo w:=by simp only[Bo,AEm,h]
theorem AL1 (D:Dn) (hC:Y8 (D AvV)) (hN:TH (D AeC)) (hX:AHU (D Avy)) (hE:AGQ (D Auw)) (hB:AHO (D AvR)) (hL:AGN (D Ara)):AHR (Body D AG0):=by
 intro w hsz
 have hr:=Aon hsz
 simp -implicitDefEqProofs
 refine Aa (hC w hsz) ?_
 by_cases h0:w.reached=0
 ·have e:ACJ w=(w,false):=by unfold ACJ;rw[if_pos h0]
  simp -implicitDefEqProofs [h0,e]
 simp -implicitDefEqProofs [h0]
 refine Aa (hN w hsz) ?_
 by_cases g1:SB w=1
 ·simp -implicitDefEqProofs [g1]
  refine Aa (hX w.rollout hr) ?_
  have hs:=ANO w.rollout
  by_cases hk:(AmJ w.rollout).2=true
  ·have e:ACJ w=(enter (AEm w (AmJ w.rollout).1),true):=by unfold ACJ;rw[if_neg h0,if_pos g1,if_pos hk]
   rw[e]
   generalize(AmJ w.rollout).1=r at hs
   simp -implicitDefEqProofs [hk]
   refine Aa (hE (AEm w r) (by rw[AJ4 hs];exact hsz)) ?_
   simp -implicitDefEqProofs
  ·have e:ACJ w=(w,false):=by unfold ACJ;rw[if_neg h0,if_pos g1,if_neg hk]
   rw[e]
   generalize(AmJ w.rollout).1=r
   simp -implicitDefEqProofs [hk]
   refine Aa (hC w hsz) ?_
   simp -implicitDefEqProofs
 simp -implicitDefEqProofs [g1]
 by_cases g2:SB w=2
 ·simp -implicitDefEqProofs [g2]
  refine Aa (hB w.rollout hr) ?_
  have hs:=ANM w.rollout
  by_cases hk:(ArC w.rollout).2=true
  ·have e:ACJ w=(leave (AEm w (ArC w.rollout).1),true):=by unfold ACJ;rw[if_neg h0,if_neg g1,if_pos g2,if_pos hk]
   rw[e]
   generalize(ArC w.rollout).1=r at hs
   simp -implicitDefEqProofs [hk]
   refine Aa (hL (AEm w r) (by rw[AJ4 hs];exact hsz)) ?_
   simp -implicitDefEqProofs
  ·have e:ACJ w=(w,false):=by unfold ACJ;rw[if_neg h0,if_neg g1,if_pos g2,if_neg hk]
   rw[e]
   generalize(ArC w.rollout).1=r
   simp -implicitDefEqProofs [hk]
   refine Aa (hC w hsz) ?_
   simp -implicitDefEqProofs
 have e:ACJ w=(w,false):=by unfold ACJ;rw[if_neg h0,if_neg g1,if_neg g2]
 rw[e]
 simp -implicitDefEqProofs [g2]
 refine Aa (hC w hsz) ?_
 simp -implicitDefEqProofs
end Go.Eng.T
namespace Go.Eng.T
set_option maxRecDepth 20000
set_option maxHeartbeats 2000000
theorem AKz (p:Int→Bool) (l:List Ext):(kept p l).length≤l.length:=List.length_filter_le _ _
theorem ANg (b:EK) (h:Hello):(Ba b h).1.exts.length≤h.exts.length:=by
 unfold Ba
 split
 ·exact AKz _ _
 ·simp[Ay]
theorem ALx:∀(path:List EK) (h:Hello),(EQ path h).1.exts.length≤h.exts.length
 | [],h=>by simp[EQ]
 | b::r,h=>by
  have h1:=ANg b h
  have h2:=ALx r (Ba b h).1
  unfold EQ
  split
  ·omega
  ·simp[Ay]
theorem AMo (path:List EK) (h:Hello):(AZ path h).1.exts.length≤h.exts.length:=by
 unfold AZ
 split
 ·exact ALx _ _
 ·simp[Ay]
theorem AOX (h:Hello) (a b:List Int):(DL h a b).1.exts.length≤h.exts.length:=by
 unfold DL
 split
 ·exact AKz (fun t=> !decide (t∈b)) h.exts
 ·simp[Ay]
theorem AO0 (h:Hello) (path:List EK):(BI h path).1.exts.length≤h.exts.length:=by
 unfold BI fallback
 have:=AOX h (Ak path h.versions) (CX path (leftOf h.versions (Ak path h.versions)) h.exts)
 repeat' split
 all_goals simp[Ay]<;>omega
theorem AOf (h seen:Hello) (vs tags:List Int) (key:Int):(TR h seen vs tags key).tags.length≤seen.exts.length:=by
 unfold TR
 split
 ·have:(AU vs tags seen).1.exts.length≤seen.exts.length:=by
   unfold AU
   split
   ·exact Nat.le_trans (AKz (fun t=> !Aq t) (Eo seen.exts tags)) (AKz (fun t=>decide (t∈tags)) seen.exts)
   ·simp
  simpa[Ao]using this
 ·simp[D8]
theorem AOY (h:Hello) (path:List EK) (vs tags:List Int) (key:Int):BJ (AdV h path vs tags key)≤2*h.exts.length+h.versions.length:=by
 unfold AdV
 split
 ·have h1:=AO0 h path
  have h2:=AMo path (BI h path).1
  have h3:(Ns (BI h path).1 path vs tags key).tags.length≤h.exts.length:=by
   unfold Ns
   split
   ·have:=AOf (BI h path).1 (AZ path (BI h path).1).1 vs tags key;omega
   ·simp[D8]
  have h4:(Ud h (BI h path).1).length≤h.exts.length+h.versions.length:=by
   unfold Ud leftOf
   have a1:=List.length_filter_le (fun v=> !decide (v∈(BI h path).1.versions)) h.versions
   have a2:=List.length_filter_le (Acs (Ao (BI h path).1.exts)) (Ao h.exts)
   have a3:(Ao h.exts).length=h.exts.length:=Jw _
   simp only[List.length_append,List.length_map]
   omega
  simp only[BJ,XI]
  omega
 ·simp[BJ,XI,D8]
theorem AOe (l:List Ext) (seed:Int) (h:l.length≤5):(BQ l seed).length≤6:=by
 unfold BQ
 split
 ·simp;omega
 ·omega
theorem ANk (e:Ai) (vs tags:List Int) (key seed:Int):BJ (GA e vs tags key seed)≤21:=by
 unfold GA
 split
 ·rename_i h1
  have h5:=Qj h1
  have e1:Dt e seed=⟨e.versions,BQ (bare e.tags) seed⟩:=by unfold Dt;rw[if_pos h1]
  have h2:=AOY (Dt e seed) e.path vs tags key
  have h3:=AOe (bare e.tags) seed (by rw[F7];exact h5)
  have h4:e.versions.length≤9:=by
   unfold Aj at h1
   simp only[Bool.and_eq_true,decide_eq_true_eq]at h1
   exact Awj h1.1
  rw[e1]at h2⊢
  dsimp only at h2⊢
  omega
 ·simp[BJ,XI,Iy,D8]
theorem ALs (w:World) (i:Int):BJ (Hl w i)≤21:=by
 unfold Hl
 repeat' split
 all_goals first | exact ANk _ _ _ _ _ | simp[BJ,XI,Iy,D8]
def AGP (w:World) (i:Int) (d:CV) (on:Bool):World:=
 {w with log:=w.log++ [⟨i,w.now,on,d⟩],stage:=(if on=true then w.stage++ [d]else w.stage),hurt:=(if(on&&SE w.rollout.version d)=true then IntKind.i64.wrap (w.hurt+1)else w.hurt)}
def AHr (w:World) (i:Int):Bool:=decide (Qt i 0 ((w.ends.length:Int)-1))&&(decide (w.log.length<60)&&decide (w.stage.length<60))
def ADH (w:World) (i:Int):World×Bool:=if AHr w i=true then(AGP w i (Hl w i) (QM w i),true)else(w,false)
abbrev AIl (R:Rel):Prop:=∀(w:World) (i:Int),Bo w≤4194304→R [arg (FH w),I i] [] (.tup [.agg (FH (ADH w i).1),B (ADH w i).2]) []
theorem AMv (D:Dn) (hC:Y8 (D AvV)) (hI:TW (D OQ)) (hDo:QE (D Aml)) (hOn:Aak (D Aid)) (hCd:V6 (D Auv)) (hB:Gy (D Ac8)):AIl (Body D AHm):=by
 intro w i hsz
 have he:=FU hsz
 simp -implicitDefEqProofs
 refine Aa (hC w hsz) ?_
 simp -implicitDefEqProofs
 refine Aa (hI w i he) ?_
 by_cases h1:Qt i 0 ((w.ends.length:Int)-1)
 rotate_left
 ·simp -implicitDefEqProofs [h1,ADH,AHr]
 by_cases h2:w.log.length<60
 rotate_left
 ·have h2':(60:Int)≤w.log.length:=by omega
  simp -implicitDefEqProofs [h1,h2,h2',ADH,AHr]
 have h2':¬(60:Int)≤w.log.length:=by omega
 by_cases h3:w.stage.length<60
 rotate_left
 ·have h3':(60:Int)≤w.stage.length:=by omega
  simp -implicitDefEqProofs [h1,h2,h2',h3,h3',ADH,AHr]
 have h3':¬(60:Int)≤w.stage.length:=by omega
 have e:ADH w i=(AGP w i (Hl w i) (QM w i),true):=by unfold ADH AHr;rw[if_pos (by simp[h1,h2,h3])]
 rw[e]
 have hds:=ALs w i
 simp -implicitDefEqProofs [h1,h2',h3']
 refine Aa (hDo w i hsz) ?_
 generalize Hl w i=d at hds
 simp -implicitDefEqProofs
 refine Aa (hOn w i hsz) ?_
 generalize QM w i=on
 have b1:(w.log.length+1)*96≤1099511627776:=by omega
 have b2:(w.stage.length+1)*72≤1099511627776:=by omega
 have b3:d.up.length≤maxLen:=by unfold BJ at hds;unfold maxLen;omega
 by_cases g:on=true
 rotate_left
 ·simp -implicitDefEqProofs [g,b1,AGP,AQ]
 simp -implicitDefEqProofs [g,b1]
 trace_state
 refine Aa (hCd d (by omega)) ?_
 simp -implicitDefEqProofs [g,b1,b2]
 refine Aa (hB d _ b3) ?_
 by_cases g2:SE w.rollout.version d=true
 ·simp -implicitDefEqProofs [g,g2,b1,b2,AGP,AQ,A7]
 ·simp -implicitDefEqProofs [g,g2,b1,b2,AGP,AQ,A7]
theorem AJi (w:World) (i:Int):Bo (ADH w i).1+(60-(ADH w i).1.log.length)*50≤Bo w+(60-w.log.length)*50∧(ADH w i).1.ends=w.ends∧(ADH w i).1.rollout=w.rollout:=by
 unfold ADH
 split
 ·rename_i h
  unfold AHr at h
  simp only[Bool.and_eq_true,decide_eq_true_eq]at h
  have hd:=ALs w i
  refine⟨?_,rfl,rfl⟩
  unfold AGP
  simp only[Bo,Er,List.length_append,List.length_cons,List.length_nil,List.map_append,List.map_cons,List.map_nil,List.sum_append,List.sum_cons,List.sum_nil,Im]
  split
  ·simp only[List.length_append,List.length_cons,List.length_nil,List.map_append,List.map_cons,List.map_nil,List.sum_append,List.sum_cons,List.sum_nil];omega
  ·omega
 ·exact⟨Nat.le_refl _,rfl,rfl⟩
def ANE (w:World):Nat→World
 | 0=>w
 | n+1=>(ADH (ANE w n) n).1
theorem AOh (w:World):∀n,Bo (ANE w n)+(60-(ANE w n).log.length)*50≤Bo w+(60-w.log.length)*50
 | 0=>Nat.le_refl _
 | n+1=>Nat.le_trans (AJi (ANE w n) n).1 (AOh w n)
end Go.Eng.T
namespace Go.Eng.T
theorem AM1 (s:List Int) (ls:List (List Int)) (v pm:Int):(AGl s ls v pm).1.length≤s.length:=by
 unfold AGl
 split
 ·exact List.length_filter_le _ _
 ·exact Nat.le_refl _
theorem ALg (w:World) (v pm:Int):Bo (Awn w v pm).1≤Bo w:=by
 unfold Awn
 have:=AM1 w.server (Oy w) v pm
 split
 ·simp only[Bo];omega
 ·exact Nat.le_refl _
end Go.Eng.T
namespace Go.Eng.T
set_option maxRecDepth 20000
set_option maxHeartbeats 4000000
def Ah0 (w:World) (e:Event):World×Bool:=
 if e.kind=1 then ADH w e.n else if e.kind=2 then AEj w else if e.kind=3 then ACJ w else if e.kind=4 then Awn w e.n 200 else if e.kind=5 then AFR w e.n
 else if e.kind=6 then AF0 w e.n e.box else if e.kind=7 then AFB w e.n else if e.kind=8 then AFM w e.n else(w,false)
abbrev AHv (R:Rel):Prop:=∀(w:World) (e:Event),Bo w≤4194304→AeL e≤4194304→R [arg (FH w),arg (Cj e)] [] (.tup [.agg (FH (Ah0 w e).1),B (Ah0 w e).2]) []
theorem ALj (D:Dn) (hC:Y8 (D AvV)) (h1:AIl (D AyD)) (h2:AHW (D Av2)) (h3:AHR (D Avu)) (h4:AHq (D Atr)) (h5:AHp (D Atb))
 (h6:AJk (D AyX)) (h7:AHM (D AvK)) (h8:AIn (D AwD)):AHv (Body D AGK):=by
 intro w e hsz hse
 simp -implicitDefEqProofs
 by_cases g1:e.kind=1
 ·have ha:Ah0 w e=ADH w e.n:=by unfold Ah0;simp[g1]
  rw[ha]
  simp -implicitDefEqProofs [g1]
  refine Aa (h1 w e.n hsz) ?_
  generalize ADH w e.n=r
  simp -implicitDefEqProofs
 by_cases g2:e.kind=2
 ·have ha:Ah0 w e=AEj w:=by unfold Ah0;simp[g2]
  rw[ha]
  simp -implicitDefEqProofs [g2]
  refine Aa (h2 w hsz) ?_
  generalize AEj w=r
  simp -implicitDefEqProofs
 by_cases g3:e.kind=3
 ·have ha:Ah0 w e=ACJ w:=by unfold Ah0;simp[g3]
  rw[ha]
  simp -implicitDefEqProofs [g3]
  refine Aa (h3 w hsz) ?_
  generalize ACJ w=r
  simp -implicitDefEqProofs
 by_cases g4:e.kind=4
 ·have ha:Ah0 w e=Awn w e.n 200:=by unfold Ah0;simp[g4]
  rw[ha]
  simp -implicitDefEqProofs [g4]
  refine Aa (h4 w e.n 200 hsz) ?_
  generalize Awn w e.n 200=r
  simp -implicitDefEqProofs
 by_cases g5:e.kind=5
 ·have ha:Ah0 w e=AFR w e.n:=by unfold Ah0;simp[g5]
  rw[ha]
  simp -implicitDefEqProofs [g5]
  refine Aa (h5 w e.n hsz) ?_
  generalize AFR w e.n=r
  simp -implicitDefEqProofs
 by_cases g6:e.kind=6
 ·have ha:Ah0 w e=AF0 w e.n e.box:=by unfold Ah0;simp[g6]
  rw[ha]
  simp -implicitDefEqProofs [g6]
  refine Aa (h6 w e.n e.box hsz hse) ?_
  generalize AF0 w e.n e.box=r
  simp -implicitDefEqProofs
 by_cases g7:e.kind=7
 ·have ha:Ah0 w e=AFB w e.n:=by unfold Ah0;simp[g7]
  rw[ha]
  simp -implicitDefEqProofs [g7]
  refine Aa (h7 w e.n hsz) ?_
  generalize AFB w e.n=r
  simp -implicitDefEqProofs
 by_cases g8:e.kind=8
 ·have ha:Ah0 w e=AFM w e.n:=by unfold Ah0;simp[g8]
  rw[ha]
  simp -implicitDefEqProofs [g8]
  refine Aa (h8 w e.n hsz) ?_
  generalize AFM w e.n=r
  simp -implicitDefEqProofs
 have ha:Ah0 w e=(w,false):=by unfold Ah0;simp[g1,g2,g3,g4,g5,g6,g7,g8]
 rw[ha]
 simp -implicitDefEqProofs [g1,g2,g3,g4,g5,g6,g7,g8]
 refine Aa (hC w hsz) ?_
 simp -implicitDefEqProofs
theorem AMM:∀(l:List Int) (v:Int),Gf (Aqk l (Gf l v) v) v=Gf l v∧(Aqk l (Gf l v) v)[Gf l v]? =some v
 | [],v=>by simp[Gf,Aqk]
 | x::r,v=>by
  have:=AMM r v
  by_cases h:x<v
  ·have e:Aqk (x::r) (Gf (x::r) v) v=x::Aqk r (Gf r v) v:=by simp[Gf,if_pos h,Aqk]
   rw[e]
   simp only[Gf,if_pos h]
   exact⟨by rw[this.1],by simpa using this.2⟩
  ·simp[Gf,if_neg h,Aqk]
theorem ANu (l:List Int) (v:Int):Gb (Gb l v) v=Gb l v:=by
 by_cases h:l[Gf l v]? =some v
 ·have e:Gb l v=l:=by unfold Gb;rw[if_pos h]
  rw[e,e]
 ·have e:Gb l v=Aqk l (Gf l v) v:=by unfold Gb;rw[if_neg h]
  have:=AMM l v
  rw[e]
  unfold Gb
  rw[this.1,if_pos this.2]
theorem AOJ {l:List Int} {v:Int} (h:Gb l v=l):v∈l:=by
 unfold Gb at h
 split at h
 ·rename_i g;exact List.mem_of_getElem? g
 ·have:=congrArg List.length h
  rw[Ays (Asy l v)]at this
  omega
def lacks (v:Int) (e:Ai):Nat:=if Gb e.versions v=e.versions then 0 else 1
def AGR (v:Int) (e:Ai):Nat:=Af e+lacks v e
def pot (w:World):Nat:=w.server.length+w.tags.length+Er (AGR w.rollout.version) w.ends+G8 w.rollout+Er BJ w.stage+Er Im w.log+(60-w.log.length)*50
theorem AHH {α β:Type} {f:α→Nat} {g:β→Nat}:∀ {xs:List α} {ys:List β},xs.length=ys.length→(∀(i:Nat) (h:i<xs.length) (h':i<ys.length),f xs[i]≤g ys[i])→Er f xs≤Er g ys
 | [],[],_,_=>Nat.le_refl _
 | x::xs,y::ys,hl,h=>by
  have ih:=AHH (f:=f) (g:=g) (xs:=xs) (ys:=ys) (by simpa using hl) (fun i h1 h2=>h (i+1) (by simpa using h1) (by simpa using h2))
  have h0:=h 0 (by simp) (by simp)
  simp only[Er,List.length_cons,List.map_cons,List.sum_cons,List.getElem_cons_zero]at *
  omega
 | [],_::_,hl,_=>by simp at hl
 | _::_,[],hl,_=>by simp at hl
theorem APd (w:World):Bo w≤pot w:=by
 have:Er Af w.ends≤Er (AGR w.rollout.version) w.ends:=AHH rfl (fun i h h'=>by unfold AGR;omega)
 unfold Bo pot
 omega
theorem APa (w:World):pot w≤Bo w+w.ends.length+3000:=by
 have key:∀(v:Int) (l:List Ai),Er (AGR v) l≤Er Af l+l.length:=by
  intro v l
  induction l with
  | nil=>simp[Er]
  | cons e l ih=>
   have:lacks v e≤1:=by unfold lacks;split<;>omega
   simp only[Er,AGR,List.length_cons,List.map_cons,List.sum_cons]at *
   omega
 have:=key w.rollout.version w.ends
 unfold Bo pot
 omega
theorem AO1 (v:Int) (e:Ai):AGR v ⟨Gb e.versions v,e.tags,e.path,e.cls⟩≤AGR v e:=by
 have h1:=U5 e.versions v
 unfold AGR lacks Af
 dsimp only
 rw[if_pos (ANu _ _)]
 split
 ·rename_i h;rw[h];omega
 ·omega
theorem filter_lt {p:Int→Bool} {l:List Int} {x:Int} (h:x∈l) (hp:p x=false):(l.filter p).length<l.length:=by
 induction l with
 | nil=>simp at h
 | cons a r ih=>
  have hr:=List.length_filter_le p r
  rcases List.mem_cons.1 h with rfl | h
  ·rw[List.filter_cons_of_neg (by simp[hp])]
   simp only[List.length_cons];omega
  ·have:=ih h
   rw[List.filter_cons]
   split<;>simp only[List.length_cons]<;>omega
theorem ANX (w:World) (e:Ai):AGR w.rollout.version (Aw8 w e)≤AGR w.rollout.version e:=by
 unfold Aw8
 split
 ·have h1:(AfB e.versions w.rollout.version).length≤e.versions.length:=List.length_filter_le _ _
  unfold AGR Af
  dsimp only
  by_cases hg:Gb e.versions w.rollout.version=e.versions
  ·have h2:(AfB e.versions w.rollout.version).length<e.versions.length:=filter_lt (AOJ hg) (by simp)
   have:lacks w.rollout.version ⟨AfB e.versions w.rollout.version,e.tags,e.path,e.cls⟩≤1:=by unfold lacks;split<;>omega
   omega
  ·have h2:lacks w.rollout.version e=1:=by unfold lacks;rw[if_neg hg]
   have:lacks w.rollout.version ⟨AfB e.versions w.rollout.version,e.tags,e.path,e.cls⟩≤1:=by unfold lacks;split<;>omega
   omega
 ·exact Nat.le_refl _
theorem ALq (w:World):pot (enter w)≤pot w:=by
 unfold enter
 split
 ·have h:Er (AGR w.rollout.version) (w.ends.mapIdx (AwM w))≤Er (AGR w.rollout.version) w.ends:=AHH (by simp) (fun i h h'=>by
   rw[List.getElem_mapIdx]
   unfold AwM
   split
   ·exact AO1 _ _
   ·exact Nat.le_refl _)
  have h0:Er BJ ([]:List CV)=0:=rfl
  simp only[pot,h0]
  omega
 ·exact Nat.le_refl _
theorem APb (w:World):pot (leave w)≤pot w:=by
 have h:Er (AGR w.rollout.version) (w.ends.map (Aw8 w))≤Er (AGR w.rollout.version) w.ends:=AHH (by simp) (fun i h h'=>by
  rw[List.getElem_map]
  exact ANX w _)
 have h0:Er BJ ([]:List CV)=0:=rfl
 unfold leave
 simp only[pot,h0]
 omega
theorem AMt {w:World} {r:EP} (h:G8 r=G8 w.rollout) (hv:r.version=w.rollout.version):pot (AEm w r)=pot w:=by
 unfold AEm
 simp only[pot,h,hv]
theorem AMq (r:EP):(AmJ r).1.version=r.version:=by unfold AmJ;split<;>rfl
theorem ANI {w:World} {j:Nat} (hj:j<w.ends.length) (e:Ai):pot {w with ends:=w.ends.set j e} +AGR w.rollout.version w.ends[j]=pot w+AGR w.rollout.version e:=by
 have:=size_set (f:=AGR w.rollout.version) hj e
 simp only[pot]
 omega
theorem AOj (w:World) (e:Event):pot (Ah0 w e).1≤pot w+1+AeL e:=by
 unfold Ah0
 split
 ·have h:=AJi w e.n
  obtain⟨h1,h2,h3⟩:=h
  have h4:(ADH w e.n).1.server=w.server∧(ADH w e.n).1.tags=w.tags:=by unfold ADH;split<;>exact⟨rfl,rfl⟩
  unfold Bo at h1
  rw[h2,h3,h4.1,h4.2]at h1
  unfold pot
  rw[h2,h3,h4.1,h4.2]
  have hm:Er Af w.ends≤Er (AGR w.rollout.version) w.ends:=AHH rfl (fun i h h'=>by unfold AGR;omega)
  omega
 split
 ·have:=ALq w
  unfold AEj
  split<;>dsimp only<;>omega
 split
 ·unfold ACJ
  split
  ·dsimp only;omega
  split
  ·split
   ·have:=ALq (AEm w (AmJ w.rollout).1)
    rw[AMt (ANO _) (AMq _)]at this
    dsimp only;omega
   ·dsimp only;omega
  split
  ·split
   ·have:=APb (AEm w (ArC w.rollout).1)
    rw[AMt (ANM _) (AMf _)]at this
    dsimp only;omega
   ·dsimp only;omega
  ·dsimp only;omega
 split
 ·have h:=ALg w e.n 200
  have h2:(Awn w e.n 200).1.ends=w.ends∧(Awn w e.n 200).1.rollout=w.rollout∧(Awn w e.n 200).1.stage=w.stage∧(Awn w e.n 200).1.log=w.log∧(Awn w e.n 200).1.tags=w.tags:=by
   unfold Awn
   repeat' split
   all_goals exact⟨rfl,rfl,rfl,rfl,rfl⟩
  unfold Bo at h
  rw[h2.1,h2.2.1,h2.2.2.1,h2.2.2.2.1,h2.2.2.2.2]at h
  unfold pot
  rw[h2.1,h2.2.1,h2.2.2.1,h2.2.2.2.1,h2.2.2.2.2]
  omega
 split
 ·have h:=ALb w e.n
  unfold Bo at h
  unfold pot
  unfold AFR at *
  dsimp only at *
  omega
 split
 ·unfold AF0
  split
  ·split
   ·rename_i x hx
    split
    ·obtain⟨hj,rfl⟩:=List.getElem?_eq_some_iff.1 hx
     have:=ANI hj ⟨w.ends[e.n.toNat].versions,w.ends[e.n.toNat].tags,w.ends[e.n.toNat].path++ [e.box],w.ends[e.n.toNat].cls⟩
     have h1:AGR w.rollout.version ⟨w.ends[e.n.toNat].versions,w.ends[e.n.toNat].tags,w.ends[e.n.toNat].path++ [e.box],w.ends[e.n.toNat].cls⟩=AGR w.rollout.version w.ends[e.n.toNat]+1+Lf e.box:=by
      unfold AGR Af lacks
      simp only[Er,List.length_append,List.length_cons,List.length_nil,List.map_append,List.map_cons,List.map_nil,List.sum_append,List.sum_cons,List.sum_nil]
      omega
     unfold AeL
     dsimp only
     omega
    ·dsimp only;omega
   ·dsimp only;omega
  ·dsimp only;omega
 split
 ·unfold AFB
  split
  ·split
   ·rename_i x hx
    split
    ·dsimp only;omega
    ·unfold AIf
     rw[hx]
     obtain⟨hj,rfl⟩:=List.getElem?_eq_some_iff.1 hx
     have:=ANI hj ⟨w.ends[e.n.toNat].versions,w.ends[e.n.toNat].tags,[],w.ends[e.n.toNat].cls⟩
     have h1:AGR w.rollout.version ⟨w.ends[e.n.toNat].versions,w.ends[e.n.toNat].tags,[],w.ends[e.n.toNat].cls⟩≤AGR w.rollout.version w.ends[e.n.toNat]:=by
      unfold AGR Af lacks
      simp only[Er,List.length_nil,List.map_nil,List.sum_nil]
      omega
     dsimp only
     omega
   ·dsimp only;omega
  ·dsimp only;omega
 split
 ·unfold AFM
  split
  ·simp only[pot];omega
  ·dsimp only;omega
 ·dsimp only;omega
def AFQ (w:World) (l:List Event):World:=l.foldl (fun x e=>(Ah0 x e).1) w
theorem AKC {w:World} {l:List Event} {j:Nat} (h:j<l.length):AFQ w (l.take (j+1))=(Ah0 (AFQ w (l.take j)) l[j]).1:=by
 have e:l.take (j+1)=l.take j++ [l[j]]:=by simp
 unfold AFQ
 rw[e,List.foldl_append]
 rfl
theorem ANF (w:World) (l:List Event):∀j,j≤l.length→pot (AFQ w (l.take j))≤pot w+Er AeL (l.take j)
 | 0,_=>by simp[AFQ]
 | j+1,h=>by
  have hj:j<l.length:=by omega
  have h1:=ANF w l j (by omega)
  have h2:=AOj (AFQ w (l.take j)) l[j]
  have e:l.take (j+1)=l.take j++ [l[j]]:=by simp
  rw[AKC hj,e]
  simp only[Er,List.length_append,List.length_cons,List.length_nil,List.map_append,List.map_cons,List.map_nil,List.sum_append,List.sum_cons,List.sum_nil]at *
  omega
def AO5 (w:World) (l:List Event):Prop:=Bo w+w.ends.length+3000+Er AeL l≤4194304
end Go.Eng.T
namespace Go.Eng.T
set_option maxRecDepth 20000
set_option maxHeartbeats 2000000
def ALV (e:Event):Prop:=1≤e.kind∧e.kind≤8∧0≤e.n∧(e.n≤6∧(e.kind=8→e.n≤3))∧AoR e.box
theorem ANN {e:Event} (h:ALV e):AeL e≤8:=by
 have h1:=h.2.2.2.2.2.1
 have h2:=h.2.2.2.2.2.2
 unfold AeL Lf
 omega
theorem AMK:∀(l:List Event),(∀e,e∈l→ALV e)→Er AeL l≤9*l.length
 | [],_=>by simp[Er]
 | a::r,h=>by
  have h1:=ANN (h a (by simp))
  have h2:=AMK r (fun e he=>h e (by simp[he]))
  simp only[Er,List.length_cons,List.map_cons,List.sum_cons]at *
  omega
theorem AG8:AoR ⟨0,[],[],false⟩:=by
 have hn:=ZR (Arh 200) (show 0≤4 by omega)
 exact AhA (by dsimp only;omega) hn hn
abbrev AIi (R:Rel):Prop:=∀c:Cur,Ga c→Xu R [] c ALV (fun e=> .agg (Cj e))
theorem ANq (D:Dn) (hB:FK (D Dj)) (hX:Aas (D Ajj)):AIi (Body D AGu):=by
 intro c hc
 refine NE (fun Q hQ=> ?_)
 simp -implicitDefEqProofs
 obtain⟨x,c1,hx,hc1,px⟩:=hB c 12 hc (by omega)
 simp -implicitDefEqProofs [DI,ints]at px
 refine Aa (px) ?_
 by_cases g0:x=0
 ·simp -implicitDefEqProofs [g0,NS,AY]
  exact hQ ⟨2,0,⟨0,[],[],false⟩⟩ c1 ⟨by dsimp only;omega,by dsimp only;omega,by dsimp only;omega,by dsimp only;omega,AG8⟩ hc1
 by_cases g1:x=1
 ·simp -implicitDefEqProofs [g1,NS,AY]
  exact hQ ⟨3,0,⟨0,[],[],false⟩⟩ c1 ⟨by dsimp only;omega,by dsimp only;omega,by dsimp only;omega,by dsimp only;omega,AG8⟩ hc1
 by_cases g2:x=2
 ·simp -implicitDefEqProofs [g2,NS,AY]
  exact hQ ⟨3,0,⟨0,[],[],false⟩⟩ c1 ⟨by dsimp only;omega,by dsimp only;omega,by dsimp only;omega,by dsimp only;omega,AG8⟩ hc1
 by_cases g3:x=3
 ·simp -implicitDefEqProofs [g3]
  obtain⟨y,c2,hy,hc2,py⟩:=hB c1 5 hc1 (by omega)
  simp -implicitDefEqProofs [DI,ints]at py
  refine Aa (py) ?_
  have hyn:=hy.2.2 (by omega)
  have w1:IntKind.i64.wrap (1+y)=1+y:=Ac (by omega) (by omega)
  simp -implicitDefEqProofs [w1,NS,AY]
  exact hQ ⟨4,1+y,⟨0,[],[],false⟩⟩ c2 ⟨by dsimp only;omega,by dsimp only;omega,by dsimp only;omega,by dsimp only;omega,AG8⟩ hc2
 by_cases g4:x=4
 ·simp -implicitDefEqProofs [g4]
  obtain⟨y,c2,hy,hc2,py⟩:=hB c1 6 hc1 (by omega)
  simp -implicitDefEqProofs [DI,ints]at py
  refine Aa (py) ?_
  have hyn:=hy.2.2 (by omega)
  have w1:IntKind.i64.wrap (1+y)=1+y:=Ac (by omega) (by omega)
  simp -implicitDefEqProofs [w1,NS,AY]
  exact hQ ⟨5,1+y,⟨0,[],[],false⟩⟩ c2 ⟨by dsimp only;omega,by dsimp only;omega,by dsimp only;omega,by dsimp only;omega,AG8⟩ hc2
 by_cases g5:x=5
 ·simp -implicitDefEqProofs [g5]
  obtain⟨y,c2,hy,hc2,py⟩:=hB c1 5 hc1 (by omega)
  simp -implicitDefEqProofs [DI,ints]at py
  refine Aa (py) ?_
  have hyn:=hy.2.2 (by omega)
  simp -implicitDefEqProofs
  obtain⟨b,c3,hb,hc3,pb⟩:=hX c2 hc2
  simp -implicitDefEqProofs [DI,ints]at pb
  refine Aa (pb) ?_
  simp -implicitDefEqProofs [NS,AY]
  exact hQ ⟨6,y,b⟩ c3 ⟨by dsimp only;omega,by dsimp only;omega,by dsimp only;omega,by dsimp only;omega,hb⟩ hc3
 by_cases g6:x=6
 ·simp -implicitDefEqProofs [g6]
  obtain⟨y,c2,hy,hc2,py⟩:=hB c1 5 hc1 (by omega)
  simp -implicitDefEqProofs [DI,ints]at py
  refine Aa (py) ?_
  have hyn:=hy.2.2 (by omega)
  simp -implicitDefEqProofs [NS,AY]
  exact hQ ⟨7,y,⟨0,[],[],false⟩⟩ c2 ⟨by dsimp only;omega,by dsimp only;omega,by dsimp only;omega,by dsimp only;omega,AG8⟩ hc2
 by_cases g7:x=7
 ·simp -implicitDefEqProofs [g7]
  obtain⟨y,c2,hy,hc2,py⟩:=hB c1 3 hc1 (by omega)
  simp -implicitDefEqProofs [DI,ints]at py
  refine Aa (py) ?_
  have hyn:=hy.2.2 (by omega)
  have w1:IntKind.i64.wrap (1+y)=1+y:=Ac (by omega) (by omega)
  simp -implicitDefEqProofs [w1,NS,AY]
  exact hQ ⟨8,1+y,⟨0,[],[],false⟩⟩ c2 ⟨by dsimp only;omega,by dsimp only;omega,by dsimp only;omega,by dsimp only;omega,AG8⟩ hc2
 ·simp -implicitDefEqProofs [g0,g1,g2,g3,g4,g5,g6,g7]
  obtain⟨y,c2,hy,hc2,py⟩:=hB c1 5 hc1 (by omega)
  simp -implicitDefEqProofs [DI,ints]at py
  refine Aa (py) ?_
  have hyn:=hy.2.2 (by omega)
  simp -implicitDefEqProofs [NS,AY]
  exact hQ ⟨1,y,⟨0,[],[],false⟩⟩ c2 ⟨by dsimp only;omega,by dsimp only;omega,by dsimp only;omega,by dsimp only;omega,AG8⟩ hc2
abbrev AHQ (R:Rel):Prop:=∀(c:Cur) (m:Int),Ga c→m≤100→Xu R [I m] c (fun l:List Event=>(∀e,e∈l→ALV e)∧0<l.length∧(l.length:Int)≤1+(if 0<m then m-1 else 0)) (fun l=> .sl 0 6 l.length (l.flatMap Cj))
theorem AMD (D:Dn) (hB:FK (D Dj)) (hE:AIi (D AwP)):AHQ (Body D AGn):=by
 intro c m hc hm
 refine NE (fun Q hQ=> ?_)
 simp -implicitDefEqProofs
 obtain⟨x,c1,hx,hc1,px⟩:=hB c m hc (by omega)
 simp -implicitDefEqProofs [DI,ints]at px
 refine Aa (px) ?_
 have hxm:0≤x∧x≤(if 0<m then m-1 else 0):=by
  refine⟨hx.1,?_⟩
  by_cases g:0<m
  ·have:=hx.2.2 g
   rw[if_pos g];omega
  ·have:=hx.2.1 (by omega)
   rw[if_neg g];omega
 have hx100:x≤100:=by
  have:=hxm.2
  split at this<;>omega
 obtain⟨n,rfl⟩:∃n:Nat,x=n:=⟨x.toNat,by omega⟩
 simp -implicitDefEqProofs
 obtain⟨LI,hLI⟩:∃LI:Nat→St→Prop,LI=fun k s=>∃cd l o1 o2 o3 o4 o5,k≤n∧(l:List Event).length+k=n+1∧(∀e,e∈l→ALV e)∧Ga cd∧s=⟨[.ptr 0 0,.undef,.undef,.arr 6,I k,.undef],[.var (DI cd),o1,o2,o3,o4,o5,.arr 6 0 l.length (l.flatMap Cj)]⟩:=⟨_,rfl⟩
 refine Ae LI ?_ n _ (by
  rw[hLI]
  exact⟨c1,[⟨2,0,⟨0,[],[],false⟩⟩],.free,.free,.free,.free,.free,by omega,by simp;omega,fun e he=>by
   rw[List.mem_singleton.1 he]
   exact⟨by dsimp only;omega,by dsimp only;omega,by dsimp only;omega,by dsimp only;omega,AG8⟩,hc1,by simp[DI,Cj,ints]⟩)
 intro k s hs
 rw[hLI]at hs
 obtain⟨cd,l,o1,o2,o3,o4,o5,hkn,hlk,hl,hcd,hs⟩:=hs
 subst hs
 by_cases hk:0<k
 ·have hwk:IntKind.i64.wrap ((k:Int)-1)=(k-1:Nat):=by rw[Ac (by omega) (by omega)];omega
  have hb1:(l.length+1)*80≤1099511627776:=by omega
  simp -implicitDefEqProofs [hk]
  obtain⟨e,c5,he,hc5,pe⟩:=hE cd hcd
  simp -implicitDefEqProofs [DI,ints]at pe
  refine Aa (pe) ?_
  simp -implicitDefEqProofs [hb1,hwk]
  refine⟨k-1,by omega,?_⟩
  rw[hLI]
  exact⟨c5,l++ [e],_,_,_,_,_,by omega,by simp;omega,fun x hx=>by
   rcases List.mem_append.1 hx with hx | hx
   ·exact hl x hx
   ·rw[List.mem_singleton.1 hx];exact he,hc5,by simp[DI,Cj,ints];exact⟨rfl,rfl,rfl,rfl,rfl⟩⟩
 ·have hk0:k=0:=by omega
  subst hk0
  simp -implicitDefEqProofs [NS,AY]
  exact hQ l cd ⟨hl,by omega,by have:=hxm.2;omega⟩ hcd
end Go.Eng.T
namespace Go.Eng.T
set_option maxRecDepth 20000
set_option maxHeartbeats 2000000
def apart (w:World) (j:Nat):Bool:=match w.ends[j]? with
 | some e=>AF1 e.path&&(!(Hl w j).deal.ok|| !decide ((Hl w j).deal.version=AB w.server e.versions))
 | none=>false
def AF9 (w:World):Bool:=Ih w.server (Oy w)&&P8 (fun j=> !apart w j) w.ends.length
theorem AOv {w:World} {j:Nat} (h:j<w.ends.length) (ha:apart w j=true):AF9 w=false:=by
 unfold AF9
 rw[AnP (q:=fun j=> !apart w j) h (by simp[ha])]
 simp
abbrev AHu (R:Rel):Prop:=∀w:World,Bo w≤4194304→R [arg (FH w)] [] (B (AF9 w)) []
theorem AK3 (D:Dn) (hD:QE (D Aml)) (hK:AHb (D ArN)) (hB:EA (D SK)) (hL:Zb (D AyU)) (hA:Wh (D Awq)):AHu (Body D AGG):=by
 intro w hsz
 have he:=FU hsz
 have hws:=Ma hsz
 simp -implicitDefEqProofs
 refine Aa (hL w hsz) ?_
 simp -implicitDefEqProofs
 refine Aa (hA w.server (Oy w) hws.1 (Ayd hsz)) ?_
 by_cases g0:Ih w.server (Oy w)=true
 rotate_left
 ·simp -implicitDefEqProofs [AF9,g0]
 simp -implicitDefEqProofs [g0]
 refine Ae (fun k s=>∃j o2 o3 o4 o5,j+k=w.ends.length∧P8 (fun j=> !apart w j) j=true∧s=⟨[.undef,.ptr 0 0,.undef,.undef,.undef,.undef,.undef,.sl 1 4 w.ends.length (w.ends.flatMap Ap),I w.ends.length,I j,.undef,.undef],[.var ((FH w).map (AX 1)),.arr 1 0 (Oy w).length (I9 (Oy w)),o2,o3,o4,o5]⟩) ?_ (w.ends.length) _ ⟨0,.free,.free,.free,.free,by simp,by simp,by simp⟩
 intro k s ⟨j,o2,o3,o4,o5,hj,hp,hs⟩
 subst hs
 by_cases hjn:j<w.ends.length
 ·have hw:IntKind.i64.wrap ((j:Int)+1)=(j+1:Nat):=by rw[Ac (by omega) (by omega)];simp
  have hst:=JW (fun j=> !apart w j) j
  have hes:=O1 hsz hjn
  simp -implicitDefEqProofs [hjn]
  refine Aa (hD w j hsz) ?_
  generalize hd:Hl w j=d
  have hap:apart w j=(AF1 w.ends[j].path&&(!d.deal.ok|| !decide (d.deal.version=AB w.server w.ends[j].versions))):=by unfold apart;simp[hjn,hd]
  simp -implicitDefEqProofs
  refine Aa (hK w.ends[j].path (Tj hes).2.2) ?_
  by_cases g1:AF1 w.ends[j].path=true
  rotate_left
  ·have ha:apart w j=false:=by rw[hap];simp[g1]
   rw[ha]at hst
   simp -implicitDefEqProofs [g1,hjn]
   exact⟨k-1,by omega,j+1,by omega,by rw[hst,hp];rfl,by simp[hw]⟩
  by_cases g2:d.deal.ok=true
  rotate_left
  ·have ha:apart w j=true:=by rw[hap];simp[g1,g2]
   simp -implicitDefEqProofs [g1,g2,hjn,AOv hjn ha]
  simp -implicitDefEqProofs [g1,g2,hjn]
  refine Aa (hB w.server w.ends[j].versions hws.1 (OY hes)) ?_
  generalize AB w.server w.ends[j].versions=b at hap
  by_cases g3:d.deal.version=b
  ·have ha:apart w j=false:=by rw[hap];simp[g1,g2,g3]
   rw[ha]at hst
   simp -implicitDefEqProofs [g1,g2,g3,hjn]
   exact⟨k-1,by omega,j+1,by omega,by rw[hst,hp];rfl,by simp[hw]⟩
  ·have ha:apart w j=true:=by rw[hap];simp[g1,g2,g3]
   simp -implicitDefEqProofs [g1,g2,g3,hjn,AOv hjn ha]
 ·obtain rfl:j=w.ends.length:=by omega
  simp -implicitDefEqProofs [AF9,g0,hp]
def AG9 (w:World):ByteArray:=
 if D5 w=true then(if AHc w=true then(if AF9 w=true then(if w.hurt=cntF (AFX w) w.log then(if w.log.any AG6=true then⟨#[115,111,98,101,114]⟩else⟨#[]⟩)else⟨#[99,111,117,110,116]⟩)else⟨#[116,111,103,101,116,104,101,114]⟩)else⟨#[98,111,117,110,100]⟩)else⟨#[119,111,114,108,100]⟩
abbrev AI8 (R:Rel):Prop:=∀w:World,Bo w≤4194304→R [arg (FH w)] [] (S (AG9 w)) []
theorem ANw (D:Dn) (hW:Zf (D Azb)) (hB:AHK (D Avv)) (hT:AHu (D Au5)) (hC:AHT (D Avd)) (hS:AJs (D AyO)):AI8 (Body D AHC):=by
 intro w hsz
 simp -implicitDefEqProofs
 refine Aa (hW w hsz) ?_
 by_cases g1:D5 w=true
 rotate_left
 ·simp -implicitDefEqProofs [g1,AG9]
 simp -implicitDefEqProofs [g1]
 refine Aa (hB w hsz) ?_
 by_cases g2:AHc w=true
 rotate_left
 ·simp -implicitDefEqProofs [g1,g2,AG9]
 simp -implicitDefEqProofs [g2]
 refine Aa (hT w hsz) ?_
 by_cases g3:AF9 w=true
 rotate_left
 ·simp -implicitDefEqProofs [g1,g2,g3,AG9]
 simp -implicitDefEqProofs [g3]
 refine Aa (hC w hsz) ?_
 by_cases g4:w.hurt=cntF (AFX w) w.log
 rotate_left
 ·simp -implicitDefEqProofs [g1,g2,g3,g4,AG9]
 simp -implicitDefEqProofs [←g4]
 refine Aa (hS w hsz) ?_
 by_cases g5:w.log.any AG6=true
 ·simp -implicitDefEqProofs [g1,g2,g3,g5,←g4,AG9]
 ·simp -implicitDefEqProofs [g1,g2,g3,g5,←g4,AG9]
end Go.Eng.T
namespace Go.Eng.T
set_option maxRecDepth 20000
set_option maxHeartbeats 2000000
theorem Zm (p:Int→Bool) (l:List Ext):(kept p l).length≤l.length:=List.length_filter_le _ _
theorem AoH (b:EK) (h:Hello):(Ba b h).1.exts.length≤h.exts.length:=by
 unfold Ba
 split
 ·exact Zm _ _
 ·simp[Ay]
theorem Yx:∀(path:List EK) (h:Hello),(EQ path h).1.exts.length≤h.exts.length
 | [],h=>Nat.le_refl _
 | b::r,h=>by
  unfold EQ
  split
  ·exact Nat.le_trans (Yx r _) (AoH b h)
  ·simp[Ay]
end Go.Eng.T
namespace Go.Eng.T
set_option maxRecDepth 20000
set_option maxHeartbeats 2000000
def ACY (bs:List Int):Prop:=bs.length≤1048576∧∀b,b∈bs→0≤b∧b≤255
def AnT (R:Rel) (bs:List Int) {α:Type} (P:α→Prop) (res:α→V):Prop:=∃a,P a∧R [.sl 3 1 bs.length (u8s bs)] [] (res a) []
theorem ArG {D:Dn} {f:Bw} {bs:List Int} {α:Type} {P:α→Prop} {res:α→V} (h:∀Q:V→List O→Prop,(∀a,P a→Q (res a) [])→AsE D f [.sl 3 1 bs.length (u8s bs)] [] Q):AnT (Body D f) bs P res:=by
 obtain⟨v,o,⟨a,h1,rfl,rfl⟩,h3⟩:=Alf (P:=fun v o=>∃a,P a∧v=res a∧o=[]) (fun Q hQ=>h Q (fun a h1=>hQ _ _ ⟨a,h1,rfl,rfl⟩))
 exact⟨a,h1,h3⟩
end Go.Eng.T
namespace Go.Eng.T
set_option maxRecDepth 20000
set_option maxHeartbeats 2000000
abbrev AAn (R:Rel):Prop:=∀bs:List Int,bs.length≤maxLen→R [.sl 3 1 bs.length (u8s bs)] [] (B (decide (1048576<bs.length))) []
theorem AEx (D:Dn):AAn (Body D AbD):=by
 intro bs h
 unfold maxLen at h
 by_cases h1:1048576<bs.length
 ·have h1':(1048576:Int)<bs.length:=by omega
  simp -implicitDefEqProofs [h1,h1']
 ·have h1':¬(1048576:Int)<bs.length:=by omega
  simp -implicitDefEqProofs [h1,h1']
def AAI (bs:List Int):Prop:=bs.length≤maxLen∧∀b,b∈bs→0≤b∧b≤255
end Go.Eng.T
namespace Go.Eng.T
open Go.Eng.X
def Dz:Nat→Bu
 |0=>R 0 [m (z 2)] [] [2]
 |1=>R 1 [m (s 0),C 318 [r (l 0)] [0],m (s 1),C 319 [r (l 2)] [],m (l 1),m (l 3)] [(3,4),(4,5)] []
 |2=>R 2 [m (s 0),C 320 [r (l 0)] [],n (l 1),m (l 2),G 3 (m (s 0)),G 3 (e (l 4)),G 3 (y .eql (l 5) (i 6)),k (l 3) t (l 6),m (l 7),G 8 (m (s 0)),G 8 (m (s 4)),G 8 (C 321 [r (l 9),r (l 10)] []),G 8 (y .geq (l 11) (i 0)),k (l 8) t (l 12)] [(6,13)] []
 |3=>R 3 [m (s 3),m (l 0)] [(2,1)] [0,1,3,4]
 |4=>R 4 [m (s 1),C 322 [r (l 0),r (i 3),r (i 256)] [],M 1 1 1 [l 1],m (s 1),C 322 [r (l 3),r (i 2),r (i 3)] [],C 323 [r (l 2),r (l 4)] [2],m (l 5)] [(5,6)] []
 |_=>R 5 [m (s 3),m (s 1),m (s 0),e (l 2),y .add (l 3) (i 1),C 322 [r (l 1),r (i 1),r (l 4)] [],m (s 4),m (s 5),b [o,N 1] [(0,1,l 6),(1,1,l 7)],M 3 2 1 [l 8],C 324 [v (l 0),r (l 5),v (l 9)] [4],m (l 10)] [(2,11)] [0,1,3,4,5]
def LX:Bw:=⟨7,5,[0,1],0,false,[],j (d (Dz 0)) (j (d (Dz 1)) (j (j (d (Dz 2)) (h 6 (j (d (Dz 3)) (.ret)) (.skip))) (j (d (Dz 4)) (j (d (Dz 5)) (.ret))))),[.slot 2]⟩
def XK:List Tmp:=[0,1,4,5,6,7,25]
def AhZ:Nat→Bu
 |0=>R 0 [m f] [] [1]
 |1=>R 1 [m (s 0),C 460 [r (l 0)] []] [(10,1)] []
 |2=>R 2 [m t] [(1,0)] [0]
 |3=>R 3 [m (s 0),C 522 [r (l 0)] [0,1,2,3,4,5,6],m (l 1),X (l 2) 0,X (l 2) 1,a 7 zW,W 15 (l 5) (l 3),m (l 4)] [(2,5),(3,7)] [0]
 |4=>Q 4 [P 15 (s 2),a 8 zW,W 15 (l 1) (l 0)] [(4,1)] [2] [] [w 0 19,w 1 20,w 4 23,w 5 24,w 2 21,w 3 22]
 |5=>R 5 [m (i 0)] [(5,0)] []
 |6=>R 6 [m (s 5),m (s 3),e (l 1),y .lss (l 0) (l 2)] [(11,3)] []
 |7=>Y 8 [D (P 15 (s 4)) [8] [],D (m (s 3)) [] [],D (m (s 5)) [] [],D (A 6 (l 1) (l 2)) [6] [],D (P 6 (l 3)) [6] [],D (C 41 [r (l 0),r (l 4)] [9,10,11,12,13,14]) [9,10,11,12,13,14,19,20,21,22,23,24] [9,10,11,12,13,14],D (m (l 5)) [] [],D (X (l 6) 0) [] [],D (X (l 6) 1) [] [],D (a 15 zW) [15] [15],D (W 15 (l 9) (l 7)) [15] [15],D (m (l 8)) [] []] [(6,9)] [] [9,10,11,12,13,14,15] []
 |8=>Q 9 [P 15 (s 6),W 15 (s 4) (l 0)] [] [6] [] [w 9 19,w 10 20,w 13 23,w 14 24,w 11 21,w 12 22]
 |9=>R 10 [P 15 (s 4),C 133 [r (l 0)] [],y .neq (l 1) (.con (.sc (.string ⟨#[]⟩)))] [(12,2)] []
 |10=>R 11 [m f] [(1,0)] [3,4,5]
 |11=>R 12 [m (i 0)] [(7,0)] []
 |12=>R 13 [m (s 7),F (s 4) 3,L (l 1),e (l 2),y .lss (l 0) (l 3)] [(13,4)] []
 |13=>Q 15 [P 15 (s 4),m (s 7),C 173 [r (l 0),r (l 1)] [16,17],a 18 zD,W 5 (l 3) (l 2)] [(8,3)] [] [16,17,18] []
 |14=>R 16 [P 15 (s 4),m (s 7),C 119 [r (l 0),r (l 1)] [],m (l 2)] [(9,3)] []
 |15=>R 17 [F (s 8) 0,F (l 0) 0,L (l 1),m (s 9),y .gtr (l 3) (i 0),LD.beq true (l 2) (l 4),m (l 5),G 6 (F (s 8) 0),G 6 (F (l 7) 0),G 6 (L (l 8)),G 6 (m (l 9)),J 10 (F (s 8) 0),J 10 (F (l 11) 1),J 10 (L (l 12)),J 10 (m (s 9)),J 10 (y .neq (l 13) (l 14)),G 6 (k (l 10) (l 15) f),k (l 6) t (l 16)] [(14,17)] [8,9]
 |16=>R 18 [m f] [(1,0)] [3,4,5,7]
 |17=>R 14 [m (s 7),y .add (l 0) (i 1),m (l 1)] [(7,2)] []
 |18=>R 19 [F (s 4) 4,F (l 0) 3,L (l 1),m (l 2),J 3 (P 15 (s 4)),J 3 (C 434 [r (l 4)] []),J 3 (y .gtr (l 5) (i 0)),k (l 3) (l 6) f] [(15,7)] [7]
 |19=>R 20 [m f] [(1,0)] [3,4,5]
 |20=>R 7 [m (s 5),y .add (l 0) (i 1),m (l 1)] [(5,2)] []
 |_=>R 21 [P 15 (s 4),C 184 [r (l 0)] [],m (l 1)] [(1,2)] [3,4,5]
def AIc:Bw:=⟨16,25,[0],0,true,[],j (d (AhZ 0)) (j (j (d (AhZ 1)) (h 10 (j (d (AhZ 2)) (.ret)) (.skip))) (j (d (AhZ 3)) (j (d (AhZ 4)) (j (j (d (AhZ 5)) (.block 0 (.loop (j (j (d (AhZ 6)) (h 11 (.skip) (.exit 0))) (j (.block 1 (j (d (AhZ 7)) (j (d (AhZ 8)) (j (j (d (AhZ 9)) (h 12 (j (d (AhZ 10)) (.ret)) (.skip))) (j (j (d (AhZ 11)) (.block 2 (.loop (j (j (d (AhZ 12)) (h 13 (.skip) (.exit 2))) (j (.block 3 (j (d (AhZ 13)) (j (d (AhZ 14)) (j (d (AhZ 15)) (h 14 (j (d (AhZ 16)) (.ret)) (.skip)))))) (d (AhZ 17))))))) (j (d (AhZ 18)) (h 15 (j (d (AhZ 19)) (.ret)) (.skip)))))))) (d (AhZ 20))))))) (j (d (AhZ 21)) (.ret)))))),[.slot 1]⟩
def ALl:List Tmp:=[0,2,3,4,5,6,7,9,10,11,13,23,38,43,69,77]
def ADu:Nat→Bu
 |0=>R 0 [a 0 zW,m (z 6)] [(1,0)] [2]
 |1=>R 1 [m (s 0),C 473 [r (l 0)] [1],m (l 1)] [(3,2)] [0]
 |2=>R 2 [m (s 3),C 479 [v (l 0)] [2,3,4,5,6,7],a 8 zW,W 15 (l 2) (l 1)] [(4,2)] []
 |3=>R 3 [m (s 3),C 474 [v (l 0),r (i 2)] []] [(5,1)] []
 |4=>R 4 [m (s 3),C 478 [v (l 0),r (i 3)] [],y .add (i 1) (l 1),F (s 4) 8,W 1 (l 3) (l 2)] [] []
 |_=>T 5 [D (P 15 (s 4)) [8] [],D (m (s 3)) [] [],D (C 484 [v (l 1),r (i 18)] [9]) [1,9] [1,9],D (W 15 (s 1) (l 0)) [0] [0],D (m (l 2)) [] []] [(2,4)] [3,4]
def AF6:Bw:=⟨6,10,[0],0,false,[],j (d (ADu 0)) (j (d (ADu 1)) (j (d (ADu 2)) (j (j (d (ADu 3)) (h 5 (d (ADu 4)) (.skip))) (j (d (ADu 5)) (.ret))))),[.cell 1 (some 15),.slot 2]⟩
def AH1:List Tmp:=[0,2,3,4,5,11]
def Ah:Nat→Bu
 |0=>R 0 [m (z 1)] [] [1]
 |1=>R 1 [m (i 0)] [(2,0)] []
 |2=>R 2 [m (s 0),e (l 0),m (i 0)] [(6,0),(7,1),(8,2)] []
 |3=>R 3 [y .lss (s 8) (s 7)] [(9,0)] []
 |4=>R 4 [A 1 (s 6) (s 8),L (l 0),m (l 1)] [(3,2)] []
 |5=>R 5 [m (s 2),m (s 3),e (l 1),y .add (l 0) (l 2),m (l 3)] [(2,4)] [3]
 |6=>R 6 [m (s 2),y .lss (l 0) (i 0)] [(10,1)] []
 |7=>R 8 [y .add (s 8) (i 1),m (l 0)] [(8,1)] []
 |8=>Q 9 [m (s 2),C 419 [r (.con (.sc (.slice none 0 0))),r (l 0)] [0],m (l 1)] [(4,2)] [2,6,7,8] [] [w 0 2]
 |9=>R 10 [m (s 0),e (l 0),m (i 0)] [(11,0),(12,1),(13,2)] [0]
 |10=>R 11 [y .lss (s 13) (s 12)] [(14,0)] []
 |11=>R 12 [A 1 (s 11) (s 13),L (l 0),m (l 1)] [(5,2)] []
 |12=>Q 13 [m (s 4),m (s 5),q 1 1 8 (l 0) (l 1),m (l 2)] [(4,3)] [5] [1] [w 1 2]
 |13=>R 14 [y .add (s 13) (i 1),m (l 0)] [(13,1)] []
 |_=>R 15 [m (s 4),m (l 0)] [(1,1)] [4,11,12,13]
def Fy:Bw:=⟨15,3,[0],0,false,[],j (d (Ah 0)) (j (d (Ah 1)) (j (j (d (Ah 2)) (.block 0 (.loop (j (d (Ah 3)) (j (h 9 (.skip) (.exit 0)) (j (.block 1 (j (d (Ah 4)) (j (d (Ah 5)) (j (d (Ah 6)) (h 10 (.stuck) (.skip)))))) (d (Ah 7)))))))) (j (d (Ah 8)) (j (j (d (Ah 9)) (.block 2 (.loop (j (d (Ah 10)) (j (h 14 (.skip) (.exit 2)) (j (.block 3 (j (d (Ah 11)) (d (Ah 12)))) (d (Ah 13)))))))) (j (d (Ah 14)) (.ret)))))),[.slot 1]⟩
def Oa:List Tmp:=[0,2,3,5,6,8,9,10,11,12,20,25,26,27,28]
attribute [simp] Dz LX AhZ AIc ADu AF6 Ah Fy
end Go.Eng.T
namespace Go.Eng.T
abbrev ALr:Nat:=511
abbrev AMX:Nat:=512
abbrev AN7:Nat:=513
abbrev ANW:Nat:=514
abbrev AL3:Nat:=515
abbrev AOw:Nat:=516
abbrev AOr:Nat:=517
abbrev AOA:Nat:=518
abbrev AMW:Nat:=519
abbrev AMz:Nat:=520
abbrev AO2:Nat:=521
abbrev AIv:Nat:=522
abbrev AOS:Nat:=523
abbrev ANh:Nat:=524
abbrev AMU:Nat:=525
abbrev AMj:Nat:=526
abbrev AMS:Nat:=527
abbrev ANK:Nat:=528
abbrev ANs:Nat:=529
abbrev AM0:Nat:=530
abbrev AMY:Nat:=531
abbrev AON:Nat:=532
abbrev AOo:Nat:=533
abbrev APt:Nat:=534
abbrev AMn:Nat:=535
abbrev ANV:Nat:=536
abbrev AOk:Nat:=537
abbrev ANB:Nat:=538
abbrev AOI:Nat:=539
abbrev ANo:Nat:=540
abbrev AOq:Nat:=541
abbrev ALA:Nat:=542
abbrev AOn:Nat:=543
abbrev ALT:Nat:=544
abbrev AOc:Nat:=545
abbrev AOp:Nat:=546
abbrev AL4:Nat:=547
abbrev AL8:Nat:=548
abbrev AMk:Nat:=549
abbrev AOP:Nat:=550
abbrev ALY:Nat:=551
abbrev ALC:Nat:=552
abbrev AMV:Nat:=553
abbrev AL5:Nat:=554
abbrev AOQ:Nat:=555
abbrev AL6:Nat:=556
abbrev AMZ:Nat:=557
abbrev AMB:Nat:=558
abbrev AO7:Nat:=559
abbrev ANf:Nat:=560
abbrev AOT:Nat:=561
abbrev AOV:Nat:=562
abbrev AOZ:Nat:=563
abbrev AO4:Nat:=564
end Go.Eng.T
namespace Go.Eng.T
set_option maxRecDepth 20000
set_option maxHeartbeats 4000000
theorem APg {w:World} {l:List Event} {m:Nat} (hw:Bo w≤400) (he:∀e,e∈l→ALV e) (hl:l.length≤30):AO5 w l∧Bo (AFQ w l)≤4200:=by
 have h1:=AMK l he
 have h2:=ANF w l l.length (Nat.le_refl _)
 rw[List.take_length]at h2
 have h3:=APd (AFQ w l)
 have h4:=APa w
 have h5:w.ends.length≤Bo w:=by have:=Nr (f:=Af) (xs:=w.ends);unfold Bo;omega
 refine⟨by unfold AO5;omega,by omega⟩
end Go.Eng.T
namespace Go.Eng.T
set_option maxRecDepth 20000
set_option maxHeartbeats 2000000
theorem Ahm {α:Type} {f:α→Nat}:∀(l:List α) (j:Nat) (hj:j<l.length) (e:α),f e≤f l[j]+1→Er f (l.set j e)≤Er f l+1
 | a::l,0,_,e,h=>by
  simp only[List.getElem_cons_zero]at h
  simp[Er];omega
 | a::l,j+1,hj,e,h=>by
  have:=Ahm l j (by simpa using hj) e (by simpa using h)
  simp only[Er,List.set_cons_succ,List.length_cons,List.map_cons,List.sum_cons]at *
  omega
end Go.Eng.T
namespace Go.Eng.T
set_option maxRecDepth 20000
def Au8 (p:Nat→Bool):Nat→Nat
 | 0=>0
 | n+1=>Au8 p n+(if p n then 1 else 0)
theorem AAZ (p:Nat→Bool):∀n,Au8 p n≤n
 | 0=>Nat.le_refl 0
 | n+1=>by have:=AAZ p n;simp only[Au8];split<;>omega
def AIE (w:World) (i:Nat):Bool:=QM w (i:Int)
abbrev AHt (R:Rel):Prop:=∀w:World,Bo w≤4194304→R [arg (FH w)] [] (I (Au8 (AIE w) w.ends.length)) []
theorem AK4 (D:Dn) (hN:Aak (D Aid)):AHt (Body D AGJ):=by
 intro w hsz
 have hl:=FU hsz
 simp -implicitDefEqProofs
 refine Ae (fun k s=>∃j,j+k=w.ends.length∧s=⟨[.undef,.ptr 0 0,.undef,.sc (.int .i64 (Au8 (AIE w) j)),.undef,.sc (.int .i64 w.ends.length),.sc (.int .i64 j),.undef,.undef],[.var ((FH w).map (AX 1))]⟩) ?_ w.ends.length _ ⟨0,by simp,by simp[Au8]⟩
 intro k s ⟨j,hj,hs⟩
 subst hs
 by_cases hjn:j<w.ends.length
 ·have hw:IntKind.i64.wrap ((j:Int)+1)=(j+1:Nat):=by rw[Ac (by omega) (by omega)];simp
  have hc:=AAZ (AIE w) j
  have hw2:IntKind.i64.wrap ((Au8 (AIE w) j:Int)+1)=(Au8 (AIE w) j+1:Nat):=by rw[Ac (by omega) (by omega)];simp
  simp -implicitDefEqProofs [hjn]
  refine Aa (hN w j hsz) ?_
  by_cases h:QM w j=true
  ·simp -implicitDefEqProofs [h]
   exact⟨k-1,by omega,j+1,by omega,by rw[hw2];simp[Au8,AIE,h],by simp[hw]⟩
  ·simp -implicitDefEqProofs [h]
   exact⟨k-1,by omega,j+1,by omega,by simp[Au8,AIE,h],by simp[hw]⟩
 ·obtain rfl:j=w.ends.length:=by omega
  simp -implicitDefEqProofs
end Go.Eng.T
namespace Go.Eng.T
set_option maxRecDepth 20000
theorem AMA {l:List Int} (h:0<Ti l):∃x,x∈l∧0<x:=by
 by_cases hx:∃x,x∈l∧0<x
 ·exact hx
 ·exfalso
  have h1:∀y,y∈l→y<1:=fun y hy=>by
   by_cases h2:0<y
   ·exact absurd ⟨y,hy,h2⟩ hx
   ·omega
  have:=Asu (x:=1) l 0 h1 (by omega)
  unfold Ti at h
  omega
theorem AN0 {s l l':List Int} (h:0<AB s l) (hl:Ar l' =true) (hs:∀x,x∈l→x∈l'):0<AB s l':=by
 unfold AB at h⊢
 split at h
 ·rename_i hc
  rw[if_pos ⟨hc.1,hl⟩]
  obtain⟨x,hx,h0⟩:=AMA h
  unfold common at hx⊢
  have hx':=List.mem_filter.1 hx
  have hm:x∈s.filter fun v=>decide (v∈l'):=List.mem_filter.2 ⟨hx'.1,by simpa using hs x (by simpa using hx'.2)⟩
  have:=max_mem (a:=0) hm
  unfold Ti
  omega
 ·omega
theorem ANL (s l:List Int):0≤AB s l:=by
 unfold AB
 split
 ·unfold Ti
  have ge:∀(l:List Int) (a:Int),a≤l.foldl (fun a v=>if v>a then v else a) a:=by
   intro l
   induction l with
   | nil=>intro a;exact Int.le_refl a
   | cons z l ih=>
    intro a
    simp only[List.foldl_cons]
    refine Int.le_trans ?_ (ih _)
    split<;>omega
  exact ge _ 0
 ·omega
theorem AGs {s l:List Int}:reach s l=true↔0<AB s l:=by
 unfold reach
 have:=ANL s l
 simp
 omega
theorem AxG {l:List Int} {v:Int} (h:Ar l=true) (hv:1≤v∧v≤9):Ar (Gb l v)=true:=by
 refine ZK (YS v (MH h)) (fun x hx=> ?_) (put_pos l v)
 rcases(KT l v x).1 hx with hx | rfl
 ·have:=MX h x hx;exact⟨this.1,this.2⟩
 ·exact hv
theorem AHS {l:List Int} {s:List Int} (h:0<AB s l):Ar l=true:=by
 unfold AB at h
 split at h
 ·rename_i hc;exact hc.2
 ·omega
theorem AjC {e:Ai} (h:Aj e=true) {l:List Int} (hl:Ar l=true):Aj ⟨l,e.tags,e.path,e.cls⟩=true:=by
 unfold Aj at h⊢
 simp only[Bool.and_eq_true]at h⊢
 exact⟨hl,h.2⟩
structure AFd (w:World):Prop where
 reach:Ar w.server=true∧∀e,e∈w.ends→reach w.server e.versions=true
 tags:EO w.tags=true∧KL w.key=true
 few:w.ends.length≤6
 ends:∀e,e∈w.ends→Aj e=true
 b:Lx w=true
 c:JD w=true
theorem Aye {w:World}:D5 w=true↔AFd w:=by
 unfold D5 PG Ih
 simp only[Bool.and_eq_true,decide_eq_true_eq,List.all_eq_true]
 constructor
 ·rintro ⟨⟨⟨h1,h2⟩,h3,h4⟩,h5,h6,h7,h8⟩
  exact⟨⟨h1,fun e he=>h2 _ (List.mem_map.2 ⟨e,he,rfl⟩)⟩,⟨h3,h4⟩,h5,h6,h7,h8⟩
 ·rintro ⟨⟨h1,h2⟩,⟨h3,h4⟩,h5,h6,h7,h8⟩
  exact⟨⟨⟨h1,fun l hl=>by obtain⟨e,he,rfl⟩:=List.mem_map.1 hl;exact h2 e he⟩,h3,h4⟩,h5,h6,h7,h8⟩
theorem AMm {w:World} (h:D5 w=true):D5 (leave w)=true:=by
 have p:=Aye.1 h
 refine Aye.2 ⟨⟨p.reach.1,?_⟩,p.tags,by simp[leave];exact p.few,?_,p.b,?_⟩
 ·intro e he
  obtain⟨e0,h0,rfl⟩:=List.mem_map.1 he
  unfold Aw8
  split
  ·rename_i hb;exact AGs.2 hb
  ·exact p.reach.2 e0 h0
 ·intro e he
  obtain⟨e0,h0,rfl⟩:=List.mem_map.1 he
  unfold Aw8
  split
  ·rename_i hb;exact AjC (p.ends e0 h0) (AHS hb)
  ·exact p.ends e0 h0
 ·have hc:=p.c
  unfold JD at hc⊢
  simp only[leave,Bool.and_eq_true]at hc⊢
  exact⟨by simp,hc.2⟩
theorem AHN {r:EP} (h:Br r=true):Qt r.version 1 9∧Qt r.pos 0 ((r.stages.length:Int)-1)∧(∀x,x∈r.stages→1≤x∧x≤100):=by
 unfold Br at h
 simp only[Bool.and_eq_true,decide_eq_true_eq]at h
 obtain⟨h1,⟨⟨h2,h3⟩,h4⟩,h5⟩:=h
 refine⟨h2,h5,fun x hx=> ?_⟩
 obtain⟨i,hi,rfl⟩:=List.getElem_of_mem hx
 have:=Ayz h1 hi
 rw[getD_at hi]at this
 exact⟨this.1,this.2⟩
theorem AJ3 {w:World} (h:D5 w=true):D5 (enter w)=true:=by
 by_cases hc:Ax5 w=true
 rotate_left
 ·unfold enter;rw[if_neg hc];exact h
 have p:=Aye.1 h
 have hr:Br w.rollout=true:=by
  unfold Ax5 at hc
  simp only[Bool.and_eq_true]at hc
  exact hc.1
 have rf:=AHN hr
 have e:enter w={w with ends:=w.ends.mapIdx (AwM w),stage:=[],reached:=max w.reached (w.rollout.pos+1)}:=by unfold enter;rw[if_pos hc]
 have hm:∀e1,e1∈(enter w).ends→∃e0,e0∈w.ends∧(e1=e0∨e1=⟨Gb e0.versions w.rollout.version,e0.tags,e0.path,e0.cls⟩):=by
  intro e1 h1
  rw[e]at h1
  dsimp only at h1
  obtain⟨i,hi,rfl⟩:=List.getElem_of_mem h1
  rw[List.getElem_mapIdx]
  have hi':i<w.ends.length:=by simpa using hi
  refine⟨w.ends[i],List.getElem_mem hi',?_⟩
  unfold AwM
  split
  ·exact .inr rfl
  ·exact .inl rfl
 refine Aye.2 ⟨⟨by rw[e];exact p.reach.1,?_⟩,by rw[e];exact p.tags,by rw[e];simp;exact p.few,?_,by rw[e];exact p.b,?_⟩
 ·intro e1 h1
  obtain⟨e0,h0,h2⟩:=hm e1 h1
  have hs:(enter w).server=w.server:=by rw[e]
  rw[hs]
  rcases h2 with rfl | rfl
  ·exact p.reach.2 _ h0
  ·have:=AGs.1 (p.reach.2 e0 h0)
   exact AGs.2 (AN0 this (AxG (AHS this) ⟨rf.1.1,rf.1.2⟩) (fun x hx=>(KT _ _ _).2 (.inl hx)))
 ·intro e1 h1
  obtain⟨e0,h0,h2⟩:=hm e1 h1
  rcases h2 with rfl | rfl
  ·exact p.ends _ h0
  ·have:=AGs.1 (p.reach.2 e0 h0)
   exact AjC (p.ends e0 h0) (AxG (AHS this) ⟨rf.1.1,rf.1.2⟩)
 ·have hc:=p.c
  unfold JD at hc⊢
  rw[e]
  simp only[Bool.and_eq_true,decide_eq_true_eq]at hc⊢
  obtain⟨_,h2,h3,h4,h5⟩:=hc
  refine⟨by simp,h2,h3,h4,?_⟩
  have:=rf.2.1.1
  have:=rf.2.1.2
  have:=h5.1
  have:=h5.2
  constructor<;>omega
theorem ABi {p:Nat→Bool} {c:Int} (h0:0≤c):∀n,(∀i,i<n→p i=decide ((i:Int)<c))→(Au8 p n:Int)=min (n:Int) c
 | 0,_=>by simp[Au8];omega
 | n+1,h=>by
  have ih:=ABi h0 n (fun i hi=>h i (by omega))
  have hn:=h n (by omega)
  unfold Au8
  by_cases hc:(n:Int)<c
  ·rw[hn]
   simp only[hc,decide_true,if_true]
   omega
  ·rw[hn]
   simp only[hc,decide_false]
   simp only[Bool.false_eq_true,if_false]
   omega
end Go.Eng.T
namespace Go.Eng.T
set_option maxRecDepth 20000
set_option maxHeartbeats 2000000
theorem ANH {w:World} (h:D5 w=true):Ov w.hurt 0 w.log.length∧w.log.length≤60∧w.stage.length≤60:=by
 have:=(Aye.1 h).c
 unfold JD at this
 simp only[Bool.and_eq_true,decide_eq_true_eq]at this
 exact⟨this.2.2.2.1,this.2.1,this.1⟩
theorem ANl {w:World} {i:Int} {d:CV} {on:Bool} (h:D5 w=true) (hm:AHr w i=true):D5 (AGP w i d on)=true:=by
 have p:=Aye.1 h
 have hh:=ANH h
 unfold AHr at hm
 simp only[Bool.and_eq_true,decide_eq_true_eq]at hm
 have hw:IntKind.i64.wrap (w.hurt+1)=w.hurt+1:=Ac (by have:=hh.1.1;omega) (by have:=hh.1.2;omega)
 refine Aye.2 ⟨p.reach,p.tags,p.few,p.ends,p.b,?_⟩
 have hc:=p.c
 unfold JD at hc⊢
 simp only[Bool.and_eq_true,decide_eq_true_eq]at hc⊢
 obtain⟨h1,h2,h3,h4,h5⟩:=hc
 refine⟨?_,by simp[AGP];omega,h3,?_,h5⟩
 ·unfold AGP;dsimp only;split
  ·simp;omega
  ·exact h1
 ·unfold AGP
  dsimp only
  rw[hw]
  have a1:=h4.1
  have a2:=h4.2
  split
  ·constructor
   ·omega
   ·simp;omega
  ·constructor
   ·omega
   ·simp;omega
theorem AH6 {w:World} {i:Int} (h:D5 w=true):D5 (ADH w i).1=true:=by
 unfold ADH
 split
 ·rename_i hm;exact ANl h hm
 ·exact h
theorem AHY {w:World} (h:D5 w=true):D5 (AEj w).1=true:=by
 unfold AEj
 split
 ·exact AJ3 h
 ·exact h
theorem AKZ {w:World} {r:EP} (h:D5 w=true) (hr:Br r=true) (hv:r.version=w.rollout.version) (hs:r.stages=w.rollout.stages):D5 (AEm w r)=true:=by
 have p:=Aye.1 h
 refine Aye.2 ⟨p.reach,p.tags,p.few,p.ends,?_,?_⟩
 ·have hb:=p.b
  unfold Lx at hb⊢
  unfold AEm
  simp only[Bool.and_eq_true,decide_eq_true_eq]at hb⊢
  rw[hv]
  exact⟨hr,hb.2⟩
 ·have hc:=p.c
  unfold JD at hc⊢
  unfold AEm
  dsimp only
  rw[hs]
  exact hc
theorem ALv {r:EP} (h:(AmJ r).2=true):Br (AmJ r).1=true:=by
 unfold AmJ at h⊢
 split at h
 ·rename_i hc
  rw[if_pos hc]
  unfold AHs at hc
  simp only[Bool.and_eq_true,Bool.not_eq_true',decide_eq_false_iff_not]at hc
  obtain⟨h1,h2,h3⟩:=hc
  unfold Br at h1⊢
  simp only[Bool.and_eq_true,decide_eq_true_eq]at h1⊢
  obtain⟨a1,⟨⟨a2,a3⟩,a4⟩,a5⟩:=h1
  have:=a5.1
  have:=a5.2
  exact⟨a1,⟨⟨a2,a3⟩,a4⟩,⟨by omega,by omega⟩⟩
 ·cases h
theorem AOa {r:EP} (h:(ArC r).2=true):Br (ArC r).1=true:=by
 unfold ArC at h⊢
 split at h
 ·rename_i hc
  rw[if_pos hc]
  unfold AIq at hc
  simp only[Bool.and_eq_true]at hc
  have h1:=hc.1
  unfold Br at h1⊢
  simp only[Bool.and_eq_true,decide_eq_true_eq]at h1⊢
  obtain⟨a1,⟨⟨a2,a3⟩,a4⟩,a5⟩:=h1
  have:=a5.1
  have:=a5.2
  exact⟨a1,⟨⟨a2,a3⟩,a4⟩,⟨by omega,by omega⟩⟩
 ·cases h
theorem AMR (r:EP):(AmJ r).1.stages=r.stages:=by unfold AmJ;split<;>rfl
theorem AMd (r:EP):(ArC r).1.stages=r.stages:=by unfold ArC;split<;>rfl
theorem AHX {w:World} (h:D5 w=true):D5 (ACJ w).1=true:=by
 unfold ACJ
 split
 ·exact h
 ·split
  ·split
   ·rename_i hn;exact AJ3 (AKZ h (ALv hn) (AMq _) (AMR _))
   ·exact h
  ·split
   ·split
    ·rename_i hn;exact AMm (AKZ h (AOa hn) (AMf _) (AMd _))
    ·exact h
   ·exact h
theorem AME {α:Type} {p:α→Bool}:∀(xs:List α) (i:Nat),Qr p xs i=[]→∀x,x∈xs→p x=false
 | [],_,_,x,hx=>by cases hx
 | a::r,i,h,x,hx=>by
  unfold Qr at h
  split at h
  ·cases h
  ·rename_i hp
   rcases List.mem_cons.1 hx with rfl | hx
   ·simpa using hp
   ·exact AME r (i+1) h x hx
theorem AJ1 {w:World} {v pm:Int} (h:D5 w=true):D5 (Awn w v pm).1=true:=by
 unfold Awn
 split
 rotate_left
 ·exact h
 rename_i hc
 obtain⟨h1,h2⟩:=hc
 have p:=Aye.1 h
 have hm:AF8 w.server (Oy w) v pm=true:=by
  unfold AGl at h1
  split at h1
  ·assumption
  ·cases h1
 have e:(AGl w.server (Oy w) v pm).1=AfB w.server v:=by unfold AGl;rw[if_pos hm]
 rw[e]
 unfold AF8 at hm
 simp only[Bool.and_eq_true,decide_eq_true_eq,Bool.not_eq_true',decide_eq_false_iff_not]at hm
 obtain⟨m1,m2,m3,m4,m5,m6⟩:=hm
 have hmem:∀x,x∈AfB w.server v↔x∈w.server∧¬x=v:=by intro x;unfold AfB;simp[List.mem_filter]
 have hver:w.rollout.version∈w.server:=by
  have hb:=p.b
  unfold Lx at hb
  simp only[Bool.and_eq_true,decide_eq_true_eq]at hb
  exact hb.2.1
 refine Aye.2 ⟨⟨?_,?_⟩,p.tags,p.few,p.ends,?_,p.c⟩
 ·refine ZK ?_ (fun x hx=> ?_) ?_
  ·exact List.Pairwise.filter _ (MH m1)
  ·have:=MX m1 x ((hmem x).1 hx).1;exact⟨this.1,this.2⟩
  ·exact List.length_pos_of_mem ((hmem _).2 ⟨hver,fun h=>h2 h.symm⟩)
 ·intro e he
  have h3:=AME _ _ m5 e.versions (by unfold Oy;exact List.mem_map.2 ⟨e,he,rfl⟩)
  have h4:=AGs.1 (p.reach.2 e he)
  have h5:=ANL (AfB w.server v) e.versions
  unfold AFz at h3
  refine AGs.2 ?_
  dsimp only
  simp[h4]at h3
  omega
 ·have hb:=p.b
  unfold Lx at hb⊢
  simp only[Bool.and_eq_true,decide_eq_true_eq]at hb⊢
  exact⟨hb.1,(hmem _).2 ⟨hver,fun h=>h2 h.symm⟩,hb.2.2⟩
theorem AM6 {s s' l:List Int} (h:0<AB s l) (hl:Ar s' =true) (hs:∀x,x∈s→x∈s'):0<AB s' l:=by
 unfold AB at h⊢
 split at h
 ·rename_i hc
  rw[if_pos ⟨hl,hc.2⟩]
  obtain⟨x,hx,h0⟩:=AMA h
  unfold common at hx⊢
  have hx':=List.mem_filter.1 hx
  have hm:x∈s'.filter fun v=>decide (v∈l):=List.mem_filter.2 ⟨hs x hx'.1,hx'.2⟩
  have:=max_mem (a:=0) hm
  unfold Ti
  omega
 ·omega
theorem AJY {w:World} {v:Int} (h:D5 w=true):D5 (AFR w v).1=true:=by
 unfold AFR
 dsimp only
 have p:=Aye.1 h
 by_cases hc:AIX w.server v=true
 rotate_left
 ·have e:(AHn w.server v).1=w.server:=by unfold AHn;rw[if_neg hc]
  rw[e];exact h
 have e:(AHn w.server v).1=Gb w.server v:=by unfold AHn;rw[if_pos hc]
 rw[e]
 unfold AIX at hc
 simp only[Bool.and_eq_true,decide_eq_true_eq]at hc
 have hv:=AxG hc.1 hc.2.1
 refine Aye.2 ⟨⟨hv,fun e he=> ?_⟩,p.tags,p.few,p.ends,?_,p.c⟩
 ·exact AGs.2 (AM6 (AGs.1 (p.reach.2 e he)) hv (fun x hx=>(KT _ _ _).2 (.inl hx)))
 ·have hb:=p.b
  unfold Lx at hb⊢
  simp only[Bool.and_eq_true,decide_eq_true_eq]at hb⊢
  exact⟨hb.1,(KT _ _ _).2 (.inl hb.2.1),hb.2.2⟩
theorem ALz {w:World} {j:Nat} {e:Ai} (h:D5 w=true) (hj:j<w.ends.length) (he:Aj e=true) (hv:e.versions=w.ends[j].versions):D5 {w with ends:=w.ends.set j e} =true:=by
 have p:=Aye.1 h
 have hm:∀x,x∈w.ends.set j e→x∈w.ends∨x=e:=fun x hx=>List.mem_or_eq_of_mem_set hx
 refine Aye.2 ⟨⟨p.reach.1,fun x hx=> ?_⟩,p.tags,by simp;exact p.few,fun x hx=> ?_,p.b,p.c⟩
 ·rcases hm x hx with hx | rfl
  ·exact p.reach.2 x hx
  ·rw[hv];exact p.reach.2 _ (List.getElem_mem hj)
 ·rcases hm x hx with hx | rfl
  ·exact p.ends x hx
  ·exact he
theorem ALa {w:World} {i:Int} {b:EK} (h:D5 w=true):D5 (AF0 w i b).1=true:=by
 have p:=Aye.1 h
 unfold AF0
 split
 rotate_left
 ·exact h
 split
 rotate_left
 ·exact h
 rename_i x hx
 split
 rotate_left
 ·exact h
 rename_i hc
 obtain⟨hj,rfl⟩:=List.getElem?_eq_some_iff.1 hx
 refine ALz h hj ?_ rfl
 have he:=p.ends _ (List.getElem_mem hj)
 unfold Aj at he⊢
 simp only[Bool.and_eq_true,decide_eq_true_eq]at he⊢
 obtain⟨a1,a2,a3,a4,a5,a6,a7⟩:=he
 refine⟨a1,a2,a3,a4,by simp;omega,?_,a7⟩
 rw[List.all_append,a6]
 simp[hc.1]
theorem AKh {w:World} {i:Int} (h:D5 w=true):D5 (AFB w i).1=true:=by
 have p:=Aye.1 h
 unfold AFB
 split
 rotate_left
 ·exact h
 split
 rotate_left
 ·exact h
 rename_i x hx
 split
 ·exact h
 unfold AIf
 rw[hx]
 dsimp only
 obtain⟨hj,rfl⟩:=List.getElem?_eq_some_iff.1 hx
 refine ALz h hj ?_ rfl
 have he:=p.ends _ (List.getElem_mem hj)
 unfold Aj at he⊢
 simp only[Bool.and_eq_true,decide_eq_true_eq]at he⊢
 obtain⟨a1,a2,a3,a4,a5,a6,a7⟩:=he
 exact⟨a1,a2,a3,a4,by simp,by simp,a7⟩
theorem AKO {w:World} {n:Int} (h:D5 w=true):D5 (AFM w n).1=true:=by
 have p:=Aye.1 h
 unfold AFM
 split
 rotate_left
 ·exact h
 rename_i hc
 refine Aye.2 ⟨p.reach,p.tags,p.few,p.ends,p.b,?_⟩
 have hh:=p.c
 unfold JD at hh⊢
 simp only[Bool.and_eq_true,decide_eq_true_eq]at hh⊢
 have a1:=hc.1.1
 have a2:=hc.2.1
 have a3:=hc.2.2
 exact⟨hh.1,hh.2.1,⟨by omega,by omega⟩,hh.2.2.2⟩
theorem AMJ {w:World} {e:Event} (h:D5 w=true):D5 (Ah0 w e).1=true:=by
 unfold Ah0
 repeat' split
 ·exact AH6 h
 ·exact AHY h
 ·exact AHX h
 ·exact AJ1 h
 ·exact AJY h
 ·exact ALa h
 ·exact AKh h
 ·exact AKO h
 ·exact h
end Go.Eng.T
namespace Go.Eng.T
set_option maxRecDepth 20000
set_option maxHeartbeats 4000000
structure LW (n:Nat) (w:World):Prop where
 ok:D5 w=true
 pt:pot w≤3500+10*n
 log:w.log.length≤n
 stg:w.stage.length≤n
 ends:0<w.ends.length∧w.ends.length≤5
theorem AMb {w:World} {x:Int} (h:D5 w=true) (hx:1≤x∧x≤100):D5 {w with least:=x} =true:=by
 have p:=Aye.1 h
 refine Aye.2 ⟨p.reach,p.tags,p.few,p.ends,?_,p.c⟩
 have hb:=p.b
 unfold Lx at hb⊢
 simp only[Bool.and_eq_true,decide_eq_true_eq]at hb⊢
 exact⟨hb.1,hb.2.1,⟨by omega,by omega⟩,hb.2.2.2⟩
end Go.Eng.T
namespace Go.Eng.T
set_option maxRecDepth 20000
set_option maxHeartbeats 4000000
end Go.Eng.T
namespace Go.Eng.T
theorem Au2:∀(n:Nat) (k:Int),nums n k++ [k+n]=nums (n+1) k
 | 0,k=>by simp[nums]
 | n+1,k=>by
  have:=Au2 n (k+1)
  simp only[nums,List.cons_append]
  rw[show k+((n+1:Nat):Int)=k+1+(n:Int)by omega,this]
  rfl
end Go.Eng.T
namespace Go.Eng.T
end Go.Eng.T
namespace Go.Eng.T
set_option maxRecDepth 20000
end Go.Eng.T
namespace Go.Eng.T
set_option maxRecDepth 20000
end Go.Eng.T
namespace Go.Eng.T
abbrev AFg (R:Rel):Prop:=∀(x:EK) (l:Int),0≤l→l≤4194304→Kr x→R [arg (Cz x),I l] [] (I (szl (Lf x) l)) []
abbrev AFl (R:Rel):Prop:=∀x:EK,Lf x≤4194304→R [arg (Cz x)] [] (.agg (Cz x)) []
abbrev AFs (R:Rel):Prop:=∀x y:EK,Lf x≤2 ^ 40→Lf y≤2 ^ 40→R [arg (Cz x),arg (Cz y)] [] (B (decide (x=y))) []
abbrev AEd (R:Rel):Prop:=∀(x:Event) (l:Int),0≤l→l≤4194304→AzV x→R [arg (Cj x),I l] [] (I (szl (AeL x) l)) []
abbrev AEl (R:Rel):Prop:=∀x:Event,AeL x≤4194304→R [arg (Cj x)] [] (.agg (Cj x)) []
abbrev AEs (R:Rel):Prop:=∀x y:Event,AeL x≤2 ^ 40→AeL y≤2 ^ 40→R [arg (Cj x),arg (Cj y)] [] (B (decide (x=y))) []
end Go.Eng.T
namespace Go.Eng.T
abbrev ABM (R:Rel):Prop:=∀(x:Ai) (l:Int),0≤l→l≤4194304→YC x→R [arg (Ap x),I l] [] (I (szl (Af x) l)) []
abbrev ABp (R:Rel):Prop:=∀x:Ai,Af x≤4194304→R [arg (Ap x)] [] (.agg (Ap x)) []
end Go.Eng.T
namespace Go.Eng.T
abbrev ADF (R:Rel):Prop:=∀(x:CV) (l:Int),0≤l→l≤4194304→AoZ x→R [arg (A7 x),I l] [] (I (szl (BJ x) l)) []
abbrev ADI (R:Rel):Prop:=∀x:CV,BJ x≤4194304→R [arg (A7 x)] [] (.agg (A7 x)) []
abbrev ADP (R:Rel):Prop:=∀x y:CV,BJ x≤2 ^ 40→BJ y≤2 ^ 40→R [arg (A7 x),arg (A7 y)] [] (B (decide (x=y))) []
end Go.Eng.T
namespace Go.Eng.T
abbrev AD4 (R:Rel):Prop:=∀(x:DW) (l:Int),0≤l→l≤4194304→AyI x→R [arg (AQ x),I l] [] (I (szl (Im x) l)) []
abbrev ADS (R:Rel):Prop:=∀x:DW,Im x≤4194304→R [arg (AQ x)] [] (.agg (AQ x)) []
abbrev ADr (R:Rel):Prop:=∀x y:DW,Im x≤2 ^ 40→Im y≤2 ^ 40→R [arg (AQ x),arg (AQ y)] [] (B (decide (x=y))) []
end Go.Eng.T
namespace Go.Eng.T
abbrev ABj (R:Rel):Prop:=∀x y:Ai,Af x≤2 ^ 40→Af y≤2 ^ 40→R [arg (Ap x),arg (Ap y)] [] (B (decide (x=y))) []
end Go.Eng.T
namespace Go.Eng.T
set_option maxRecDepth 20000
end Go.Eng.T
namespace Go.Eng.T
set_option maxRecDepth 20000
set_option maxHeartbeats 2000000
end Go.Eng.T
namespace Go.Eng.T
set_option maxRecDepth 20000
set_option maxHeartbeats 2000000
theorem AxU {α:Type} {p:α→Bool}:∀(xs:List α) (i:Nat) (x:Int),x∈Qr p xs i↔∃(j:Nat) (h:j<xs.length),x=((i+j:Nat):Int)∧p xs[j]=true
 | [],i,x=>by simp[Qr]
 | a::r,i,x=>by
  have ih:=AxU (p:=p) r (i+1) x
  constructor
  ·intro h
   have h':(p a=true∧x=(i:Int))∨x∈Qr p r (i+1):=by
    unfold Qr at h
    split at h
    ·rename_i hp
     rcases List.mem_cons.1 h with h | h
     ·exact .inl ⟨hp,h⟩
     ·exact .inr h
    ·exact .inr h
   rcases h' with⟨h1,h2⟩ | h1
   ·exact⟨0,by simp,by simpa using h2,by simpa using h1⟩
   ·obtain⟨j,hj,h2,h3⟩:=ih.1 h1
    exact⟨j+1,by simpa using hj,by rw[h2];congr 1;omega,by simpa using h3⟩
  ·rintro ⟨j,hj,h2,h3⟩
   unfold Qr
   cases j with
   | zero=>
    have hp:p a=true:=by simpa using h3
    rw[if_pos hp]
    exact List.mem_cons.2 (.inl (by simpa using h2))
   | succ j=>
    have:x∈Qr p r (i+1):=ih.2 ⟨j,by simpa using hj,by rw[h2];congr 1;omega,by simpa using h3⟩
    split
    ·exact List.mem_cons_of_mem _ this
    ·exact this
theorem AtA {α β:Type} {p:α→Bool} {q:β→Bool}:∀(xs:List α) (ys:List β) (i:Nat),xs.length=ys.length→(∀(j:Nat) (h:j<xs.length) (h':j<ys.length),p xs[j]=true→q ys[j]=true)→(Qr p xs i).length≤(Qr q ys i).length
 | [],_,i,_,_=>by simp[Qr]
 | a::r,[],i,hl,_=>by simp at hl
 | a::r,b::t,i,hl,h=>by
  have ih:=AtA (p:=p) (q:=q) r t (i+1) (by simpa using hl) (fun j h1 h2 h3=>h (j+1) (by simpa using h1) (by simpa using h2) h3)
  have h0:=h 0 (by simp) (by simp)
  unfold Qr
  by_cases hp:p a=true
  ·have hq:q b=true:=by simpa using h0 (by simpa using hp)
   rw[if_pos hp,if_pos hq]
   simp only[List.length_cons];omega
  ·rw[if_neg hp]
   split
   ·simp only[List.length_cons];omega
   ·exact ih
end Go.Eng.T
namespace Go.Eng.T
set_option maxRecDepth 20000
set_option maxHeartbeats 4000000
end Go.Eng.T
namespace Go.Eng.T
set_option maxRecDepth 20000
set_option maxHeartbeats 4000000
end Go.Eng.T
namespace Go.Eng.T
set_option maxRecDepth 20000
set_option maxHeartbeats 4000000
structure APr (p:World×List Event):Prop where
 ok:D5 p.1=true
 sz:Bo p.1≤400
 log:p.1.log=[]
 ev:∀e,e∈p.2→ALV e
 len:0<p.2.length∧p.2.length≤18
 first:∃(w:World) (y:Int),Asq w∧p.1={w with least:=y}
abbrev AGw (R:Rel):Prop:=∀bs:List Int,ACY bs→AnT R bs APr (fun p=> .tup [.agg (FH p.1),.sl 0 6 p.2.length (p.2.flatMap Cj)])
theorem AKq (D:Dn) (hN:Agh (D Acm)) (hB:FK (D Dj)) (hO:AeM (D Amx)) (hW:Wo (D AhG)) (hE:AHQ (D AvC)):AGw (Body D AF6):=by
 intro bs hb
 refine ArG (fun Q hQ=> ?_)
 simp -implicitDefEqProofs
 obtain⟨c0,hc0,pc0⟩:=hN bs hb.1 hb.2
 simp -implicitDefEqProofs [DI,ints]at pc0
 refine Aa (pc0) ?_
 clear pc0
 simp -implicitDefEqProofs
 obtain⟨w,c1,hw,hc1,pw⟩:=hW c0 hc0
 simp -implicitDefEqProofs [DI,ints]at pw
 refine Aa (pw) ?_
 clear pw
 simp -implicitDefEqProofs
 obtain⟨q,c2,hq,hc2,pq⟩:=hO c1 2 hc1 (by omega)
 simp -implicitDefEqProofs [DI,ints]at pq
 refine Aa (pq) ?_
 clear pq
 by_cases g:q=true
 ·simp -implicitDefEqProofs [g]
  obtain⟨y,c3,hy,hc3,py⟩:=hB c2 3 hc2 (by omega)
  simp -implicitDefEqProofs [DI,ints]at py
  refine Aa (py) ?_
  have hy3:=hy.2.2 (by omega)
  have w1:IntKind.i64.wrap (1+y)=1+y:=Ac (by omega) (by omega)
  simp -implicitDefEqProofs [w1]
  obtain⟨l,c4,⟨he,hl1,hl2⟩,hc4,pl⟩:=hE c3 18 hc3 (by omega)
  simp -implicitDefEqProofs [DI,ints]at pl
  refine Aa (pl) ?_
  simp -implicitDefEqProofs
  exact hQ ({w with least:=1+y},l) ⟨AMb hw.ok ⟨by omega,by omega⟩,hw.sz,hw.nolog,he,⟨hl1,by simp at hl2;show l.length≤18;omega⟩,w,1+y,hw,rfl⟩
 ·simp -implicitDefEqProofs [g]
  obtain⟨l,c4,⟨he,hl1,hl2⟩,hc4,pl⟩:=hE c2 18 hc2 (by omega)
  simp -implicitDefEqProofs [DI,ints]at pl
  refine Aa (pl) ?_
  simp -implicitDefEqProofs
  exact hQ (w,l) ⟨hw.ok,hw.sz,hw.nolog,he,⟨hl1,by simp at hl2;show l.length≤18;omega⟩,w,w.least,hw,rfl⟩
end Go.Eng.T
namespace Go.Eng.T
set_option maxRecDepth 20000
set_option maxHeartbeats 2000000
def through (b:EK) (h:Hello):Bool:=ET b&&(AP h&& !Jl b h)&&h.exts.all fun x=>stays b x.tag
theorem AuS {p:Int→Bool} {l:List Ext} (h:kept p l=l):∀x,x∈l→p x.tag=true:=by
 unfold kept at h
 exact List.filter_eq_self.1 h
theorem AzG {p:Int→Bool} {l:List Ext} (h:∀x,x∈l→p x.tag=true):kept p l=l:=List.filter_eq_self.2 h
theorem AnJ:∀ {path:List EK} {h:Hello},EQ path h=(h,true)→∀b,b∈path→through b h=true
 | [],h,_=>by intro b hb;cases hb
 | b::r,h,hg=>by
  unfold EQ at hg
  by_cases hp:(Ba b h).2=true
  ·rw[if_pos hp]at hg
   have hc:(ET b&&(AP h&& !Jl b h))=true:=by
    unfold Ba at hp
    split at hp
    ·assumption
    ·simp at hp
   have e:(Ba b h).1=⟨h.versions,kept (stays b) h.exts⟩:=by unfold Ba;rw[if_pos hc]
   have hl:=Yx r (Ba b h).1
   rw[hg,e]at hl
   have hk:kept (stays b) h.exts=h.exts:=List.Sublist.eq_of_length_le List.filter_sublist hl
   rw[e,hk]at hg
   have ih:=AnJ (path:=r) (h:=h) hg
   intro b' hb'
   rcases List.mem_cons.1 hb' with rfl | hb'
   ·unfold through
    rw[hc,List.all_eq_true.2 (AuS hk)]
    rfl
   ·exact ih b' hb'
  ·rw[if_neg hp]at hg
   simp at hg
theorem Ao9:∀ {path:List EK} {h:Hello},(∀b,b∈path→through b h=true)→EQ path h=(h,true)
 | [],h,_=>rfl
 | b::r,h,hb=>by
  have h1:=hb b (by simp)
  unfold through at h1
  rw[Bool.and_eq_true]at h1
  have e:Ba b h=(h,true):=by
   unfold Ba
   rw[if_pos h1.1,AzG (List.all_eq_true.1 h1.2)]
  unfold EQ
  rw[e,if_pos rfl]
  exact Ao9 (fun b' hb'=>hb b' (by simp[hb']))
theorem OV {h:Hello} {path:List EK}:Bf h path=true↔(path.length≤4∧AP h=true)∧∀b,b∈path→through b h=true:=by
 unfold Bf AZ
 by_cases hc:(decide (path.length≤4)&&AP h)=true
 ·rw[if_pos hc]
  rw[Bool.and_eq_true,decide_eq_true_eq]at hc⊢
  constructor
  ·rintro ⟨h1,h2⟩
   exact⟨hc,AnJ (Prod.ext h2 h1)⟩
  ·rintro ⟨_,h2⟩
   rw[Ao9 h2]
   exact⟨rfl,rfl⟩
 ·rw[if_neg hc]
  constructor
  ·intro h1;simp at h1
  ·rintro ⟨⟨h1,h2⟩,_⟩
   exact absurd (by rw[h2,decide_eq_true h1];rfl) hc
theorem Aog:∀ {path:List EK} {vs:List Int},(EQ path ⟨vs,[]⟩).2=true→EQ path ⟨vs,[]⟩=(⟨vs,[]⟩,true)
 | [],_,_=>rfl
 | b::r,vs,hg=>by
  unfold EQ at hg⊢
  by_cases hp:(Ba b ⟨vs,[]⟩).2=true
  ·rw[if_pos hp]at hg⊢
   have e:(Ba b ⟨vs,[]⟩).1=⟨vs,[]⟩:=by
    unfold Ba at hp⊢
    split at hp
    ·rename_i hc
     rw[if_pos hc];rfl
    ·simp at hp
   rw[e]at hg⊢
   exact Aog hg
  ·rw[if_neg hp]at hg
   simp at hg
theorem Aa1 {path:List EK} {vs:List Int}:(AZ path ⟨vs,[]⟩).2=true↔Bf ⟨vs,[]⟩ path=true:=by
 constructor
 ·intro h
  unfold Bf
  unfold AZ at h⊢
  split at h
  ·rename_i hc
   rw[if_pos hc,Aog h]
   simp
  ·simp at h
 ·intro h
  unfold Bf at h
  rw[Bool.and_eq_true]at h
  exact h.1
def Akg (b:EK) (v:Int):Bool:= !(decide (0<b.limit)&&decide (b.limit<v))
def ABw (b:EK) (x:Ext):Bool:= !lossy b x&&stays b x.tag
theorem Ku {b:EK} {h:Hello}:through b h=true↔ET b=true∧AP h=true∧Akg b (Aii h.versions)=true∧∀x,x∈h.exts→ABw b x=true:=by
 unfold through Jl Akg ABw
 simp only[Bool.and_eq_true,Bool.not_eq_true',Bool.or_eq_false_iff,List.any_eq_false,List.all_eq_true]
 constructor
 ·rintro ⟨⟨h1,h2,h3,h4⟩,h5⟩
  exact⟨h1,h2,h3,fun x hx=>⟨by simpa using h4 x hx,h5 x hx⟩⟩
 ·rintro ⟨h1,h2,h3,h4⟩
  exact⟨⟨h1,h2,h3,fun x hx=>by simpa using(h4 x hx).1⟩,fun x hx=>(h4 x hx).2⟩
theorem AqY {b:EK} {v w:Int} (h:Akg b w=true) (hv:v≤w):Akg b v=true:=by
 unfold Akg at h⊢
 simp only[Bool.not_eq_true',Bool.and_eq_false_iff,decide_eq_false_iff_not]at h⊢
 omega
theorem Aay {l:List Ext}:BX l=true↔((∀x,x∈l→O9 x=true)∧l.Pairwise (fun x y=>x.tag≠y.tag))∧l.length≤6:=by
 unfold BX
 rw[Bool.and_eq_true,decide_eq_true_eq,Abn]
 have key:(∀i,i<l.length→Rf l i=true)↔((∀x,x∈l→O9 x=true)∧l.Pairwise (fun x y=>x.tag≠y.tag)):=by
  constructor
  ·intro h
   refine⟨fun x hx=> ?_,List.pairwise_iff_getElem.2 fun i j hi hj hij=> ?_⟩
   ·obtain⟨i,hi,rfl⟩:=List.getElem_of_mem hx
    have:=h i hi
    rw[O5 hi,Bool.and_eq_true]at this
    exact this.1
   ·have:=h j hj
    rw[O5 hj,Bool.and_eq_true,Bool.not_eq_true',List.any_eq_false]at this
    have:=this.2 l[i] (List.mem_take_iff_getElem.2 ⟨i,by omega,rfl⟩)
    unfold EZ at this
    simpa using this
  ·rintro ⟨h1,h2⟩ i hi
   rw[O5 hi,Bool.and_eq_true,Bool.not_eq_true',List.any_eq_false]
   refine⟨h1 _ (List.getElem_mem hi),fun x hx=> ?_⟩
   obtain⟨j,hj,rfl⟩:=List.mem_take_iff_getElem.1 hx
   have:=List.pairwise_iff_getElem.1 h2 j i (by omega) hi (by omega)
   unfold EZ
   simpa using this
 rw[key]
theorem AoS {l l':List Ext} (h:BX l=true) (hs:l'.Sublist l):BX l' =true:=by
 rw[Aay]at h⊢
 exact⟨⟨fun x hx=>h.1.1 x (hs.subset hx),h.1.2.sublist hs⟩,Nat.le_trans hs.length_le h.2⟩
theorem Axp {l l':List Int} (h:Ar l=true) (hs:l'.Sublist l) (h0:l'≠ []):Ar l' =true:=
 ZK ((MH h).sublist hs) (fun x hx=>MX h x (hs.subset hx)) (List.length_pos_iff.2 h0)
theorem ArY {l:List Int} (h:l≠ []):Aii l∈l:=by
 have h0:=List.length_pos_iff.2 h
 rw[Ams (by omega)]
 exact List.getElem_mem _
theorem AAK {l:List Int} (h:Ar l=true) {x:Int} (hx:x∈l):x≤Aii l:=by
 have h0:=Pj h
 rw[Ams (by omega)]
 obtain⟨i,hi,rfl⟩:=List.getElem_of_mem hx
 by_cases hl:i=l.length-1
 ·subst hl;exact Int.le_refl _
 ·have:=List.pairwise_iff_getElem.1 (MH h) i (l.length-1) hi (by omega) (by omega)
  omega
theorem AnA {l:List Int} (h:Ar l=true) {v:Int} (hv:v∈l):Ar [v]=true:=
 ZK (by simp) (by intro x hx;simp at hx;subst hx;exact MX h _ hv) (by simp)
theorem Ar7:BX []=true:=by decide
theorem Am7 (a b:List Int):(leftOf a b).Sublist a:=List.filter_sublist
theorem Akb {path:List EK} {l:List Int} (h:Ar l=true):leftOf l (Ak path l)=l.filter fun v=> !GR path v:=by
 unfold leftOf Ak
 rw[if_pos h]
 refine List.filter_congr fun v hv=> ?_
 congr 1
 by_cases g:GR path v=true
 ·simp[g,hv]
 ·simp[g]
theorem Aw6 {s l:List Int} (h:¬AB s l=0):AB s l∈l∧Ar l=true:=by
 unfold AB at h⊢
 split at h
 ·rename_i hv
  rw[if_pos hv]
  have h0:0<(common s l).length:=by
   rcases Nat.eq_zero_or_pos (common s l).length with e | e
   ·rw[List.eq_nil_of_length_eq_zero e]at h;exact absurd rfl h
   ·exact e
  have e:=Ab2 (l:=common s l) ((MH hv.1).sublist List.filter_sublist) (fun x hx=>by have:=(MX hv.1) x (List.mem_filter.1 hx).1;omega) h0
  rw[e]
  have:=List.getElem_mem (l:=common s l) (n:=(common s l).length-1) (by omega)
  exact⟨by simpa using(List.mem_filter.1 this).2,hv.2⟩
 ·exact absurd rfl h
def Ta (key:Int) (tags:List Int) (x:Hello):Prop:=∀v,v∈x.versions→¬BS key [AJ x,Au ⟨v,Hf (Eo x.exts tags)⟩] 1=0
theorem Aj6 {x:Hello} {v:Int} {tags:List Int} (hx:AP x=true) (hv:v∈x.versions):Cy x ⟨v,Hf (Eo x.exts tags)⟩=true:=by
 have h1:=MX (SX hx) v hv
 have hs:(Hf (Eo x.exts tags)).Sublist x.exts:=List.filter_sublist.trans List.filter_sublist
 have h2:=AoS (Ab5 hx) hs
 have h3:(Hf (Eo x.exts tags)).all (Aew x)=true:=by
  rw[List.all_eq_true]
  intro y hy
  have hm:=hs.subset hy
  have hr:=(List.mem_filter.1 hy).2
  unfold Aew
  rw[Bool.and_eq_true,decide_eq_true_eq]
  exact⟨List.mem_map.2 ⟨y,hm,rfl⟩,hr⟩
 unfold Cy Gp
 rw[hx,h2,h3]
 simp[hv,h1]
theorem Akd {x:Hello} {s tags:List Int} {key:Int} (hx:AP x=true) (hn:Ta key tags x):
 TR x x s tags key=if AB s x.versions=0 then D8 else⟨true,AB s x.versions,Ao (Hf (Eo x.exts tags))⟩:=by
 unfold TR
 by_cases hb:AB s x.versions=0
 ·have e:AU s tags x=(⟨0,[]⟩,false):=by unfold AU;rw[if_neg (by simp[hb])]
  rw[e,if_pos hb]
  rfl
 ·have e:AU s tags x=(⟨AB s x.versions,Hf (Eo x.exts tags)⟩,true):=by
   unfold AU;rw[if_pos (by simp[hx,hb])]
  rw[e,if_neg hb]
  have hm:=(Aw6 hb).1
  have hf:=Aj6 (tags:=tags) hx hm
  have hne:=hn _ hm
  rw[if_pos (by simp[hf,hne])]
theorem Ahi {x:Hello} {path:List EK} {s tags:List Int} {key:Int} (hw:Bf x path=true):Ns x path s tags key=TR x x s tags key:=by
 unfold Bf at hw
 rw[Bool.and_eq_true,decide_eq_true_eq]at hw
 unfold Ns
 rw[if_pos hw.1,hw.2]
theorem AeX {h:Hello} {path:List EK} (hh:AP h=true) (hl:leftOf h.versions (Ak path h.versions)≠ []) (hp:path.length≤4):
 (fallback h path).2=true∧Bf (fallback h path).1 path=true∧(fallback h path).1.versions=leftOf h.versions (Ak path h.versions)∧AP (fallback h path).1=true∧∃p,(fallback h path).1.exts=kept p h.exts:=by
 have hv:=SX hh
 have hx:=Ab5 hh
 have hlv:∀v,v∈leftOf h.versions (Ak path h.versions)→∀b,b∈path→ET b=true∧Akg b v=true:=by
  intro v hm b hb
  rw[Akb hv]at hm
  have h1:=(List.mem_filter.1 hm).2
  unfold GR at h1
  rw[Bool.not_not]at h1
  have:=(Ku.1 ((OV.1 (Aa1.1 h1)).2 b hb))
  exact⟨this.1,this.2.2.1⟩
 have hva:=Axp hv (Am7 _ _) hl
 obtain⟨lv,hlv'⟩:∃lv,lv=leftOf h.versions (Ak path h.versions):=⟨_,rfl⟩
 rw[←hlv']at hl hlv hva
 have e:fallback h path=(⟨lv,kept (fun t=> !decide (t∈CX path lv h.exts)) h.exts⟩,true):=by
  unfold fallback DL
  rw[←hlv',if_pos (by simp[hh,hl])]
 have hopen:isOpen path lv=true:=by
  unfold isOpen
  rw[hva,Bool.true_and]
  obtain⟨v0,r,rfl⟩:=List.exists_cons_of_ne_nil hl
  refine Aa1.2 (OV.2 ⟨⟨hp,?_⟩,fun b hb=>Ku.2 ⟨(hlv v0 (by simp) b hb).1,?_,(hlv v0 (by simp) b hb).2,by simp⟩⟩)
  all_goals (unfold AP;rw[Bool.and_eq_true];exact⟨AnA hva (by simp),Ar7⟩)
 have hk:BX (kept (fun t=> !decide (t∈CX path lv h.exts)) h.exts)=true:=AoS hx List.filter_sublist
 rw[e]
 refine⟨rfl,?_,hlv',by unfold AP;rw[hva,hk];rfl,fun t=> !decide (t∈CX path lv h.exts),rfl⟩
 refine OV.2 ⟨⟨hp,by unfold AP;rw[hva,hk];rfl⟩,fun b hb=>Ku.2 ⟨?_,by unfold AP;rw[hva,hk];rfl,?_,?_⟩⟩
 ·exact(hlv _ (ArY hl) b hb).1
 ·exact(hlv _ (ArY hl) b hb).2
 ·intro x hxm
  obtain⟨hxm,hxt⟩:=List.mem_filter.1 hxm
  have hnl:FZ path lv x=false:=by
   by_cases g:FZ path lv x=true
   ·exfalso
    have:x.tag∈CX path lv h.exts:=by
     unfold CX
     rw[if_pos (by rw[hx,hopen];rfl)]
     exact List.mem_map.2 ⟨x,List.mem_filter.2 ⟨hxm,g⟩,rfl⟩
    simp[this]at hxt
   ·simpa using g
  unfold FZ at hnl
  rw[Bool.not_eq_false']at hnl
  exact(Ku.1 ((OV.1 hnl).2 b hb)).2.2.2 x (by simp)
theorem Aty {h:Hello} {path:List EK} {s tags:List Int} {key:Int} (hh:AP h=true) (hp:path.length≤4)
 (hn:Ta key tags h) (hn2:AP (fallback h path).1=true→Ta key tags (fallback h path).1):
 ∃p,(AdV h path s tags key).deal=if AB s (leftOf h.versions (Ak path h.versions))=0 then D8 else⟨true,AB s (leftOf h.versions (Ak path h.versions)),Ao (Hf (Eo (kept p h.exts) tags))⟩:=by
 have hv:=SX hh
 by_cases hw:Bf h path=true
 ·have e3:BI h path=(h,1,true):=by
   unfold BI
   rw[if_pos hh,if_pos hw]
  refine⟨fun _=>true,?_⟩
  unfold AdV
  rw[e3,if_pos rfl]
  dsimp only
  rw[Ahi hw,Akd hh hn,Aj5]
  have e:leftOf h.versions (Ak path h.versions)=h.versions:=by
   rw[Akb hv]
   refine List.filter_eq_self.2 fun v hvm=> ?_
   unfold GR
   rw[Bool.not_not]
   have hone:AP ⟨[v],[]⟩=true:=by unfold AP;rw[AnA hv hvm,Ar7];rfl
   refine Aa1.2 (OV.2 ⟨⟨hp,hone⟩,fun b hb=> ?_⟩)
   have:=Ku.1 ((OV.1 hw).2 b hb)
   exact Ku.2 ⟨this.1,hone,AqY this.2.2.1 (AAK hv hvm),by simp⟩
  rw[e]
 ·by_cases hl:leftOf h.versions (Ak path h.versions)=[]
  ·have e:(fallback h path).2=false:=by
    unfold fallback DL
    rw[if_neg (by simp[hl])]
   have e2:AB s []=0:=by
    unfold AB
    rw[if_neg]
    rintro ⟨_,h2⟩
    exact absurd (Pj h2) (by simp)
   have e3:BI h path=(Ay,2,false):=by
    unfold BI
    rw[if_pos hh,if_neg hw,if_neg]
    rw[e]
    simp
   refine⟨fun _=>true,?_⟩
   unfold AdV
   rw[e3,hl,e2,if_pos rfl,if_neg (by simp)]
  ·obtain⟨f1,f2,f3,f4,p,f5⟩:=AeX hh hl hp
   have e3:BI h path=((fallback h path).1,2,true):=by
    unfold BI
    rw[if_pos hh,if_neg hw,if_pos]
    rw[f1,f2]
    rfl
   refine⟨p,?_⟩
   unfold AdV
   rw[e3,if_pos rfl]
   dsimp only
   rw[Ahi f2,Akd f4 (hn2 f4),f3,f5]
end Go.Eng.T
namespace Go.Eng.T
set_option maxRecDepth 100000
set_option maxHeartbeats 4000000
def stN (d v:Nat):Nat:=Nat.mod (Nat.add (Nat.add (Nat.mul d 1000003) v) 13) 2147483647
noncomputable def fN (l:List Nat):Nat→Nat:=List.rec (fun d=>d) (fun v _ ih d=>ih (stN d v)) l
def unN (e v:Nat):Nat:=Nat.mod (Nat.mul (Nat.sub (Nat.sub (Nat.add e 4294967294) v) 13) 1523789695) 2147483647
def Qo (l:List Nat):List Int:=List.map (fun n:Nat=>(n:Int)) l
def enN (l:List Nat):List Nat:=l.flatMap fun t=> [t,0]
def Awc:List Nat:=[446234,22530939,41398277,58763931,59679398,91107206,96481331,109858923,133629790,147007382,174581833,179344296,187959425,211730292,237334186,274482645,286540378,293349983,315434688,324257778,334302026,343588075,352583147,361406237,393297004,402358280,421688577,434249047,439506739,446408920,471063338,471397506,476838013,549163840,568031178,585396832,586312299,617740107,623114232,627264342,636491824,701214734,705977197,714592326,738363193,763967087,779315236,813173279,842067589,850890679,860934927,870220976,879216048,920168091,928991181,948321478,960881948,966139640,973041821,997696239,998030407,1003470914,1007091683,1038982450,1075796741,1094664079,1112029733,1144373008,1149747133,1153897243,1163124725,1185325051,1227847635,1232610098,1241225227,1290599988,1305948137,1339806180,1368700490,1377523580,1387567828,1396853877,1437805920,1446800992,1455624082,1474954379,1487514849,1499674722,1524329140,1530103815,1533724584,1565281183,1565615351,1602429642,1621296980,1638662634,1676380034,1679614677,1680530144,1689757626,1711957952,1717332077,1730709669,1754480536,1759242999,1767858128,1800195042,1817232889,1832581038,1858184932,1866439081,1895333391,1904156481,1907391124,1914200729,1945108524,1964438821,1973433893,1982256983,2001587280,2014147750,2026307623,2042539323,2056736716,2060357485,2067259666,2091914084,2092248252,2097688759,2129062543]
def AEg:Nat:=34618473132882764697454236002497984187778107345923047922323429903210194519246304564151017418775093817334019329305024051588420467326951849357233393115134166906079420124643467051807548019664515849445992450821651582552692940131622395304212426155069250384232741425269699829951216564819488996830898243313147954849189045902839188234017243972537585858954649600083282252257692632866832783950996388936843409611836503812032996631721302647625177135301441817594097885741814337494574265293901450258207370390830501240975948700407124604155205319164809160772524999624580441121465719011877352116964329122487727463852034962066807286723452461401351140267554069801251122135394200918044789662607824325698890062668754168847500299429742418377763736657020235396701378742139475122976014911090595189479717707597147765468251735163748093836063580776621890738720745944262141532799653447796997438920031369412814347457256603700308088165592581103665115495279534355916605622781101602095617251293332258512165657465126548134968324588446082721515624719475014380770017864270746304886956640280620908749527385168533556930645684257158192493167316044962166231798261668124055872438691131404707419511304332970882656938074174268942316753455382298876882210441821654508875979563073180717049678184376071974097479120709530717691992503192590163908357788522534829976859930794805843821867917645197435833840792209890665098555179494199572368099521572666914495365845731162834160861517191905600976706786489003430384915877727241678986940662259946311772856045021918243950443441771307319473303715048417775446634276112540440789585999559879969411575724073407565139930259367119237138203405642618549974200268497387743642386427317077444836528148115921218086727530718129804371033332144852249431930589589503314159751682100101359219086295250955956288635839588557956252640610572568201403236179561189626514212636133825655181802358039303501386286963167591514773913773384758259889812928980697440162956009991192796258733494620165407410675983943959174920074218495241312444638051592046736528569161612616919936188470725740060895592668551124533152867787960291462507234439076608026145553104440181337486254049016752006392433819704975178659809714311842418747419909671665190434976289222920264770136083292534178248610011443229575590538726085968522424172642315542874874188966002630955112010960874103040203479005444376422068383653115015595489686834164935371712999302748146887466342810205418821626710827577636540601803599006901262123971193526550784
def Apb:List (List Nat):=[[1],[1,2],[1,2,4],[1,2,5],[1,3],[1,3,4],[1,3,5],[1,4],[1,5],[2],[2,4],[2,5],[3],[3,4],[3,5],[4],[5]]
def AnW:List (List Nat):=[[],[1],[2],[3],[40],[200],[1,2],[1,3],[1,40],[1,200],[2,3],[2,40],[2,200],[3,40],[3,200],[40,200],[1,2,3],[1,2,40],[1,2,200],[1,3,40],[1,3,200],[1,40,200],[2,3,40],[2,3,200],[2,40,200],[3,40,200]]
def Axa:List (List Nat×List Nat):=[([],[]),([],[1]),([1],[]),([],[2]),([2],[]),([],[3]),([3],[]),([],[40]),([40],[]),([],[200]),([200],[]),([],[1,2]),([1],[2]),([1,2],[]),([],[1,3]),([1],[3]),([1,3],[]),([],[1,40]),([1],[40]),([1,40],[]),([],[1,200]),([1],[200]),([1,200],[]),([],[2,3]),([2],[3]),([2,3],[]),([],[2,40]),([2],[40]),([2,40],[]),([],[2,200]),([2],[200]),([2,200],[]),([],[3,40]),([3],[40]),([3,40],[]),([],[3,200]),([3],[200]),([3,200],[]),([],[40,200]),([40],[200]),([40,200],[]),([],[1,2,3]),([1],[2,3]),([1,2],[3]),([1,2,3],[]),([],[1,2,40]),([1],[2,40]),([1,2],[40]),([1,2,40],[]),([],[1,2,200]),([1],[2,200]),([1,2],[200]),([1,2,200],[]),([],[1,3,40]),([1],[3,40]),([1,3],[40]),([1,3,40],[]),([],[1,3,200]),([1],[3,200]),([1,3],[200]),([1,3,200],[]),([],[1,40,200]),([1],[40,200]),([1,40],[200]),([1,40,200],[]),([],[2,3,40]),([2],[3,40]),([2,3],[40]),([2,3,40],[]),([],[2,3,200]),([2],[3,200]),([2,3],[200]),([2,3,200],[]),([],[2,40,200]),([2],[40,200]),([2,40],[200]),([2,40,200],[]),([],[3,40,200]),([3],[40,200]),([3,40],[200]),([3,40,200],[])]
def gr0:List (List Nat):=[[42,0],[90,0],[154,0],[202,0],[250,0]]
def gr1:List (List Nat):=[[42,1,5],[42,1,21],[42,1,37],[42,1,53],[42,1,69],[42,1,85],[42,1,101],[42,1,117],[42,1,133],[42,1,149],[42,1,165],[42,1,181],[42,1,197],[42,1,213],[42,1,229],[42,1,245],[90,1,8],[90,1,24],[90,1,40],[90,1,56],[90,1,72],[90,1,88],[90,1,104],[90,1,120],[90,1,136],[90,1,152],[90,1,168],[90,1,184],[90,1,200],[90,1,216],[90,1,232],[90,1,248],[154,1,12],[154,1,28],[154,1,44],[154,1,60],[154,1,76],[154,1,92],[154,1,108],[154,1,124],[154,1,140],[154,1,156],[154,1,172],[154,1,188],[154,1,204],[154,1,220],[154,1,236],[154,1,252],[202,1,15],[202,1,31],[202,1,47],[202,1,63],[202,1,79],[202,1,95],[202,1,111],[202,1,127],[202,1,143],[202,1,159],[202,1,175],[202,1,191],[202,1,207],[202,1,223],[202,1,239],[202,1,255],[250,1,2],[250,1,18],[250,1,34],[250,1,50],[250,1,66],[250,1,82],[250,1,98],[250,1,114],[250,1,130],[250,1,146],[250,1,162],[250,1,178],[250,1,194],[250,1,210],[250,1,226],[250,1,242]]
def gr2:List (List Nat):=[[42,2,5,5],[42,2,21,21],[42,2,37,37],[42,2,53,53],[42,2,69,69],[42,2,85,85],[42,2,101,101],[42,2,117,117],[42,2,133,133],[42,2,149,149],[42,2,165,165],[42,2,181,181],[42,2,197,197],[42,2,213,213],[42,2,229,229],[42,2,245,245],[90,2,8,8],[90,2,24,24],[90,2,40,40],[90,2,56,56],[90,2,72,72],[90,2,88,88],[90,2,104,104],[90,2,120,120],[90,2,136,136],[90,2,152,152],[90,2,168,168],[90,2,184,184],[90,2,200,200],[90,2,216,216],[90,2,232,232],[90,2,248,248],[154,2,12,12],[154,2,28,28],[154,2,44,44],[154,2,60,60],[154,2,76,76],[154,2,92,92],[154,2,108,108],[154,2,124,124],[154,2,140,140],[154,2,156,156],[154,2,172,172],[154,2,188,188],[154,2,204,204],[154,2,220,220],[154,2,236,236],[154,2,252,252],[202,2,15,15],[202,2,31,31],[202,2,47,47],[202,2,63,63],[202,2,79,79],[202,2,95,95],[202,2,111,111],[202,2,127,127],[202,2,143,143],[202,2,159,159],[202,2,175,175],[202,2,191,191],[202,2,207,207],[202,2,223,223],[202,2,239,239],[202,2,255,255],[250,2,2,2],[250,2,18,18],[250,2,34,34],[250,2,50,50],[250,2,66,66],[250,2,82,82],[250,2,98,98],[250,2,114,114],[250,2,130,130],[250,2,146,146],[250,2,162,162],[250,2,178,178],[250,2,194,194],[250,2,210,210],[250,2,226,226],[250,2,242,242]]
def AFu:List Nat:=[55000178,103000322,167000514,215000658,263000802]
def AFG:List Nat:=[1103323212,2090163859,542639859,1529480506,368837506]
def AFm:List Nat:=[1596661385,872175765,1337850703,613365083,2036363110]
def AFr:List Nat:=[2035477483,490832621,2010445550,465800688,1068639473]
def AFx:List Nat:=[1140317238,1140317254,1140317270,1140317286,1140317302,1140317318,1140317334,1140317350,1140317366,1140317382,1140317398,1140317414,1140317430,1140317446,1140317462,1140317478,873839929,873839945,873839961,873839977,873839993,873840009,873840025,873840041,873840057,873840073,873840089,873840105,873840121,873840137,873840153,873840169,1950192615,1950192631,1950192647,1950192663,1950192679,1950192695,1950192711,1950192727,1950192743,1950192759,1950192775,1950192791,1950192807,1950192823,1950192839,1950192855,1683715306,1683715322,1683715338,1683715354,1683715370,1683715386,1683715402,1683715418,1683715434,1683715450,1683715466,1683715482,1683715498,1683715514,1683715530,1683715546,1417237981,1417237997,1417238013,1417238029,1417238045,1417238061,1417238077,1417238093,1417238109,1417238125,1417238141,1417238157,1417238173,1417238189,1417238205,1417238221]
def AFn:List Nat:=[1913381333,1108727680,304074027,1646904021,842250368,37596715,1380426709,575773056,1918603050,1113949397,309295744,1652125738,847472085,42818432,1385648426,580994773,1606524297,801870644,2144700638,1340046985,535393332,1878223326,1073569673,268916020,1611746014,807092361,2438708,1345268702,540615049,1883445043,1078791390,274137737,481553700,1824383694,1019730041,215076388,1557906382,753252729,2096082723,1291429070,486775417,1829605411,1024951758,220298105,1563128099,758474446,2101304440,1296650787,174696664,1517526658,712873005,2055702999,1251049346,446395693,1789225687,984572034,179918381,1522748375,718094722,2060924716,1256271063,451617410,1794447404,989793751,672493281,2015323275,1210669622,406015969,1748845963,944192310,139538657,1482368651,677714998,2020544992,1215891339,411237686,1754067680,949414027,144760374,1487590368]
def AFh:List Nat:=[2116886996,2020152928,1923418860,1826684792,1729950724,1633216656,1536482588,1439748520,1343014452,1246280384,1149546316,1052812248,956078180,859344112,762610044,665875976,662733565,565999497,469265429,372531361,275797293,179063225,82329157,2133078736,2036344668,1939610600,1842876532,1746142464,1649408396,1552674328,1455940260,1359206192,1587173853,1490439785,1393705717,1296971649,1200237581,1103503513,1006769445,910035377,813301309,716567241,619833173,523099105,426365037,329630969,232896901,136162833,133020422,36286354,2087035933,1990301865,1893567797,1796833729,1700099661,1603365593,1506631525,1409897457,1313163389,1216429321,1119695253,1022961185,926227117,829493049,923084706,826350638,729616570,632882502,536148434,439414366,342680298,245946230,149212162,52478094,2103227673,2006493605,1909759537,1813025469,1716291401,1619557333]
def AFi:List Nat:=[464201236,1238228099,2012254962,638798178,1412825041,39368257,813395120,1587421983,213965199,987992062,1762018925,388562141,1162589004,1936615867,563159083,1337185946,1338292251,2112319114,738862330,1512889193,139432409,913459272,1687486135,314029351,1088056214,1862083077,488626293,1262653156,2036680019,663223235,1437250098,63793314,1072091173,1846118036,472661252,1246688115,2020714978,647258194,1421285057,47828273,821855136,1595881999,222425215,996452078,1770478941,397022157,1171049020,1945075883,1946182188,572725404,1346752267,2120779130,747322346,1521349209,147892425,921919288,1695946151,322489367,1096516230,1870543093,497086309,1271113172,2045140035,671683251,2046246340,672789556,1446816419,73359635,847386498,1621413361,247956577,1021983440,1796010303,422553519,1196580382,1970607245,597150461,1371177324,2145204187,771747403]
def AFo:List Nat:=[1826047945,1842048009,1858048073,1874048137,1890048201,1906048265,1922048329,1938048393,1954048457,1970048521,1986048585,2002048649,2018048713,2034048777,2050048841,2066048905,668404957,684405021,700405085,716405149,732405213,748405277,764405341,780405405,796405469,812405533,828405597,844405661,860405725,876405789,892405853,908405917,1272364620,1288364684,1304364748,1320364812,1336364876,1352364940,1368365004,1384365068,1400365132,1416365196,1432365260,1448365324,1464365388,1480365452,1496365516,1512365580,114721632,130721696,146721760,162721824,178721888,194721952,210722016,226722080,242722144,258722208,274722272,290722336,306722400,322722464,338722528,354722592,1088562227,1104562291,1120562355,1136562419,1152562483,1168562547,1184562611,1200562675,1216562739,1232562803,1248562867,1264562931,1280562995,1296563059,1312563123,1328563187]
def AFD:List Nat:=[2123141333,931606680,1887555674,696021021,1651970015,460435362,1416384356,224849703,1180798697,2136747691,945213038,1901162032,709627379,1665576373,474041720,1429990714,235718870,1191667864,133211,956082205,1912031199,720496546,1676445540,484910887,1440859881,249325228,1205274222,13739569,969688563,1925637557,734102904,1690051898,2014122880,822588227,1778537221,587002568,1542951562,351416909,1307365903,115831250,1071780244,2027729238,836194585,1792143579,600608926,1556557920,365023267,1320972261,126700417,1082649411,2038598405,847063752,1803012746,611478093,1567427087,375892434,1331841428,140306775,1096255769,2052204763,860670110,1816619104,625084451,1581033445,1578296254,386761601,1342710595,151175942,1107124936,2063073930,871539277,1827488271,635953618,1591902612,400367959,1356316953,164782300,1120731294,2076680288,885145635]
def AFj:List Nat:=[1483287451,429230294,1522656784,468599627,1562026117,507968960,1601395450,547338293,1640764783,586707626,1680134116,626076959,1719503449,665446292,1758872782,704815625,2022708247,968651090,2062077580,1008020423,2101446913,1047389756,2140816246,1086759089,32701932,1126128422,72071265,1165497755,111440598,1204867088,150809931,1244236421,594452328,1687878818,633821661,1727248151,673190994,1766617484,712560327,1805986817,751929660,1845356150,791298993,1884725483,830668326,1924094816,870037659,1963464149,1133873124,79815967,1173242457,119185300,1212611790,158554633,1251981123,197923966,1291350456,237293299,1330719789,276662632,1370089122,316031965,1409458455,355401298,579867430,1673293920,619236763,1712663253,658606096,1752032586,697975429,1791401919,737344762,1830771252,776714095,1870140585,816083428,1909509918,855452761,1948879251]
def AFw:List Nat:=[415555204,2106356211,1649673571,1192990931,736308291,279625651,1970426658,1513744018,1057061378,600378738,143696098,1834497105,1377814465,921131825,464449185,7766545,1378983045,922300405,465617765,8935125,1699736132,1243053492,786370852,329688212,2020489219,1563806579,1107123939,650441299,193758659,1884559666,1427877026,971194386,1231897735,775215095,318532455,2009333462,1552650822,1095968182,639285542,182602902,1873403909,1416721269,960038629,503355989,46673349,1737474356,1280791716,824109076,47841929,1738642936,1281960296,825277656,368595016,2059396023,1602713383,1146030743,689348103,232665463,1923466470,1466783830,1010101190,553418550,96735910,1787536917,1467952410,1011269770,554587130,97904490,1788705497,1332022857,875340217,418657577,2109458584,1652775944,1196093304,739410664,282728024,1973529031,1516846391,1060163751]
def okX (x:Nat):Bool:=Nat.beq (Nat.land (Nat.shiftRight AEg (Nat.mod x 8192)) 1) 0||Awc.all fun b=> !Nat.beq b x
noncomputable def RL (vs A:List Nat) (n len:Nat):Nat:=fN (enN A) (fN (n:: []) (fN vs (fN [1,len,vs.length] 11)))
noncomputable def runK (K:Nat) (l:List Nat):Bool:=List.rec true (fun k _ ih=>and (okX (Nat.mod (Nat.add K k) 2147483647)) ih) l
def I6:Nat→Nat
 | 0=>1
 | n+1=>Nat.mod (Nat.mul (I6 n) 1000003) 2147483647
noncomputable def Sv (vs A B:List Nat) (n len g:Nat):Nat:=Nat.mod (Nat.add (Nat.mul (RL vs A n len) (I6 (g+2*B.length))) (fN (enN B) 0)) 2147483647
def tkN (c j:Nat):List Nat:=match c,j with
 | 0,0=>AFu
 | 0,1=>AFG
 | 0,2=>AFm
 | 0,3=>AFr
 | 1,0=>AFx
 | 1,1=>AFn
 | 1,2=>AFh
 | 1,3=>AFi
 | 2,0=>AFo
 | 2,1=>AFD
 | 2,2=>AFj
 | 2,3=>AFw
 | _,_=> []
noncomputable def AB6 (vs A B:List Nat) (k:Nat):Bool:=okX (Sv vs A B k (2+vs.length+2*k) 0)&&(runK (Sv vs A B (k+1) (4+vs.length+2*k) 2) (tkN 0 B.length)&&(runK (Sv vs A B (k+1) (5+vs.length+2*k) 3) (tkN 1 B.length)&&runK (Sv vs A B (k+1) (6+vs.length+2*k) 4) (tkN 2 B.length)))
noncomputable def AAj (vs:List Nat):Bool:=List.rec true (fun p _ ih=>and (AB6 vs p.1 p.2 (p.1.length+p.2.length)) ih) Axa
noncomputable def AEJ:Bool:=List.rec true (fun vs _ ih=>and (AAj vs) ih) Apb
theorem AC9:AEJ=true:=by decide +kernel
end Go.Eng.T
namespace Go.Eng.T
set_option maxRecDepth 100000
set_option maxHeartbeats 4000000
theorem Az4 {d v:Nat} (hv:v<2147483647):JL (d:Int) (v:Int)=((stN d v:Nat):Int):=by
 have e0:stN d v=(d*1000003+v+13) % 2147483647:=rfl
 have e1:Qp (v:Int) 2147483647=(v:Int):=by
  unfold Qp
  rw[if_pos ⟨by omega,by omega⟩,Int.tmod_eq_emod_of_nonneg (a:=(v:Int)) (by omega),Int.tmod_eq_emod_of_nonneg (by omega)]
  omega
 unfold JL
 rw[e1,Int.tmod_eq_emod_of_nonneg (by omega),e0]
 omega
theorem AwL (d v:Nat):stN d v<2147483647:=Nat.mod_lt _ (by decide)
theorem Aly (d:Nat):fN [] d=d:=rfl
theorem AyM (l:List Nat):fN l=List.rec (motive:=fun _=>Nat→Nat) (fun d=>d) (fun v _ ih d=>ih (stN d v)) l:=rfl
theorem MZ (v:Nat) (l:List Nat) (d:Nat):fN (v::l) d=fN l (stN d v):=by
 rw[AyM,AyM]
theorem AqZ (d v:Nat):stN d v=(d*1000003+v+13) % 2147483647:=rfl
theorem Aw7 (v:Nat) (l:List Nat):Qo (v::l)=(v:Int)::Qo l:=rfl
theorem AyA:∀(a b:List Nat) (d:Nat),fN (a++b) d=fN b (fN a d)
 | [],_,_=>rfl
 | v::a,b,d=>by rw[List.cons_append,MZ,MZ,AyA a b]
theorem Uv:∀(l:List Nat) (d:Nat),d<2147483647→fN l d<2147483647
 | [],_,h=>h
 | v::l,d,_=>by rw[MZ];exact Uv l _ (AwL _ _)
theorem Akh:∀(l:List Nat) (d:Nat),(∀v,v∈l→v<2147483647)→(Qo l).foldl JL (d:Int)=((fN l d:Nat):Int)
 | [],_,_=>rfl
 | v::l,d,h=>by
  rw[Aw7,List.foldl_cons,Az4 (h v (by simp)),Akh l _ (fun x hx=>h x (by simp[hx])),MZ]
theorem AbK {l:List Nat} (h:∀v,v∈l→v<2147483647):hash (Qo l)=((fN l 11:Nat):Int):=Akh l 11 h
theorem AEI {d v e:Nat} (hd:d<2147483647) (hv:v<2147483647) (h:stN d v=e):d=unN e v:=by
 rw[AqZ]at h
 have e1:unN e v=((e+4294967294-v-13)*1523789695) % 2147483647:=rfl
 rw[e1]
 omega
def AxB (e:Nat):List Nat→Nat
 | []=>e
 | v::l=>unN (AxB e l) v
theorem AsG:∀(l:List Nat) {d e:Nat},d<2147483647→(∀v,v∈l→v<2147483647)→fN l d=e→d=AxB e l
 | [],_,_,_,_,h=>h
 | v::l,d,e,hd,hv,h=>by
  rw[MZ]at h
  have:=AsG l (AwL d v) (fun x hx=>hv x (by simp[hx])) h
  exact AEI hd (hv v (by simp)) this
def ABX:Nat:=2123248274
def AsY (v:Nat) (s:List Nat):List Nat:=v::s.length::enN s
theorem Arp {T:Nat} (hT:T<2147483647) (h:fN [77,1,T,77] 11=0):T=ABX:=by
 simp only[MZ,Aly,AqZ]at h
 unfold ABX
 omega
theorem Axx {x e:Nat} (hx:x<2147483647) (h:stN 11 x=e):x=(e+2147483647-11000046) % 2147483647:=by
 rw[AqZ]at h
 omega
def AB7 (v:Nat) (s:List Nat):Nat:=Nat.mod (Nat.sub (Nat.add (AxB ABX ((AsY v s).length::AsY v s)) 2147483647) 11000046) 2147483647
def AAz:Bool:=[1,2,3,4,5].all fun v=>AnW.all fun s=>Awc.any fun b=>Nat.beq b (AB7 v s)
theorem ACb:AAz=true:=by decide +kernel
theorem ACe {v:Nat} {s:List Nat} (hv:v∈[1,2,3,4,5]) (hs:s∈AnW):AB7 v s∈Awc:=by
 have h:=List.all_eq_true.1 (List.all_eq_true.1 ACb v hv) s hs
 rw[List.any_eq_true]at h
 obtain⟨b,hb,e⟩:=h
 rw[←Nat.eq_of_beq_eq_true e]
 exact hb
def AAH:Bool:=Awc.all fun b=> !Nat.beq (Nat.land (Nat.shiftRight AEg (Nat.mod b 8192)) 1) 0
theorem ADm:AAH=true:=by decide +kernel
theorem ACA {x:Nat} (h:okX x=true):¬x∈Awc:=by
 intro hx
 unfold okX at h
 rw[Bool.or_eq_true]at h
 rcases h with h | h
 ·have:=List.all_eq_true.1 ADm x hx
  rw[h]at this
  simp at this
 ·have:=List.all_eq_true.1 h x hx
  rw[Nat.beq_refl]at this
  simp at this
def hbN (vs A g B:List Nat) (k:Nat):List Nat:=vs.length::(vs++k::(enN A++(g++enN B)))
theorem ZG (l:List Nat):(enN l).length=2*l.length:=by
 induction l with
 | nil=>rfl
 | cons a l ih=>simp only[enN,List.flatMap_cons,List.length_append,List.length_cons,List.length_nil]at *;omega
theorem pre_eq (vs A g B:List Nat) (k len:Nat):fN (enN B) (fN g (RL vs A k len))=fN (1::len::hbN vs A g B k) 11:=by
 unfold RL hbN
 simp only[MZ,Aly,AyA]
def Azw (g:List Nat):Prop:=g∈gr0∨g∈gr1∨g∈gr2
theorem AzQ:gr0.all (fun g=>Nat.beq g.length 2)=true:=by decide +kernel
theorem AzY:gr1.all (fun g=>Nat.beq g.length 3)=true:=by decide +kernel
theorem Az9:gr2.all (fun g=>Nat.beq g.length 4)=true:=by decide +kernel
def Like (a b:Nat):Prop:=a % 2147483647=b % 2147483647
theorem Like.add {a b c d:Nat} (h:Like a b) (h':Like c d):Like (a+c) (b+d):=by
 unfold Like at *
 rw[Nat.add_mod,h,h',←Nat.add_mod]
theorem Like.mul {a b c d:Nat} (h:Like a b) (h':Like c d):Like (a*c) (b*d):=by
 unfold Like at *
 rw[Nat.mul_mod,h,h',←Nat.mul_mod]
theorem Z0 (a:Nat):Like (a % 2147483647) a:=by
 unfold Like
 exact Nat.mod_mod _ _
theorem Like.trans {a b c:Nat} (h:Like a b) (h':Like b c):Like a c:=Eq.trans h h'
theorem Like.symm {a b:Nat} (h:Like a b):Like b a:=Eq.symm h
theorem Aso (d v:Nat):Like (stN d v) (d*1000003+(v+13)):=by
 have e:stN d v=(d*1000003+v+13) % 2147483647:=rfl
 rw[e,show d*1000003+(v+13)=d*1000003+v+13 by omega]
 exact Z0 _
theorem Af7 (n:Nat):Like (I6 (n+1)) (I6 n*1000003):=Z0 _
theorem pow_add (a:Nat):∀b,Like (I6 (a+b)) (I6 a*I6 b)
 | 0=>by unfold Like;rw[Nat.add_zero];simp[I6]
 | b+1=>by
  refine(Af7 (a+b)).trans (((pow_add a b).mul (show Like 1000003 1000003 from rfl)).trans ?_)
  refine Like.trans ?_ ((show Like (I6 a) (I6 a)from rfl).mul (Af7 b).symm)
  rw[Nat.mul_assoc]
  exact rfl
theorem Ae6:∀(l:List Nat) (d:Nat),Like (fN l d) (d*I6 l.length+fN l 0)
 | [],d=>by unfold Like;simp[Aly,I6]
 | v::l,d=>by
  rw[MZ,MZ]
  refine(Ae6 l (stN d v)).trans ?_
  have h1:Like (stN d v*I6 l.length+fN l 0) ((d*1000003+(v+13))*I6 l.length+fN l 0):=((Aso d v).mul rfl).add rfl
  have h2:Like (fN l (stN 0 v)) ((v+13)*I6 l.length+fN l 0):=(Ae6 l (stN 0 v)).trans (by
   have:=((Aso 0 v).mul (show Like (I6 l.length) (I6 l.length)from rfl)).add (show Like (fN l 0) (fN l 0)from rfl)
   simpa using this)
  have h3:Like (d*I6 (v::l).length) (d*(I6 l.length*1000003)):=(show Like d d from rfl).mul (Af7 l.length)
  refine h1.trans (Like.trans ?_ (h3.add h2).symm)
  have:(d*1000003+(v+13))*I6 l.length+fN l 0=d*(I6 l.length*1000003)+((v+13)*I6 l.length+fN l 0):=by
   rw[Nat.add_mul,Nat.mul_comm (I6 l.length),←Nat.mul_assoc]
   omega
  rw[this]
  exact rfl
theorem Ao0 {K:Nat}:∀ {l:List Nat},runK K l=true→∀k,k∈l→okX ((K+k) % 2147483647)=true
 | [],_,k,hk=>by cases hk
 | a::l,h,k,hk=>by
  have h':(okX ((K+a) % 2147483647)&&runK K l)=true:=h
  rw[Bool.and_eq_true]at h'
  rcases List.mem_cons.1 hk with rfl | hk
  ·exact h'.1
  ·exact Ao0 h'.2 k hk
def grN (c:Nat):List (List Nat):=match c with
 | 0=>gr0
 | 1=>gr1
 | _=>gr2
theorem AEG:((List.range 3).all fun c=>(List.range 4).all fun j=>decide (tkN c j=(grN c).map fun g=>Nat.mod (Nat.mul (fN g 0) (I6 (2*j))) 2147483647))=true:=by decide +kernel
theorem Au6:Axa.all (fun p=>decide (p.2.length≤3))=true:=by decide +kernel
theorem AmZ {q:List Nat×List Nat→Bool}:∀ {l:List (List Nat×List Nat)},(List.rec (motive:=fun _=>Bool) true (fun p _ ih=>and (q p) ih) l:Bool)=true→∀p,p∈l→q p=true
 | [],_,p,hp=>by cases hp
 | a::l,h,p,hp=>by
  have h':(q a&&(List.rec (motive:=fun _=>Bool) true (fun p _ ih=>and (q p) ih) l:Bool))=true:=h
  rw[Bool.and_eq_true]at h'
  rcases List.mem_cons.1 hp with rfl | hp
  ·exact h'.1
  ·exact AmZ h'.2 p hp
theorem AoU {q:List Nat→Bool}:∀ {l:List (List Nat)},(List.rec (motive:=fun _=>Bool) true (fun p _ ih=>and (q p) ih) l:Bool)=true→∀p,p∈l→q p=true
 | [],_,p,hp=>by cases hp
 | a::l,h,p,hp=>by
  have h':(q a&&(List.rec (motive:=fun _=>Bool) true (fun p _ ih=>and (q p) ih) l:Bool))=true:=h
  rw[Bool.and_eq_true]at h'
  rcases List.mem_cons.1 hp with rfl | hp
  ·exact h'.1
  ·exact AoU h'.2 p hp
theorem Ax6 (vs A:List Nat) (n len:Nat):RL vs A n len<2147483647:=by
 unfold RL
 exact Uv _ _ (Uv _ _ (Uv _ _ (Uv _ _ (by decide))))
theorem head_eq {vs A g B:List Nat} {n len c:Nat} (h:runK (Sv vs A B n len g.length) (tkN c B.length)=true) (hc:c<3) (hg:g∈grN c) (hb:B.length≤3):okX (fN (enN B) (fN g (RL vs A n len)))=true:=by
 have ht:=List.all_eq_true.1 (List.all_eq_true.1 AEG c (List.mem_range.2 hc)) B.length (List.mem_range.2 (by omega))
 rw[decide_eq_true_eq]at ht
 rw[ht]at h
 have hk:=Ao0 h _ (List.mem_map.2 ⟨g,hg,rfl⟩)
 have e:(Sv vs A B n len g.length+(fN g 0*I6 (2*B.length)) % 2147483647) % 2147483647=fN (enN B) (fN g (RL vs A n len)):=by
  have hlt:fN (enN B) (fN g (RL vs A n len))<2147483647:=Uv _ _ (Uv _ _ (Ax6 _ _ _ _))
  rw[←Nat.mod_eq_of_lt hlt]
  have h1:Like (Sv vs A B n len g.length) (RL vs A n len*(I6 g.length*I6 (2*B.length))+fN (enN B) 0):=
   (Z0 _).trans (((show Like (RL vs A n len) (RL vs A n len)from rfl).mul (pow_add g.length (2*B.length))).add rfl)
  have h2:Like (fN (enN B) (fN g (RL vs A n len))) ((RL vs A n len*I6 g.length+fN g 0)*I6 (2*B.length)+fN (enN B) 0):=by
   have:=Ae6 (enN B) (fN g (RL vs A n len))
   rw[ZG]at this
   exact this.trans (((Ae6 g (RL vs A n len)).mul rfl).add rfl)
  refine(h1.add (Z0 _)).trans (Like.trans ?_ h2.symm)
  have:RL vs A n len*(I6 g.length*I6 (2*B.length))+fN (enN B) 0+fN g 0*I6 (2*B.length)=(RL vs A n len*I6 g.length+fN g 0)*I6 (2*B.length)+fN (enN B) 0:=by
   rw[Nat.add_mul,Nat.mul_assoc]
   omega
  rw[this]
  exact rfl
 rw[←e]
 exact hk
theorem Avb {vs A B:List Nat} {n len:Nat} (h:okX (Sv vs A B n len 0)=true):okX (fN (enN B) (RL vs A n len))=true:=by
 have e:Sv vs A B n len 0=fN (enN B) (RL vs A n len):=by
  have hlt:fN (enN B) (RL vs A n len)<2147483647:=Uv _ _ (Ax6 _ _ _ _)
  rw[←Nat.mod_eq_of_lt hlt]
  have:=Ae6 (enN B) (RL vs A n len)
  rw[ZG]at this
  unfold Like at this
  rw[this]
  unfold Sv
  rw[Nat.zero_add]
  rfl
 rw[←e]
 exact h
theorem ABU {vs A B g:List Nat} {k:Nat} (hv:vs∈Apb) (hs:(A,B)∈Axa) (hg:g=[]∧k=A.length+B.length∨Azw g∧k=A.length+B.length+1):
 okX (fN (1::(hbN vs A g B k).length::hbN vs A g B k) 11)=true:=by
 have hN:=AC9
 unfold AEJ at hN
 have hV:AAj vs=true:=AoU (q:=AAj) hN vs hv
 unfold AAj at hV
 have h:=AmZ (q:=fun p=>AB6 vs p.1 p.2 (p.1.length+p.2.length)) hV (A,B) hs
 have hb3:=List.all_eq_true.1 Au6 (A,B) hs
 rw[decide_eq_true_eq]at hb3
 unfold AB6 at h
 simp only[Bool.and_eq_true]at h
 obtain⟨h0,h1,h2,h3⟩:=h
 have hl:(hbN vs A g B k).length=2+vs.length+2*(A.length+B.length)+g.length:=by
  unfold hbN
  simp only[List.length_cons,List.length_append,ZG]
  omega
 rw[←pre_eq,hl]
 rcases hg with⟨rfl,rfl⟩ | ⟨hg,rfl⟩
 ·have:=Avb h0
  rw[Aly,List.length_nil,Nat.add_zero]
  exact this
 ·rcases hg with hg | hg | hg
  ·have e:=Nat.eq_of_beq_eq_true (List.all_eq_true.1 AzQ g hg)
   have h':runK (Sv vs A B (A.length+B.length+1) (4+vs.length+2*(A.length+B.length)) g.length) (tkN 0 B.length)=true:=by rw[e];exact h1
   have:=head_eq (c:=0) h' (by decide) hg hb3
   rw[e,show 2+vs.length+2*(A.length+B.length)+2=4+vs.length+2*(A.length+B.length)by omega]
   exact this
  ·have e:=Nat.eq_of_beq_eq_true (List.all_eq_true.1 AzY g hg)
   have h':runK (Sv vs A B (A.length+B.length+1) (5+vs.length+2*(A.length+B.length)) g.length) (tkN 1 B.length)=true:=by rw[e];exact h2
   have:=head_eq (c:=1) h' (by decide) hg hb3
   rw[e,show 2+vs.length+2*(A.length+B.length)+3=5+vs.length+2*(A.length+B.length)by omega]
   exact this
  ·have e:=Nat.eq_of_beq_eq_true (List.all_eq_true.1 Az9 g hg)
   have h':runK (Sv vs A B (A.length+B.length+1) (6+vs.length+2*(A.length+B.length)) g.length) (tkN 2 B.length)=true:=by rw[e];exact h3
   have:=head_eq (c:=2) h' (by decide) hg hb3
   rw[e,show 2+vs.length+2*(A.length+B.length)+4=6+vs.length+2*(A.length+B.length)by omega]
   exact this
theorem Av6 {hb ab:List Nat} (h1:∀v,v∈hb→v≤255) (h2:∀v,v∈ab→v≤255) (hl1:hb.length≤1000) (hl2:ab.length≤1000):
 BS 77 [Qo hb,Qo ab] 1=((fN [77,1,fN (fN (1::hb.length::hb) 11::ab.length::ab) 11,77] 11:Nat):Int):=by
 have e1:Gw [Qo hb,Qo ab]=true:=by
  unfold Gw
  have a1:allIn (Qo hb) 0 255=true:=Sd fun x hx=>by
   obtain⟨n,hn,rfl⟩:=List.mem_map.1 hx
   have:=h1 n hn
   omega
  have a2:allIn (Qo ab) 0 255=true:=Sd fun x hx=>by
   obtain⟨n,hn,rfl⟩:=List.mem_map.1 hx
   have:=h2 n hn
   omega
  simp[a1,a2]
 have e2:FI [Qo hb,Qo ab]=((fN (fN (1::hb.length::hb) 11::ab.length::ab) 11:Nat):Int):=by
  unfold FI
  rw[if_pos e1]
  show Ht (Ht 1 (Qo hb)) (Qo ab)=_
  have c1:Ht 1 (Qo hb)=((fN (1::hb.length::hb) 11:Nat):Int):=by
   unfold Ht
   have:(1:Int)::((Qo hb).length:Int)::Qo hb=Qo (1::hb.length::hb):=by simp[Qo]
   rw[this]
   refine AbK fun v hv=> ?_
   rcases List.mem_cons.1 hv with rfl | hv
   ·decide
   rcases List.mem_cons.1 hv with rfl | hv
   ·omega
   ·have:=h1 v hv;omega
  rw[c1]
  have hlt:=Uv (1::hb.length::hb) 11 (by decide)
  generalize fN (1::hb.length::hb) 11=x at hlt
  unfold Ht
  have:((x:Nat):Int)::((Qo ab).length:Int)::Qo ab=Qo (x::ab.length::ab):=by simp[Qo]
  rw[this]
  refine AbK fun v hv=> ?_
  rcases List.mem_cons.1 hv with rfl | hv
  ·exact hlt
  rcases List.mem_cons.1 hv with rfl | hv
  ·omega
  ·have:=h2 v hv;omega
 unfold BS
 rw[e1,e2,if_pos (by decide)]
 have hlt:=Uv (fN (1::hb.length::hb) 11::ab.length::ab) 11 (by decide)
 generalize fN (fN (1::hb.length::hb) 11::ab.length::ab) 11=T at hlt
 unfold keyed
 have:((77:Int):: [1,((T:Nat):Int)]++ [77])=Qo [77,1,T,77]:=rfl
 rw[this]
 refine AbK fun v hv=> ?_
 simp at hv
 omega
theorem ADf {hb ab:List Nat} {v:Nat} {s:List Nat} (h1:∀v,v∈hb→v≤255) (hl1:hb.length≤1000) (hab:ab=AsY v s) (hv:v∈[1,2,3,4,5]) (hs:s∈AnW) (hs2:∀t,t∈s→t≤255) (hsl:s.length≤3)
 (hok:okX (fN (1::hb.length::hb) 11)=true):¬BS 77 [Qo hb,Qo ab] 1=0:=by
 have hv5:v≤5:=by simp at hv;omega
 have h2:∀x,x∈ab→x≤255:=by
  intro x hx
  rw[hab]at hx
  unfold AsY enN at hx
  rcases List.mem_cons.1 hx with rfl | hx
  ·omega
  rcases List.mem_cons.1 hx with rfl | hx
  ·omega
  obtain⟨t,ht,hx⟩:=List.mem_flatMap.1 hx
  have:=hs2 t ht
  simp at hx
  omega
 have hl2:ab.length≤1000:=by
  rw[hab]
  unfold AsY
  simp only[List.length_cons,ZG]
  omega
 rw[Av6 h1 h2 hl1 hl2]
 intro h0
 have hx:=Uv (1::hb.length::hb) 11 (by decide)
 generalize fN (1::hb.length::hb) 11=x at h0 hok hx
 have hT:=Arp (Uv (x::ab.length::ab) 11 (by decide)) (by omega)
 rw[MZ]at hT
 have hb:=AsG (ab.length::ab) (AwL 11 x) (fun y hy=>by
  rcases List.mem_cons.1 hy with rfl | hy
  ·omega
  ·have:=h2 y hy;omega) hT
 have hx2:=Axx hx hb
 rw[hab]at hx2
 exact ACA hok (by have:=ACe hv hs;unfold AB7 at this;rw[hx2];exact this)
end Go.Eng.T
namespace Go.Eng.T
set_option maxRecDepth 100000
set_option maxHeartbeats 4000000
theorem O6 (p:Int→Bool) (ts:List Int):kept p (bare ts)=bare (ts.filter p):=by
 unfold kept bare
 rw[List.filter_map]
 rfl
theorem Sj (p:Int→Bool) (a b:List Ext):kept p (a++b)=kept p a++kept p b:=List.filter_append ..
def AzT (ts:List Int) (seed:Int) (l:List Ext):Prop:=∃A B ge,l=bare A++(ge++bare B)∧(A++B).Sublist ts∧(ge=[]∨ge=[⟨DU seed,QI seed⟩])
theorem AzK {ts:List Int} {seed:Int} {l:List Ext} (h:AzT ts seed l) (p:Int→Bool):AzT ts seed (kept p l):=by
 obtain⟨A,B,ge,rfl,hs,hg⟩:=h
 refine⟨A.filter p,B.filter p,kept p ge,by rw[Sj,Sj,O6,O6],?_,?_⟩
 ·rw[←List.filter_append]
  exact List.filter_sublist.trans hs
 ·rcases hg with rfl | rfl
  ·exact .inl rfl
  ·unfold kept
   simp only[List.filter_cons,List.filter_nil]
   split
   ·exact .inr rfl
   ·exact .inl rfl
theorem AsU (ts:List Int) (seed:Int):AzT ts seed (BQ (bare ts) seed):=by
 unfold BQ
 split
 ·refine⟨ts.take (WE (bare ts) seed),ts.drop (WE (bare ts) seed),[⟨DU seed,QI seed⟩],?_,?_,.inr rfl⟩
  ·unfold bare
   rw[List.map_take,List.map_drop]
   rfl
  ·rw[List.take_append_drop]
   exact List.Sublist.refl _
 ·exact⟨ts,[],[],by simp[bare],by simp,.inl rfl⟩
theorem AqA (seed:Int):Aq (DU seed)=true:=by
 have:=Lb seed 0 (n:=16) ⟨by omega,by omega⟩
 unfold Aq DU
 rw[Bool.and_eq_true,decide_eq_true_eq,decide_eq_true_eq,Int.tmod_eq_emod_of_nonneg (by omega)]
 exact⟨⟨by omega,by omega⟩,by omega⟩
def VIn (b:Int) (l:List Int):Prop:=Up l∧∃a,(a=2∨a=3)∧∀x,x∈l→x=1∨x=a∨x=b
theorem ABa {b:Int} {l l':List Int} (h:VIn b l) (hs:l'.Sublist l):VIn b l':=by
 obtain⟨h1,a,ha,h2⟩:=h
 exact⟨List.Pairwise.sublist hs h1,a,ha,fun x hx=>h2 x (hs.subset hx)⟩
theorem AAc {b:Int} {l:List Int} (h:VIn b l):VIn b (Gb l b):=by
 obtain⟨h1,a,ha,h2⟩:=h
 refine⟨YS b h1,a,ha,fun x hx=> ?_⟩
 rcases(KT l b x).1 hx with hx | rfl
 ·exact h2 x hx
 ·exact .inr (.inr rfl)
def mkB (p q r:Bool) (a b:Nat):List Nat:=(if p then [1]else [])++((if q then [a]else [])++(if r then [b]else []))
theorem AEh:∀a,a∈[2,3]→∀b,b∈[4,5]→∀p q r:Bool,(p||(q||r))=true→mkB p q r a b∈Apb:=by decide +kernel
theorem ACX {p q r:Bool} {a b:Nat} {x:Int}:x∈Qo (mkB p q r a b)↔(p=true∧x=1)∨(q=true∧x=(a:Int))∨(r=true∧x=(b:Int)):=by
 cases p<;>cases q<;>cases r<;>simp[mkB,Qo]
theorem AD6 {p q r:Bool} {a b:Nat} (h1:1<a) (h2:a<b):Up (Qo (mkB p q r a b)):=by
 have h3:1<b:=by omega
 unfold Up
 cases p<;>cases q<;>cases r<;>simp[mkB,Qo,h1,h2,h3]<;>omega
theorem Ate {b:Int} {l:List Int} (hb:b=4∨b=5) (h:VIn b l) (h0:l≠ []):∃vs,vs∈Apb∧l=Qo vs:=by
 obtain⟨h1,a,ha,h2⟩:=h
 obtain⟨a',ha',ea⟩:∃a':Nat,a'∈[2,3]∧a=(a':Int):=by
  rcases ha with rfl | rfl
  ·exact⟨2,by simp,rfl⟩
  ·exact⟨3,by simp,rfl⟩
 obtain⟨b',hb',eb⟩:∃b':Nat,b'∈[4,5]∧b=(b':Int):=by
  rcases hb with rfl | rfl
  ·exact⟨4,by simp,rfl⟩
  ·exact⟨5,by simp,rfl⟩
 refine⟨mkB (decide (1∈l)) (decide (a∈l)) (decide (b∈l)) a' b',AEh a' ha' b' hb' _ _ _ ?_,?_⟩
 ·obtain⟨x,r,rfl⟩:=List.exists_cons_of_ne_nil h0
  rcases h2 x (by simp)with rfl | rfl | rfl<;>simp
 ·refine Aqm h1 (AD6 (by simp at ha';omega) (by simp at ha' hb';omega)) fun x=> ?_
  rw[ACX,←ea,←eb]
  simp only[decide_eq_true_eq]
  constructor
  ·intro hx
   rcases h2 x hx with rfl | rfl | rfl
   ·exact .inl ⟨hx,rfl⟩
   ·exact .inr (.inl ⟨hx,rfl⟩)
   ·exact .inr (.inr ⟨hx,rfl⟩)
  ·rintro (⟨h,rfl⟩ | ⟨h,rfl⟩ | ⟨h,rfl⟩)<;>exact h
def AnI:List Nat→List (List Nat)
 | []=> [[]]
 | a::l=>AnI l++(AnI l).map (a::·)
theorem Atp {s l:List Nat} (h:s.Sublist l):s∈AnI l:=by
 induction h with
 | slnil=>simp[AnI]
 | cons a _ ih=>exact List.mem_append_left _ ih
 | cons_cons a _ ih=>exact List.mem_append_right _ (List.mem_map.2 ⟨_,ih,rfl⟩)
theorem AFq:(AnI [1,2,3,40,200]).all (fun s=> !decide (s.length≤3)||decide (s∈AnW))=true:=by decide +kernel
theorem ADh:AnW.all (fun s=>(List.range (s.length+1)).all fun k=>decide ((s.take k,s.drop k)∈Axa))=true:=by decide +kernel
theorem Akf:AnW.all (fun s=>decide (s.length≤3)&&s.all fun t=>decide (t≤255))=true:=by decide +kernel
theorem ApL:Apb.all (fun s=>decide (s.length≤3)&&s.all fun t=>decide (t≤5))=true:=by decide +kernel
theorem AwV:(gr0++(gr1++gr2)).all (fun s=>decide (s.length≤4)&&s.all fun t=>decide (t≤255))=true:=by decide +kernel
theorem Akw {ts l:List Int} (h:Acd ts 3) (hs:l.Sublist ts):∃s,s∈AnW∧l=Qo s:=by
 obtain⟨h1,h2,h3⟩:=h
 have e:ts=([1,2,3,40,200]:List Int).filter fun x=>decide (x∈ts):=by
  refine Aqm h1 (List.Pairwise.sublist List.filter_sublist (by simp)) fun x=> ?_
  rw[List.mem_filter,decide_eq_true_eq]
  exact⟨fun hx=>⟨h2 x hx,hx⟩,fun h=>h.2⟩
 have hb:ts.Sublist (Qo [1,2,3,40,200]):=by rw[e];exact List.filter_sublist
 obtain⟨s,hss,rfl⟩:=List.sublist_map_iff.1 (hs.trans hb)
 refine⟨s,?_,rfl⟩
 have hl:=hs.length_le
 rw[List.length_map]at hl
 have:=List.all_eq_true.1 AFq s (Atp hss)
 rw[Bool.or_eq_true,decide_eq_true_eq]at this
 rcases this with h | h
 ·have:s.length≤3:=by omega
  simp[this]at h
 ·exact h
theorem Apc {ts A B:List Int} (h:Acd ts 3) (hs:(A++B).Sublist ts):∃A' B',A=Qo A'∧B=Qo B'∧(A',B')∈Axa∧A'++B'∈AnW:=by
 obtain⟨s,hss,e⟩:=Akw h hs
 obtain⟨A',B',e1,e2,e3⟩:=List.map_eq_append_iff.1 e.symm
 refine⟨A',B',e2.symm,e3.symm,?_,by rw[←e1];exact hss⟩
 have:=List.all_eq_true.1 (List.all_eq_true.1 ADh s hss) A'.length (List.mem_range.2 (by rw[e1,List.length_append];omega))
 rw[decide_eq_true_eq,e1]at this
 simpa using this
def ABN (seed:Int):Bool:=(gr0++(gr1++gr2)).any fun g=>decide (Qo g=AqR ⟨DU seed,QI seed⟩)
theorem AAC:((List.range 55).all fun n=>(List.range 5).all fun i=>ABN (16*(n:Int)+(i:Int)))=true:=by decide +kernel
theorem ACN {n i:Nat} (hn:n<55) (hi:i<5):∃g,Azw g∧Qo g=AqR ⟨DU (16*(n:Int)+(i:Int)),QI (16*(n:Int)+(i:Int))⟩∧g.length≤4∧∀t,t∈g→t≤255:=by
 have h:=List.all_eq_true.1 (List.all_eq_true.1 AAC n (List.mem_range.2 hn)) i (List.mem_range.2 hi)
 unfold ABN at h
 rw[List.any_eq_true]at h
 obtain⟨g,hg,e⟩:=h
 have hs:=List.all_eq_true.1 AwV g hg
 rw[Bool.and_eq_true,decide_eq_true_eq,List.all_eq_true]at hs
 refine⟨g,?_,by simpa using e,hs.1,fun t ht=>by simpa using hs.2 t ht⟩
 unfold Azw
 rcases List.mem_append.1 hg with h | h
 ·exact .inl h
 ·exact .inr (List.mem_append.1 h)
theorem Af3 (l:List Nat):(bare (Qo l)).flatMap AqR=Qo (enN l):=by
 induction l with
 | nil=>rfl
 | cons a l ih=>
  have:bare (Qo (a::l))=⟨(a:Int),[]⟩::bare (Qo l):=rfl
  rw[this,List.flatMap_cons,ih]
  rfl
theorem ArL {l:List Ext} (h:BX l=true):(Dq l).1=(l.length:Int)::l.flatMap AqR:=by
 unfold Dq
 rw[if_pos h]
 unfold Lj
 rw[List.take_length]
theorem AlI (a:List Nat):(Qo a).length=a.length:=List.length_map ..
theorem Ake {x:Hello} {ts tags:List Int} {b:Int} {n i:Nat} (hx:AP x=true) (hv:VIn b x.versions) (hb:b=4∨b=5) (ht:Acd ts 3) (hn:n<55) (hi:i<5)
 (he:AzT ts (16*(n:Int)+(i:Int)) x.exts):Ta 77 tags x:=by
 intro v hvx
 have hva:=SX hx
 obtain⟨vs,hvs,ev⟩:=Ate hb hv (by intro h0;rw[h0]at hvx;cases hvx)
 obtain⟨A,B,ge,ee,hs,hg⟩:=he
 have hfit:=Aj6 (tags:=tags) hx hvx
 have hC:∃C,Hf (Eo x.exts tags)=bare C∧C.Sublist (A++B):=by
  rw[ee]
  unfold Hf Eo
  rw[Sj,Sj,Sj,Sj,O6,O6,O6,O6]
  have hge:kept (fun t=> !Aq t) (kept (fun t=>decide (t∈tags)) ge)=[]:=by
   rcases hg with rfl | rfl
   ·rfl
   ·unfold kept
    refine List.filter_eq_nil_iff.2 fun y hy=> ?_
    have:=(List.mem_filter.1 hy).1
    simp at this
    subst this
    simp[AqA]
  rw[hge]
  refine⟨((A.filter fun t=>decide (t∈tags)).filter fun t=> !Aq t)++((B.filter fun t=>decide (t∈tags)).filter fun t=> !Aq t),by simp[bare],?_⟩
  exact List.Sublist.append (List.filter_sublist.trans List.filter_sublist) (List.filter_sublist.trans List.filter_sublist)
 obtain⟨C,hC,hCs⟩:=hC
 obtain⟨s,hss,es⟩:=Akw ht (hCs.trans hs)
 obtain⟨A',B',eA,eB,hab,habs⟩:=Apc ht hs
 have hsm:=List.all_eq_true.1 Akf s hss
 rw[Bool.and_eq_true,decide_eq_true_eq,List.all_eq_true]at hsm
 have habm:=List.all_eq_true.1 Akf _ habs
 rw[Bool.and_eq_true,decide_eq_true_eq,List.all_eq_true]at habm
 have hvm:=List.all_eq_true.1 ApL _ hvs
 rw[Bool.and_eq_true,decide_eq_true_eq,List.all_eq_true]at hvm
 rw[hC]
 have hans:∃v':Nat,v'∈[1,2,3,4,5]∧Au ⟨v,bare C⟩=Qo (AsY v' s):=by
  obtain⟨v',hv',rfl⟩:∃v':Nat,v'∈vs∧v=(v':Int):=by
   rw[ev]at hvx
   obtain⟨v',h1,h2⟩:=List.mem_map.1 hvx
   exact⟨v',h1,h2.symm⟩
  have h5:=hvm.2 v' hv'
  rw[decide_eq_true_eq]at h5
  have h1:=MX hva _ hvx
  refine⟨v',by simp;unfold InV at h1;omega,?_⟩
  rw[hC]at hfit
  unfold Cy at hfit
  simp only[Bool.and_eq_true]at hfit
  have ha:=hfit.2.1
  unfold Au
  rw[if_pos ha]
  unfold Gp at ha
  rw[Bool.and_eq_true]at ha
  rw[ArL ha.2,es,Af3,F7,AlI]
  rfl
 obtain⟨v',hv5,ea⟩:=hans
 rw[ea]
 have hhb:∃g k,AJ x=Qo (hbN vs A' g B' k)∧(g=[]∧k=A'.length+B'.length∨Azw g∧k=A'.length+B'.length+1)∧g.length≤4∧∀t,t∈g→t≤255:=by
  have eh:AJ x=(x.versions.length:Int)::(x.versions++(x.exts.length:Int)::x.exts.flatMap AqR):=by
   unfold AJ
   rw[if_pos hx,ArL (Ab5 hx)]
   rfl
  rcases hg with hg | hg
  ·refine⟨[],A'.length+B'.length,?_,.inl ⟨rfl,rfl⟩,by simp,by simp⟩
   rw[eh,ev,ee,hg,eA,eB]
   simp only[List.nil_append,List.flatMap_append,Af3,List.length_append,F7,AlI,hbN]
   simp only[Qo,List.map_cons,List.map_append]
  ·obtain⟨g,hgr,eg,hgl,hgs⟩:=ACN hn hi
   refine⟨g,A'.length+B'.length+1,?_,.inr ⟨hgr,rfl⟩,hgl,hgs⟩
   rw[eh,ev,ee,hg,eA,eB]
   have:((A'.length+(1+B'.length):Nat):Int)=((A'.length+B'.length+1:Nat):Int):=by omega
   simp only[List.flatMap_append,List.flatMap_cons,List.flatMap_nil,List.append_nil,Af3,List.length_append,List.length_cons,List.length_nil,Nat.zero_add,F7,AlI,hbN,this,←eg]
   simp only[Qo,List.map_cons,List.map_append]
 obtain⟨g,k,eh,hgk,hgl,hgs⟩:=hhb
 rw[eh]
 have hk:k≤4:=by
  have:=habm.1
  rw[List.length_append]at this
  rcases hgk with⟨_,h⟩ | ⟨_,h⟩<;>omega
 refine ADf ?_ ?_ rfl hv5 hss (fun t ht=>by simpa using hsm.2 t ht) hsm.1 (ABU hvs hab hgk)
 ·intro y hy
  unfold hbN enN at hy
  rcases List.mem_cons.1 hy with rfl | hy
  ·have:=hvm.1;omega
  rcases List.mem_append.1 hy with hy | hy
  ·have:=hvm.2 y hy
   rw[decide_eq_true_eq]at this
   omega
  rcases List.mem_cons.1 hy with rfl | hy
  ·omega
  rcases List.mem_append.1 hy with hy | hy
  ·obtain⟨t,ht,hy⟩:=List.mem_flatMap.1 hy
   have:=habm.2 t (List.mem_append_left _ ht)
   rw[decide_eq_true_eq]at this
   simp at hy
   omega
  rcases List.mem_append.1 hy with hy | hy
  ·exact hgs y hy
  ·obtain⟨t,ht,hy⟩:=List.mem_flatMap.1 hy
   have:=habm.2 t (List.mem_append_right _ ht)
   rw[decide_eq_true_eq]at this
   simp at hy
   omega
 ·have h1:=habm.1
  have h2:=hvm.1
  rw[List.length_append]at h1
  unfold hbN
  simp only[List.length_cons,List.length_append,ZG]
  omega
theorem Xx {e:Ai} (h:Aj e=true):Ar e.versions=true∧EO e.tags=true∧e.tags.any Aq=false∧e.path.length≤4∧∀b,b∈e.path→ET b=true:=by
 unfold Aj at h
 simp only[Bool.and_eq_true,decide_eq_true_eq,Bool.not_eq_true',List.all_eq_true]at h
 exact⟨h.1,h.2.2.1,h.2.2.2.1,h.2.2.2.2.1,h.2.2.2.2.2.1⟩
theorem AwN {e:Ai} (h:Aj e=true) (hu:Up e.tags) (hr:∀t,t∈e.tags→0≤t∧t≤255) (seed:Int):Dt e seed=⟨e.versions,BQ (bare e.tags) seed⟩∧AP (Dt e seed)=true:=by
 have e1:Dt e seed=⟨e.versions,BQ (bare e.tags) seed⟩:=by unfold Dt;rw[if_pos h]
 refine⟨e1,?_⟩
 rw[e1]
 unfold AP
 rw[(Xx h).1,Bool.true_and]
 have hb:BX (bare e.tags)=true:=by
  rw[Aay]
  refine⟨⟨fun x hx=> ?_,?_⟩,?_⟩
  ·obtain⟨t,ht,rfl⟩:=List.mem_map.1 hx
   have:=hr t ht
   unfold O9
   simp only[Bool.and_eq_true,decide_eq_true_eq]
   exact⟨⟨by omega,by omega⟩,by simp,by rfl⟩
  ·unfold bare
   rw[List.pairwise_map]
   exact List.Pairwise.imp (fun h=>by dsimp only;omega) hu
  ·have:=Qj h
   rw[F7];omega
 unfold BQ
 split
 ·rename_i hc
  simp only[Bool.and_eq_true,decide_eq_true_eq,Bool.not_eq_true',decide_eq_false_iff_not]at hc
  have h1:=Aay.1 hb
  have hp:((bare e.tags).take (WE (bare e.tags) seed)++⟨DU seed,QI seed⟩::(bare e.tags).drop (WE (bare e.tags) seed)).Perm (⟨DU seed,QI seed⟩::bare e.tags):=by
   have:=List.perm_middle (a:=(⟨DU seed,QI seed⟩:Ext)) (l₁:=(bare e.tags).take (WE (bare e.tags) seed)) (l₂:=(bare e.tags).drop (WE (bare e.tags) seed))
   rwa [List.take_append_drop]at this
  have p0:=Lb seed 0 (n:=16) ⟨by omega,by omega⟩
  have p3:=Lb seed 3 (n:=256) ⟨by omega,by omega⟩
  rw[Aay]
  refine⟨⟨fun x hx=> ?_,?_⟩,?_⟩
  ·rcases List.mem_cons.1 (hp.subset hx)with rfl | hx
   ·unfold O9
    simp only[Bool.and_eq_true,decide_eq_true_eq]
    refine⟨?_,?_,?_⟩
    ·unfold DU
     exact⟨by omega,by omega⟩
    ·have:=AfG seed
     omega
    ·refine Sd fun y hy=> ?_
     have:=List.eq_of_mem_replicate hy
     omega
   ·exact h1.1.1 x hx
  ·refine(hp.pairwise_iff (fun h=>Ne.symm h)).2 (List.pairwise_cons.2 ⟨fun y hy hn=>hc.2.2 ?_,h1.1.2⟩)
   exact List.mem_map.2 ⟨y,hy,hn.symm⟩
  ·have:=hp.length_eq
   have:=hc.2.1
   simp at *
   omega
 ·exact hb
structure VG (b:Int) (e:Ai):Prop where
 ok:Aj e=true
 vers:VIn b e.versions
 tags:Acd e.tags 3
theorem Aqb {b:Int} {e:Ai} {s tags:List Int} {n i:Nat} (h:VG b e) (hb:b=4∨b=5) (hn:n<55) (hi:i<5):
 ∃t,(GA e s tags 77 (16*(n:Int)+(i:Int))).deal=(if IW e s=0 then D8 else⟨true,IW e s,t⟩):=by
 obtain⟨h1,h2,h3⟩:=h
 have hp:=Xx h1
 obtain⟨eh,hh⟩:=AwN h1 h3.1 (fun t ht=>(ABY (h3.2.1 t ht)).1) (16*(n:Int)+(i:Int))
 have hex:=AsU e.tags (16*(n:Int)+(i:Int))
 have n1:Ta 77 tags (Dt e (16*(n:Int)+(i:Int))):=Ake hh (by rw[eh];exact h2) hb h3 hn hi (by rw[eh];exact hex)
 have n2:AP (fallback (Dt e (16*(n:Int)+(i:Int))) e.path).1=true→Ta 77 tags (fallback (Dt e (16*(n:Int)+(i:Int))) e.path).1:=by
  intro hf
  by_cases hl:leftOf (Dt e (16*(n:Int)+(i:Int))).versions (Ak e.path (Dt e (16*(n:Int)+(i:Int))).versions)=[]
  ·exfalso
   unfold fallback DL at hf
   rw[if_neg (by simp[hl])]at hf
   exact absurd hf (by decide)
  ·obtain⟨f1,f2,f3,f4,p,f5⟩:=AeX hh hl hp.2.2.2.1
   refine Ake hf (by rw[f3,eh];exact ABa h2 (Am7 _ _)) hb h3 hn hi ?_
   rw[f5,eh]
   exact AzK hex p
 obtain⟨p,hd⟩:=Aty (s:=s) hh hp.2.2.2.1 n1 n2
 refine⟨Ao (Hf (Eo (kept p (Dt e (16*(n:Int)+(i:Int))).exts) tags)),?_⟩
 unfold GA IW
 rw[if_pos h1,if_pos h1,hd,eh]
theorem As2 {b:Int} {w:World} {n i:Nat} (hi:i<w.ends.length) (h:VG b w.ends[i]) (hb:b=4∨b=5) (hk:w.key=77) (hw:w.now=(n:Int)) (hn:n<55) (hl:w.ends.length≤5):
 ∃t,(Hl w (i:Int)).deal=(if E8 w (i:Int)=0 then D8 else⟨true,E8 w (i:Int),t⟩):=by
 obtain⟨t,ht⟩:=Aqb (s:=w.server) (tags:=w.tags) h hb hn (show i<5 by omega)
 refine⟨t,?_⟩
 have hq:Qt (i:Int) 0 ((w.ends.length:Int)-1):=⟨by omega,by omega⟩
 have e1:Hl w (i:Int)=GA w.ends[i] w.server w.tags 77 (16*(n:Int)+(i:Int)):=by
  unfold Hl
  rw[if_pos hq]
  have:clip w.now=(n:Int):=by rw[hw];unfold clip;omega
  simp[hi,hk,this]
 have e2:E8 w (i:Int)=IW w.ends[i] w.server:=by
  unfold E8
  rw[if_pos hq]
  simp[hi]
 rw[e1,e2,ht]
end Go.Eng.T
namespace Go.Eng.T
set_option maxRecDepth 20000
set_option maxHeartbeats 2000000
structure W33 (w:World):Prop where
 sz:Bo w≤8000
 key:w.key=77
 now:0≤w.now∧w.now≤8
 few:w.ends.length≤5
 ver:w.rollout.version=4∨w.rollout.version=5
 ends:∀e,e∈w.ends→VG w.rollout.version e
theorem AzN {b:Int} {e:Ai} (h:AwF e):VG b e:=by
 obtain⟨h1,_,y,hy,hv⟩:=h
 refine⟨Ayp h1,?_,h1.tags⟩
 rw[hv]
 refine⟨(R5 hy).1.1,2+y,by omega,fun x hx=> ?_⟩
 rcases(KT _ _ _).1 hx with hx | rfl
 ·simp at hx;exact .inl hx
 ·exact .inr (.inl rfl)
end Go.Eng.T
namespace Go.Eng.T
set_option maxRecDepth 20000
set_option maxHeartbeats 4000000
theorem ANd {h seen:Hello} {vs tags:List Int} {key:Int} (hk:(TR h seen vs tags key).ok=true):
 (TR h seen vs tags key).tags.any Aq=false∧Ov (TR h seen vs tags key).version 1 9:=by
 unfold TR at hk⊢
 split at hk
 ·rename_i hc
  rw[if_pos hc]
  simp only[Bool.and_eq_true]at hc
  have hf:=hc.2.1
  unfold Cy Gp at hf
  simp only[Bool.and_eq_true,decide_eq_true_eq]at hf
  refine⟨?_,hf.2.1.1⟩
  have h1:=hc.1
  unfold AU at h1⊢
  split at h1
  ·rename_i hc2
   rw[if_pos hc2]
   rw[List.any_eq_false]
   intro t ht
   obtain⟨x,hx,rfl⟩:=List.mem_map.1 ht
   have:=(List.mem_filter.1 hx).2
   simpa using this
  ·cases h1
 ·cases hk
theorem ANa {h:Hello} {path:List EK} {vs tags:List Int} {key:Int} (hk:(AdV h path vs tags key).deal.ok=true):
 (AdV h path vs tags key).deal.tags.any Aq=false∧Ov (AdV h path vs tags key).deal.version 1 9:=by
 unfold AdV at hk⊢
 split at hk
 ·rename_i hc
  rw[if_pos hc]
  dsimp only at hk⊢
  unfold Ns at hk⊢
  split at hk
  ·rename_i hc2
   rw[if_pos hc2]
   exact ANd hk
  ·cases hk
 ·cases hk
theorem ALK (w:World) (i:Int) {l:DW} (h:l.dialed=Hl w i):AG6 l=false:=by
 unfold AG6
 rw[h]
 by_cases hk:(Hl w i).deal.ok=true
 ·have:(Hl w i).deal.tags.any Aq=false∧Ov (Hl w i).deal.version 1 9:=by
   unfold Hl at hk⊢
   split at hk
   ·rename_i hc
    rw[if_pos hc]
    split at hk
    ·rename_i e he
     unfold GA at hk⊢
     split at hk
     ·rename_i hc2
      rw[if_pos hc2]
      exact ANa hk
     ·cases hk
    ·cases hk
   ·cases hk
  rw[this.1,decide_eq_true this.2]
  simp
 ·rw[show(Hl w i).deal.ok=false by simpa using hk]
  rfl
def AOK (r:EP) (n:Nat) (s:Int) (i:Int):Prop:=∃k:Nat,(k:Int)<s∧0≤i∧i<countIn (ACn (AHe r) k) n
structure AGi (m:Nat) (w:World):Prop where
 ok:D5 w=true
 key:w.key=77
 now:0≤w.now∧w.now≤3*m
 few:w.ends.length≤5
 ver:w.rollout.version=4∨w.rollout.version=5
 ends:∀e,e∈w.ends→VIn w.rollout.version e.versions∧Acd e.tags 3
 cnt:w.hurt=cntF (AFX w) w.log
 sober:∀l,l∈w.log→AG6 l=false
 on:∀l,l∈w.log→l.on=true→AOK w.rollout w.ends.length w.reached l.fin
 pos:0<w.reached→w.rollout.off=false→w.rollout.pos<w.reached
 start:w.reached≤0→∀e,e∈w.ends→¬w.rollout.version∈e.versions
theorem AOW {m:Nat} {w:World} (h:AGi m w) {e:Ai} (he:e∈w.ends):VG w.rollout.version e:=
 ⟨(Aye.1 h.ok).ends e he,(h.ends e he).1,(h.ends e he).2⟩
theorem AMN {m:Nat} {w:World} (h:AGi m w) (hm:m≤18) {j:Nat} (hj:j<w.ends.length):
 ∃t,(Hl w (j:Int)).deal=(if E8 w (j:Int)=0 then D8 else⟨true,E8 w (j:Int),t⟩):=by
 have hn:=h.now
 obtain⟨n,hw⟩:∃n:Nat,w.now=(n:Int):=⟨w.now.toNat,by omega⟩
 exact As2 hj (AOW h (List.getElem_mem hj)) h.ver h.key hw (by omega) h.few
theorem AJb {m m':Nat} {w w':World} (h:AGi m w) (hok:D5 w' =true) (hkey:w'.key=w.key) (hnow:0≤w'.now∧w'.now≤3*m') (hl:w'.ends.length=w.ends.length)
 (hver:w'.rollout.version=w.rollout.version) (hst:w'.rollout.stages=w.rollout.stages) (hends:∀e,e∈w'.ends→VIn w.rollout.version e.versions∧Acd e.tags 3)
 (hlog:w'.log=w.log) (hhurt:w'.hurt=w.hurt) (hrch:w.reached≤w'.reached) (hpos:0<w'.reached→w'.rollout.off=false→w'.rollout.pos<w'.reached)
 (hstart:w'.reached≤0→∀e,e∈w'.ends→¬w.rollout.version∈e.versions):AGi m' w':=by
 refine⟨hok,by rw[hkey];exact h.key,hnow,by rw[hl];exact h.few,by rw[hver];exact h.ver,by rw[hver];exact hends,?_,by rw[hlog];exact h.sober,?_,hpos,by rw[hver];exact hstart⟩
 ·rw[hhurt,hlog,h.cnt]
  have:AFX w' =AFX w:=by funext l;unfold AFX;rw[hver]
  rw[this]
 ·rw[hlog]
  intro l hlm hon
  obtain⟨k,hk,h0,h1⟩:=h.on l hlm hon
  refine⟨k,by omega,h0,?_⟩
  have:ACn (AHe w'.rollout) k=ACn (AHe w.rollout) k:=by unfold ACn AHe;rw[hver,hst]
  rw[this,hl]
  exact h1
theorem AGc {m m':Nat} {w:World} (h:AGi m w) (hm:m≤m'):AGi m' w:=
 ⟨h.ok,h.key,by have:=h.now;omega,h.few,h.ver,h.ends,h.cnt,h.sober,h.on,h.pos,h.start⟩
theorem ALB {w:World} {b:Int} (hb:w.rollout.version=b) (h:∀e,e∈w.ends→VIn b e.versions∧Acd e.tags 3):∀e,e∈(enter w).ends→VIn b e.versions∧Acd e.tags 3:=by
 unfold enter
 split
 ·intro e he
  obtain⟨i,hi,rfl⟩:=List.mem_mapIdx.1 he
  have:=h _ (List.getElem_mem hi)
  unfold AwM
  split
  ·rw[hb]
   exact⟨AAc this.1,this.2⟩
  ·exact this
 ·exact h
theorem AOb {w:World} {b:Int} (h:∀e,e∈w.ends→VIn b e.versions∧Acd e.tags 3):∀e,e∈(leave w).ends→VIn b e.versions∧Acd e.tags 3:=by
 intro e he
 obtain⟨x,hx,rfl⟩:=List.mem_map.1 he
 have:=h x hx
 unfold Aw8
 split
 ·exact⟨ABa this.1 List.filter_sublist,this.2⟩
 ·exact this
theorem AGO {w:World} (h:D5 w=true):Br w.rollout=true:=by
 have:=(Aye.1 h).b
 unfold Lx at this
 simp only[Bool.and_eq_true]at this
 exact this.1
theorem AII {w:World} (h:D5 w=true):0≤w.reached∧w.reached≤w.rollout.stages.length:=by
 have:=(Aye.1 h).c
 unfold JD at this
 simp only[Bool.and_eq_true,decide_eq_true_eq]at this
 exact this.2.2.2.2
theorem ALW {m:Nat} {w:World} (h:AGi m w) (i:Int):AGi m (ADH w i).1:=by
 have hok:=AH6 (i:=i) h.ok
 unfold ADH at hok⊢
 split
 ·rename_i hm
  rw[if_pos hm]at hok
  dsimp only at hok⊢
  have hh:=ANH h.ok
  have hcl:(cntF (AFX w) w.log:Int)≤60:=by
   have:cntF (AFX w) w.log≤w.log.length:=List.length_filter_le _ _
   omega
  have hc:=h.cnt
  refine⟨hok,h.key,h.now,h.few,h.ver,h.ends,?_,?_,?_,h.pos,h.start⟩
  ·show(if(QM w i&&SE w.rollout.version (Hl w i))=true then IntKind.i64.wrap (w.hurt+1)else w.hurt)=(cntF (AFX w) (w.log++ [⟨i,w.now,QM w i,Hl w i⟩]):Nat)
   have e:cntF (AFX w) (w.log++ [⟨i,w.now,QM w i,Hl w i⟩])=cntF (AFX w) w.log+(if(QM w i&&SE w.rollout.version (Hl w i))=true then 1 else 0):=by
    unfold cntF
    rw[List.filter_append,List.length_append]
    congr 1
    simp only[List.filter_cons,List.filter_nil]
    unfold AFX
    dsimp only
    split<;>simp
   rw[e]
   split
   ·rw[Ac (by omega) (by omega)]
    omega
   ·omega
  ·intro l hl
   rcases List.mem_append.1 hl with hl | hl
   ·exact h.sober l hl
   ·simp at hl
    subst hl
    exact ALK w i rfl
  ·intro l hl hon
   rcases List.mem_append.1 hl with hl | hl
   ·exact h.on l hl hon
   ·simp at hl
    subst hl
    dsimp only at hon⊢
    show AOK w.rollout w.ends.length w.reached i
    unfold QM at hon
    simp only[Bool.and_eq_true,decide_eq_true_eq]at hon
    obtain⟨⟨hq,hin⟩,hv⟩:=hon
    have hr:0<w.reached:=by
     by_cases h0:w.reached≤0
     ·exfalso
      split at hv
      ·rename_i e he
       exact h.start h0 e (List.mem_of_getElem? he) (by simpa using hv)
      ·cases hv
     ·omega
    unfold isIn at hin
    simp only[Bool.and_eq_true,decide_eq_true_eq]at hin
    obtain⟨⟨h1,h2⟩,h3⟩:=hin
    have hoff:w.rollout.off=false:=by
     by_cases g:w.rollout.off=false
     ·exact g
     ·exfalso
      unfold countIn at h3
      rw[if_neg (fun hc=>g hc.2.1)]at h3
      omega
    have hp:=h.pos hr hoff
    have hf:=(AHN (AGO h.ok)).2.1
    refine⟨w.rollout.pos.toNat,by omega,h1,?_⟩
    have:ACn (AHe w.rollout) w.rollout.pos.toNat=w.rollout:=by
     unfold ACn AHe
     have:((w.rollout.pos.toNat:Nat):Int)=w.rollout.pos:=by omega
     rw[this,←hoff]
    rw[this]
    exact h3
 ·exact h
theorem AN6 {m:Nat} {w:World} (h:AGi m w):AGi m (AEj w).1:=by
 have hok:=AHY h.ok
 have hf:=(AHN (AGO h.ok)).2.1
 unfold AEj at hok⊢
 split
 ·rename_i hc
  rw[if_pos hc]at hok
  simp only[Bool.and_eq_true]at hc
  dsimp only at hok⊢
  have he:=ALB rfl h.ends
  unfold enter at hok he⊢
  rw[if_pos hc.2]at hok he⊢
  exact AJb h hok rfl h.now (by simp) rfl rfl he rfl rfl (by dsimp only;omega) (fun _ _=>by dsimp only;omega) (fun h0=>by exfalso;dsimp only at h0;omega)
 ·exact h
theorem AN1 {m:Nat} {w:World} (h:AGi m w):AGi m (ACJ w).1:=by
 have hok:=AHX h.ok
 have hf:=(AHN (AGO h.ok)).2.1
 have hrr:=AII h.ok
 unfold ACJ at hok⊢
 by_cases h0:w.reached=0
 ·rw[if_pos h0];exact h
 rw[if_neg h0]at hok⊢
 by_cases h1:SB w=1
 ·rw[if_pos h1]at hok⊢
  by_cases h2:(AmJ w.rollout).2=true
  ·rw[if_pos h2]at hok⊢
   dsimp only at hok⊢
   have hnr:=ALv h2
   have hcn:AHs w.rollout=true:=by
    unfold AmJ at h2
    split at h2
    ·assumption
    ·cases h2
   have e:(AmJ w.rollout).1=⟨w.rollout.version,w.rollout.stages,w.rollout.pos+1,w.rollout.off⟩:=by unfold AmJ;rw[if_pos hcn]
   rw[e]at hok hnr⊢
   unfold AHs at hcn
   simp only[Bool.and_eq_true]at hcn
   have hce:Ax5 (AEm w ⟨w.rollout.version,w.rollout.stages,w.rollout.pos+1,w.rollout.off⟩)=true:=by
    unfold Ax5 AEm
    dsimp only
    rw[hnr,hcn.2.1]
    rfl
   have he:=ALB (w:=AEm w ⟨w.rollout.version,w.rollout.stages,w.rollout.pos+1,w.rollout.off⟩) (b:=w.rollout.version) rfl h.ends
   unfold enter at hok he⊢
   rw[if_pos hce]at hok he⊢
   refine AJb h hok rfl h.now (by simp[AEm]) rfl rfl he rfl rfl ?_ (fun _ _=> ?_) (fun h0'=> ?_)
   ·show w.reached≤max w.reached (w.rollout.pos+1+1)
    omega
   ·show w.rollout.pos+1<max w.reached (w.rollout.pos+1+1)
    omega
   ·exfalso
    have:max w.reached (w.rollout.pos+1+1)≤0:=h0'
    omega
  ·rw[if_neg h2]at hok⊢
   exact h
 rw[if_neg h1]at hok⊢
 by_cases h2:SB w=2
 ·rw[if_pos h2]at hok⊢
  by_cases h3:(ArC w.rollout).2=true
  ·rw[if_pos h3]at hok⊢
   dsimp only at hok⊢
   have hcb:AIq w.rollout=true:=by
    unfold ArC at h3
    split at h3
    ·assumption
    ·cases h3
   have e:(ArC w.rollout).1=⟨w.rollout.version,w.rollout.stages,0,true⟩:=by unfold ArC;rw[if_pos hcb]
   rw[e]at hok⊢
   have he:=AOb (w:=AEm w ⟨w.rollout.version,w.rollout.stages,0,true⟩) (b:=w.rollout.version) h.ends
   refine AJb h hok rfl h.now (by simp[leave,AEm]) rfl rfl he rfl rfl ?_ (fun _ h=> ?_) (fun h0'=> ?_)
   ·show w.reached≤w.reached
    omega
   ·cases h
   ·exfalso
    have:w.reached≤0:=h0'
    omega
  ·rw[if_neg h3]at hok⊢
   exact h
 ·rw[if_neg h2]at hok⊢
  exact h
theorem AIa {m m':Nat} {w w':World} (h:AGi m w) (hok:D5 w' =true) (hkey:w'.key=w.key) (hnow:0≤w'.now∧w'.now≤3*m') (hl:w'.ends.length=w.ends.length)
 (hro:w'.rollout=w.rollout) (hends:∀e,e∈w'.ends→∃x,x∈w.ends∧e.versions=x.versions∧e.tags=x.tags) (hlog:w'.log=w.log) (hhurt:w'.hurt=w.hurt) (hrch:w'.reached=w.reached):AGi m' w':=by
 refine AJb h hok hkey hnow hl (by rw[hro]) (by rw[hro]) (fun e he=> ?_) hlog hhurt (by omega) (by rw[hrch,hro];exact h.pos) (fun h0 e he=> ?_)
 ·obtain⟨x,hx,e1,e2⟩:=hends e he
  rw[e1,e2]
  exact h.ends x hx
 ·obtain⟨x,hx,e1,e2⟩:=hends e he
  rw[e1]
  exact h.start (by omega) x hx
theorem AMO {l:List Ai} {j:Nat} {y:Ai} (hj:j<l.length) (hv:y.versions=l[j].versions) (ht:y.tags=l[j].tags):∀e,e∈l.set j y→∃x,x∈l∧e.versions=x.versions∧e.tags=x.tags:=by
 intro e he
 rcases List.mem_or_eq_of_mem_set he with he | rfl
 ·exact⟨e,he,rfl,rfl⟩
 ·exact⟨l[j],List.getElem_mem hj,hv,ht⟩
theorem top_apply {m:Nat} {w:World} {e:Event} (h:AGi m w) (he:ALV e):AGi (m+1) (Ah0 w e).1:=by
 have hok:=AMJ (e:=e) h.ok
 have hnow:0≤w.now∧w.now≤3*((m+1:Nat):Int):=by have:=h.now;omega
 have self:∀l:List Ai,∀e,e∈l→∃x,x∈l∧e.versions=x.versions∧e.tags=x.tags:=fun l e he=>⟨e,he,rfl,rfl⟩
 unfold Ah0 at hok⊢
 split
 ·exact AGc (ALW h _) (by omega)
 rename_i g1
 rw[if_neg g1]at hok
 split
 ·exact AGc (AN6 h) (by omega)
 rename_i g2
 rw[if_neg g2]at hok
 split
 ·exact AGc (AN1 h) (by omega)
 rename_i g3
 rw[if_neg g3]at hok
 split
 ·rename_i g4
  rw[if_pos g4]at hok
  unfold Awn at hok⊢
  split
  ·rename_i hc
   rw[if_pos hc]at hok
   exact AIa h hok rfl hnow rfl rfl (self _) rfl rfl rfl
  ·exact AGc h (by omega)
 rename_i g4
 rw[if_neg g4]at hok
 split
 ·rename_i g5
  rw[if_pos g5]at hok
  exact AIa h hok rfl hnow rfl rfl (self _) rfl rfl rfl
 rename_i g5
 rw[if_neg g5]at hok
 split
 ·rename_i g6
  rw[if_pos g6]at hok
  unfold AF0 at hok⊢
  split
  ·rename_i h0
   rw[if_pos h0]at hok
   split
   ·rename_i x hx
    rw[hx]at hok
    dsimp only at hok
    obtain⟨hj,rfl⟩:=List.getElem?_eq_some_iff.1 hx
    split
    ·rename_i hc
     rw[if_pos hc]at hok
     exact AIa h hok rfl hnow (by simp) rfl (AMO hj rfl rfl) rfl rfl rfl
    ·exact AGc h (by omega)
   ·exact AGc h (by omega)
  ·exact AGc h (by omega)
 rename_i g6
 rw[if_neg g6]at hok
 split
 ·rename_i g7
  rw[if_pos g7]at hok
  unfold AFB at hok⊢
  split
  ·rename_i h0
   rw[if_pos h0]at hok
   split
   ·rename_i x hx
    rw[hx]at hok
    dsimp only at hok
    split
    ·exact AGc h (by omega)
    ·rename_i hc
     rw[if_neg hc]at hok
     unfold AIf at hok⊢
     rw[hx]at hok⊢
     dsimp only at hok⊢
     obtain⟨hj,rfl⟩:=List.getElem?_eq_some_iff.1 hx
     exact AIa h hok rfl hnow (by simp) rfl (AMO hj rfl rfl) rfl rfl rfl
   ·exact AGc h (by omega)
  ·exact AGc h (by omega)
 rename_i g7
 rw[if_neg g7]at hok
 split
 ·rename_i g8
  rw[if_pos g8]at hok
  have hn3:=he.2.2.2.1.2 g8
  unfold AFM at hok⊢
  split
  ·rename_i hc
   rw[if_pos hc]at hok
   have:=hc.1.1
   exact AIa h hok rfl (by have:=h.now;dsimp only;omega) rfl rfl (self _) rfl rfl rfl
  ·exact AGc h (by omega)
 ·exact AGc h (by omega)
theorem AN2 {p:World×List Event} (h:APr p):AGi 0 p.1:=by
 obtain⟨w,y,hw,e⟩:=h.first
 have hok:=h.ok
 rw[e]at hok⊢
 have hnew:∀x,x∈w.ends→¬w.rollout.version∈x.versions:=by
  intro x hx hm
  obtain⟨_,_,z,hz,hv⟩:=hw.eok x hx
  rw[hv]at hm
  have hver:=hw.ver
  rcases(KT _ _ _).1 hm with hm | hm
  ·simp at hm
   omega
  ·omega
 refine⟨hok,hw.key.1,?_,hw.few,hw.ver,fun x hx=> ?_,?_,?_,?_,?_,fun _=>hnew⟩
 ·show 0≤w.now∧w.now≤_
  rw[hw.start.1]
  simp
 ·have:=AzN (b:=w.rollout.version) (hw.eok x hx)
  exact⟨this.vers,this.tags⟩
 ·show w.hurt=(cntF (AFX w) w.log:Nat)
  rw[hw.start.2,hw.nolog]
  rfl
 ·show∀l,l∈w.log→_
  rw[hw.nolog]
  simp
 ·show∀l,l∈w.log→_
  rw[hw.nolog]
  simp
 ·show 0<w.reached→_
  rw[hw.key.2]
  intro h
  omega
theorem ANG (r:EP) (n:Int):∀m:Nat,0≤AC3 r n m
 | 0=>Int.le_refl 0
 | m+1=>by have:=ANG r n m;unfold AC3;omega
theorem ANz (r:EP) (n:Int):∀ {m k:Nat},k<m→countIn (ACn r k) n≤AC3 r n m
 | m+1,k,h=>by
  unfold AC3
  by_cases e:k=m
  ·subst e;omega
  ·have:=ANz r n (m:=m) (k:=k) (by omega)
   omega
theorem AOt:∀ {l:List Int} {a m:Int},Up l→(∀x,x∈l→a≤x∧x<m)→a≤m→(l.length:Int)≤m-a
 | [],a,m,_,_,h=>by simp;omega
 | x::r,a,m,hu,hx,h=>by
  rw[Up,List.pairwise_cons]at hu
  have h0:=hx x (by simp)
  have:=AOt (l:=r) (a:=x+1) (m:=m) hu.2 (fun y hy=>by have:=hu.1 y hy;have:=hx y (by simp[hy]);omega) (by omega)
  simp only[List.length_cons]
  omega
theorem AMi {m:Nat} {w:World} (h:AGi m w):AHc w=true:=by
 have hr:=AII h.ok
 have hw:=AGO h.ok
 have hin:∀x,x∈AGC w→AOK w.rollout w.ends.length w.reached x:=by
  intro x hx
  unfold AGC at hx
  rcases(Aqu _ _ _).1 hx with hx | hx
  ·cases hx
  ·unfold AHj at hx
   obtain⟨l,hl,rfl⟩:=List.mem_map.1 hx
   obtain⟨hl1,hl2⟩:=List.mem_filter.1 hl
   unfold AFX at hl2
   rw[Bool.and_eq_true]at hl2
   exact h.on l hl1 hl2.1
 have hup:Up (AGC w):=At9 List.Pairwise.nil
 unfold AHc AGB
 rw[decide_eq_true_eq]
 by_cases h0:w.reached=0
 ·have:AGC w=[]:=by
   cases e:AGC w with
   | nil=>rfl
   | cons x r=>
    obtain⟨k,hk,_⟩:=hin x (by rw[e];simp)
    omega
  rw[this,if_neg (fun hc=>by have:=hc.2.1;omega)]
  exact Int.le_refl _
 ·have hro:Br (AHe w.rollout)=true:=hw
  rw[if_pos ⟨hro,⟨by omega,hr.2⟩⟩]
  have:=AOt (a:=0) (m:=AC3 (AHe w.rollout) w.ends.length w.reached.toNat) hup (fun x hx=>by
   obtain⟨k,hk,h1,h2⟩:=hin x hx
   have:=ANz (AHe w.rollout) (w.ends.length:Int) (m:=w.reached.toNat) (k:=k) (by omega)
   exact⟨h1,by omega⟩) (ANG _ _ _)
  omega
theorem ANt {path:List EK} {vs:List Int} (hc:AF1 path=true) (hv:Ar vs=true):leftOf vs (Ak path vs)=vs:=by
 unfold AF1 at hc
 simp only[Bool.and_eq_true,decide_eq_true_eq,List.all_eq_true]at hc
 rw[Akb hv]
 refine List.filter_eq_self.2 fun v hvm=> ?_
 unfold GR
 rw[Bool.not_not]
 have hone:AP ⟨[v],[]⟩=true:=by unfold AP;rw[AnA hv hvm,Ar7];rfl
 refine Aa1.2 (OV.2 ⟨⟨hc.1,hone⟩,fun b hb=>Ku.2 ⟨AN3 (hc.2 b hb),hone,?_,by simp⟩⟩)
 have:=hc.2 b hb
 unfold AGf at this
 simp only[Bool.and_eq_true,decide_eq_true_eq]at this
 unfold Akg
 simp[this.1]
theorem ALR {m:Nat} {w:World} (h:AGi m w) (hm:m≤18):AF9 w=true:=by
 have hp:=Aye.1 h.ok
 unfold AF9
 rw[Bool.and_eq_true]
 constructor
 ·unfold Ih
  rw[hp.reach.1,Bool.true_and,List.all_eq_true]
  intro l hl
  obtain⟨e,he,rfl⟩:=List.mem_map.1 hl
  exact hp.reach.2 e he
 ·rw[Abn]
  intro j hj
  obtain⟨t,ht⟩:=AMN h hm hj
  unfold apart
  simp only[hj,List.getElem?_eq_getElem]
  rw[ht]
  by_cases hc:AF1 w.ends[j].path=true
  ·have hen:=hp.ends _ (List.getElem_mem hj)
   have e2:E8 w (j:Int)=AB w.server w.ends[j].versions:=by
    unfold E8 IW
    rw[if_pos ⟨by omega,by omega⟩]
    simp only[Int.toNat_natCast,hj,List.getElem?_eq_getElem]
    rw[if_pos hen,ANt hc (Xx hen).1]
   have hr:=hp.reach.2 _ (List.getElem_mem hj)
   unfold reach at hr
   have hne:¬AB w.server w.ends[j].versions=0:=by simpa using hr
   rw[e2,if_neg hne]
   simp
  ·simp[hc]
theorem ANR {m:Nat} {w:World} (h:AGi m w) (hm:m≤18):AG9 w=⟨#[]⟩:=by
 unfold AG9
 have hs:¬w.log.any AG6=true:=by
  rw[List.any_eq_true]
  rintro ⟨l,hl,hd⟩
  rw[h.sober l hl]at hd
  cases hd
 rw[if_pos h.ok,if_pos (AMi h),if_pos (ALR h hm),if_pos h.cnt,if_neg hs]
theorem AOu {w:World} (h:w.rollout.off=true) (i:Int):QM w i=false:=by
 have:isIn w.rollout i w.ends.length=false:=by
  unfold isIn countIn
  rw[if_neg (fun hc=>by rw[h]at hc;cases hc.2.1)]
  by_cases h0:0≤i
  ·have:¬i<0:=by omega
   simp[this]
  ·simp[h0]
 unfold QM
 rw[this]
 simp
theorem ALt {w:World} (h:w.rollout.off=true):∀n,Au8 (AIE w) n=0
 | 0=>rfl
 | n+1=>by
  unfold Au8 AIE
  have:=ALt h n
  unfold AIE at this
  rw[this,AOu h]
  rfl
end Go.Eng.T
namespace Go.Eng.T
set_option maxRecDepth 20000
set_option maxHeartbeats 1000000
theorem Aqa (a b:List Int):0≤AB a b∧AB a b≤9:=by
 unfold AB
 split
 ·rename_i h
  by_cases h3:common a b=[]
  ·rw[h3];simp[Ti]
  ·have h4:0<(common a b).length:=List.length_pos_iff.2 h3
   have h5:=Ab2 (l:=common a b) ((MH h.1).filter _) (fun x hx=>by have:=MX h.1 x (List.mem_filter.1 hx).1;omega) h4
   rw[h5]
   have:=MX h.1 _ (List.mem_filter.1 (List.getElem_mem (l:=common a b) (n:=(common a b).length-1) (by omega))).1
   omega
 ·simp
theorem AiY (w:World) (i:Int):0≤E8 w i∧E8 w i≤9:=by
 unfold E8
 split
 ·split
  ·unfold IW
   split
   ·exact Aqa _ _
   ·simp
  ·simp
 ·simp
end Go.Eng.T
namespace Go.Eng.T
set_option maxRecDepth 20000
set_option maxHeartbeats 4000000
abbrev ANn (R:Rel):Prop:=∀bs:List Int,AAI bs→R [.sl 3 1 bs.length (u8s bs)] [] (B true) []
theorem ANQ {w:World} {l:List Event} (h:AGi 0 w) (he:∀e,e∈l→ALV e):∀j,j≤l.length→AGi j (AFQ w (l.take j))
 | 0,_=>by simpa[AFQ]using h
 | j+1,hj=>by
  rw[AKC (by omega)]
  exact top_apply (ANQ h he j (by omega)) (he _ (List.getElem_mem (by omega)))
theorem AOU (D:Dn) (hBig:AAn (D Auk)) (dR:AGw (D AIv)) (hA:AHv (D AuN)) (hF:AI8 (D AyT)) (hD:QE (D Aml)) (hN:Nt (D Aik))
 (hO:AHt (D As9)) (hW:Zf (D Azb)):ANn (Body D AIc):=by
 intro bs hb
 simp -implicitDefEqProofs
 refine Aa (hBig bs hb.1) ?_
 by_cases hbig:1048576<bs.length
 ·simp -implicitDefEqProofs [hbig]
 have hBs:ACY bs:=⟨by omega,hb.2⟩
 simp -implicitDefEqProofs [hbig]
 obtain⟨⟨w,l⟩,hp,p1⟩:=dR bs hBs
 have hev:=hp.ev
 have hlen:=hp.len
 have hsz:=hp.sz
 have h0:=AN2 hp
 dsimp only at hev hlen hsz h0
 simp -implicitDefEqProofs [FH]at p1
 refine Aa (p1) ?_
 clear p1
 simp -implicitDefEqProofs
 have hall:=ANQ h0 hev
 have hszs:∀j,j≤l.length→Bo (AFQ w (l.take j))≤4200:=fun j hj=>(APg (m:=0) hsz (fun e he=>hev e (List.mem_of_mem_take he)) (by rw[List.length_take];omega)).2
 have hrun0:AFQ w (l.take 0)=w:=rfl
 obtain⟨LI,hLI⟩:∃LI:Nat→St→Prop,LI=fun k s=>∃(j:Nat) (x:World) (o7 o9 o10 o11 o12 o13 o14 o15 o16 o17 o18:O),j+k=l.length∧x=AFQ w (l.take j)∧s=⟨[.undef,.undef,.undef,.arr 6,.ptr 8 0,I j,.undef,.undef,.undef,.undef,.undef,.undef,.undef,.undef,.undef,.undef],[.free,.free,.free,.free,.free,.free,.arr 6 0 l.length (l.flatMap Cj),o7,.var [.arr 19,.arr 20,I x.key,.arr 21,I x.rollout.version,.arr 22,I x.rollout.pos,B x.rollout.off,I x.least,I x.percent,.arr 23,.arr 24,I x.now,I x.hurt,I x.reached],o9,o10,o11,o12,o13,o14,o15,o16,o17,o18,.arr 1 0 x.server.length (ints x.server),.arr 1 0 x.tags.length (ints x.tags),.arr 4 0 x.ends.length (x.ends.flatMap Ap),.arr 1 0 x.rollout.stages.length (ints x.rollout.stages),.arr 5 0 x.stage.length (x.stage.flatMap A7),.arr 8 0 x.log.length (x.log.flatMap AQ)]⟩:=⟨_,rfl⟩
 refine Ae LI ?_ (l.length) _ (by rw[hLI];exact⟨0,w,_,_,_,_,_,_,_,_,_,_,_,by simp,hrun0.symm,rfl⟩)
 intro k s hs
 rw[hLI]at hs
 obtain⟨j,x,o7,o9,o10,o11,o12,o13,o14,o15,o16,o17,o18,hj,hx,hs⟩:=hs
 subst hs
 by_cases hjn:j<l.length
 rotate_left
 ·simp -implicitDefEqProofs [hjn]
  have hje:j=l.length:=by omega
  have hw1:=(hall j (by omega)).ok
  rw[←hx]at hw1
  have hsx:=hszs j (by omega)
  rw[←hx]at hsx
  have pw:=hW x (by omega)
  rw[hw1]at pw
  simp -implicitDefEqProofs at pw
  refine Aa (pw) ?_
  simp -implicitDefEqProofs
 have hwj:IntKind.i64.wrap ((j:Int)+1)=(j+1:Nat):=by rw[Ac (by omega) (by omega)];simp
 have hsx:=hszs j (by omega)
 have hsy:=hszs (j+1) (by omega)
 have hty:=hall (j+1) (by omega)
 have hez:=ANN (hev _ (List.getElem_mem hjn))
 have hst:=AKC (w:=w) hjn
 rw[←hx]at hsx hst
 simp -implicitDefEqProofs [hjn]
 have pa:=hA x l[j] (by omega) (by omega)
 generalize(Ah0 x l[j]).2=ok at pa
 obtain⟨y,hy⟩:∃y,y=(Ah0 x l[j]).1:=⟨_,rfl⟩
 rw[←hy]at pa hst
 rw[hst]at hsy hty
 simp -implicitDefEqProofs [FH]at pa⊢
 refine Aa (pa) ?_
 clear pa
 simp -implicitDefEqProofs
 have pf:=hF y (by omega)
 rw[ANR hty (by omega)]at pf
 refine Aa (pf) ?_
 clear pf
 simp -implicitDefEqProofs
 have hfew:=hty.few
 obtain⟨LJ,hLJ⟩:∃LJ:Nat→St→Prop,LJ=fun k s=>∃(i:Nat) (o7 o9 o10 o11 o12 o13 o14 o15 o16 o17 o18:O),i+k=y.ends.length∧s=⟨[.undef,.undef,.undef,.arr 6,.ptr 8 0,I j,.undef,I i,.undef,.undef,.undef,.undef,.undef,.undef,.undef,.undef],[.free,.free,.free,.free,.free,.free,.arr 6 0 l.length (l.flatMap Cj),o7,.var [.arr 19,.arr 20,I y.key,.arr 21,I y.rollout.version,.arr 22,I y.rollout.pos,B y.rollout.off,I y.least,I y.percent,.arr 23,.arr 24,I y.now,I y.hurt,I y.reached],o9,o10,o11,o12,o13,o14,o15,o16,o17,o18,.arr 1 0 y.server.length (ints y.server),.arr 1 0 y.tags.length (ints y.tags),.arr 4 0 y.ends.length (y.ends.flatMap Ap),.arr 1 0 y.rollout.stages.length (ints y.rollout.stages),.arr 5 0 y.stage.length (y.stage.flatMap A7),.arr 8 0 y.log.length (y.log.flatMap AQ)]⟩:=⟨_,rfl⟩
 refine Ae LJ ?_ (y.ends.length) _ (by rw[hLJ];exact⟨0,_,_,_,_,_,_,_,_,_,_,_,by simp,rfl⟩)
 intro k2 s hs
 rw[hLJ]at hs
 obtain⟨i,o7,o9,o10,o11,o12,o13,o14,o15,o16,o17,o18,hi,hs⟩:=hs
 subst hs
 by_cases hin:i<y.ends.length
 ·have hwi:IntKind.i64.wrap ((i:Int)+1)=(i+1:Nat):=by rw[Ac (by omega) (by omega)];simp
  obtain⟨t,ht⟩:=AMN hty (by omega) hin
  have pd:=hD y (i:Int) (by omega)
  generalize Hl y (i:Int)=d at ht pd
  have hb9:=AiY y (i:Int)
  have pb:=hN y (i:Int) (by omega)
  generalize E8 y (i:Int)=b at ht hb9 pb
  have hb2:(b=0∧d.deal.ok=false)∨(0<b∧¬b=0∧d.deal.ok=true∧d.deal.version=b):=by
   rw[ht]
   by_cases h0:b=0
   ·rw[if_pos h0];exact .inl ⟨h0,rfl⟩
   ·rw[if_neg h0];exact .inr ⟨by omega,h0,rfl,rfl⟩
  clear ht
  obtain⟨⟨ok,ver,tg⟩,tr,up⟩:=d
  dsimp only at hb2
  simp -implicitDefEqProofs [hin]
  simp -implicitDefEqProofs at pd
  refine Aa (pd) ?_
  clear pd
  simp -implicitDefEqProofs
  refine Aa (pb) ?_
  clear pb
  rcases hb2 with⟨b0,k⟩ | ⟨bp,bn,k,kv⟩
  ·subst b0
   subst k
   simp -implicitDefEqProofs
   refine⟨k2-1,by omega,?_⟩
   rw[hLJ]
   exact⟨i+1,_,_,_,_,_,_,_,_,_,_,_,by omega,by simp[hwi];exact⟨rfl,rfl,rfl,rfl,rfl,rfl,rfl,rfl,rfl,rfl,rfl⟩⟩
  ·subst k
   subst kv
   simp -implicitDefEqProofs [bp]
   refine⟨k2-1,by omega,?_⟩
   rw[hLJ]
   exact⟨i+1,_,_,_,_,_,_,_,_,_,_,_,by omega,by simp[hwi];exact⟨rfl,rfl,rfl,rfl,rfl,rfl,rfl,rfl,rfl,rfl,rfl⟩⟩
 ·simp -implicitDefEqProofs [hin]
  by_cases ho:y.rollout.off=true
  ·have po:=hO y (by omega)
   rw[ALt ho]at po
   simp -implicitDefEqProofs [ho]
   simp -implicitDefEqProofs [ho]at po
   refine Aa (po) ?_
   simp -implicitDefEqProofs
   refine⟨k-1,by omega,?_⟩
   rw[hLI]
   exact⟨j+1,y,_,_,_,_,_,_,_,_,_,_,_,by omega,hst.symm,by simp[hwj,ho];exact⟨rfl,rfl,rfl,rfl,rfl,rfl,rfl,rfl,rfl,rfl,rfl⟩⟩
  ·simp -implicitDefEqProofs [ho]
   refine⟨k-1,by omega,?_⟩
   rw[hLI]
   exact⟨j+1,y,_,_,_,_,_,_,_,_,_,_,_,by omega,hst.symm,by simp[hwj,ho];exact⟨rfl,rfl,rfl,rfl,rfl,rfl,rfl,rfl,rfl,rfl,rfl⟩⟩
end Go.Eng.T
