/- Own work: part 49 of the proof of FnDialing. -/
import Derived.Test.YtdoefikagfghnabGreatEngAR
import Derived.Below
import Derived.Sort.Grow
import Derived.Deep.Draws
import Derived.Lib.LaidTab
import Derived.Sort.Row
import Derived.Laws.IdiomCopy
import Derived.Lib.Slices
import Derived.Lib.SlicesCompact
import Derived.Laws.AppendOwn
import Derived.Shelf.Small.Bits
import Derived.Shelf.Strconv.Itoa0
import Derived.Shelf.Sort.Plain
import Derived.Shelf.Bits.Mul64
import Derived.Shelf.Slices.Turned
import Derived.Shelf.Slices.Reverse
import Derived.Shelf.Slices.Equal
import Derived.Ground.Names2Prog
import Derived.Shelf.Slices.Clone
import Derived.Shelf.Slices.CompactI
import Derived.Shelf.Slices.SearchI
import Derived.Shelf.Slices.Cells
import Derived.Shelf.Slices.In.SortNone
import Derived.Ground.SlgnProg
import Derived.Shelf.SlicesE.Clone
import Derived.Test.YtdoefikagfghnabGreatProg
import Derived.Shelf.Spec.SlicesInsertGrow
import Derived.KernelRfl
set_option linter.unusedSimpArgs false
set_option linter.unusedVariables false
namespace Go.Eng.T
set_option maxRecDepth 20000
set_option maxHeartbeats 1000000
structure Cur where
 bs:List Int
 i:Nat
 h:Int
def u8s (bs:List Int):List V:=bs.map fun b=> .sc (.int .u8 b)
abbrev DI (c:Cur):List V:=[.sl 3 1 c.bs.length (u8s c.bs),.sc (.int .i64 c.i),.sc (.int .i64 c.h)]
def Ga (c:Cur):Prop:=c.bs.length≤1048576∧(∀b,b∈c.bs→0≤b∧b≤255)∧c.i≤c.bs.length
def Xu (R:Rel) (args:List V) (c:Cur) {α:Type} (P:α→Prop) (res:α→V):Prop:=∃a c',P a∧Ga c'∧R (.ptr 0 0::args) [.var (DI c)] (res a) [.var (DI c')]
theorem NE {D:Dn} {f:Bw} {args:List V} {c:Cur} {α:Type} {P:α→Prop} {res:α→V} (h:∀Q:V→List O→Prop,(∀a c',P a→Ga c'→Q (res a) [.var (DI c')])→AsE D f (.ptr 0 0::args) [.var (DI c)] Q):
 Xu (Body D f) args c P res:=by
 obtain⟨v,o,⟨a,c',h1,h2,rfl,rfl⟩,h3⟩:=Alf (P:=fun v o=>∃a c',P a∧Ga c'∧v=res a∧o=[.var (DI c')]) (fun Q hQ=>h Q (fun a c' h1 h2=>hQ _ _ ⟨a,c',h1,h2,rfl,rfl⟩))
 exact⟨a,c',h1,h2,h3⟩
@[simp high] theorem AFF {bs:List Int} {j:Nat} (h:j<bs.length):(u8s bs)[j]? =some (.sc (.int .u8 bs[j])):=by simp[u8s,h]
@[simp high] theorem AE9 (bs:List Int):(u8s bs).length=bs.length:=by simp[u8s]
@[simp] theorem AFE (bs:List Int) (fl:Nat):(u8s bs).map (AX fl)=u8s bs:=by simp[u8s,AX]
abbrev AeQ (R:Rel):Prop:=∀c:Cur,Ga c→Xu R [] c (fun x:Int=>0≤x∧x≤255) (fun x=>I x)
theorem Awm (n:Nat):∃x:Nat,x≤255∧IntKind.i64.wrap ((n&&&255 % 2 ^ IntKind.i64.bits:Nat):Int)=x:=by
 have e:(255 % 2 ^ IntKind.i64.bits:Nat)=255:=by decide
 rw[e]
 have h:n&&&255≤255:=Nat.and_le_right
 exact⟨n&&&255,h,Ac (by omega) (by omega)⟩
theorem AxL (D:Dn):AeQ (Body D OH):=by
 intro c hc
 refine NE (fun Q hQ=> ?_)
 have h1:=hc.1
 by_cases h:c.i<c.bs.length
 ·have hw:IntKind.i64.wrap ((c.i:Int)+1)=(c.i+1:Nat):=by rw[Ac (by omega) (by omega)];simp
  simp -implicitDefEqProofs [h,NS,AY]
  generalize IntKind.i64.wrap (IntKind.i64.wrap (c.h*6364136223846793005)+1442695040888963407)=h'
  generalize Int.toNat _=n1
  obtain⟨x,hx,e⟩:=Awm n1
  rw[e,hw]
  exact hQ x ⟨c.bs,c.i+1,h'⟩ ⟨by omega,by omega⟩ ⟨hc.1,hc.2.1,h⟩
 ·simp -implicitDefEqProofs [h,NS,AY]
  generalize IntKind.i64.wrap (IntKind.i64.wrap (c.h*6364136223846793005)+1442695040888963407)=h'
  generalize Int.toNat _=n1
  obtain⟨x,hx,e⟩:=Awm n1
  rw[e]
  exact hQ x ⟨c.bs,c.i,h'⟩ ⟨by omega,by omega⟩ ⟨hc.1,hc.2.1,hc.2.2⟩
abbrev FK (R:Rel):Prop:=∀(c:Cur) (n:Int),Ga c→n≤1000000000→Xu R [I n] c (fun x:Int=>0≤x∧(n≤0→x=0)∧(0<n→x<n)) (fun x=>I x)
theorem ABm {x n:Int} (h:0≤x) (hn:0<n):0≤x.tmod n∧x.tmod n<n:=⟨Int.tmod_nonneg n h,Int.tmod_lt_of_pos x hn⟩
theorem Auu (D:Dn) (hB:AeQ (D AlL)):FK (Body D MR):=by
 intro c n hc hn
 refine NE (fun Q hQ=> ?_)
 by_cases h0:n≤0
 ·simp -implicitDefEqProofs [h0,NS,AY]
  exact hQ 0 c ⟨by omega,fun _=>rfl,fun h=>by omega⟩ hc
 have hne:¬n=0:=by omega
 by_cases h1:n≤256
 ·simp -implicitDefEqProofs [h0,h1]
  obtain⟨x,c1,hx,hc1,px⟩:=hB c hc
  simp -implicitDefEqProofs [DI]at px
  refine Aa (px) ?_
  simp -implicitDefEqProofs [h0,hne,NS,AY]
  have:=ABm (n:=n) hx.1 (by omega)
  exact hQ _ c1 ⟨this.1,fun h=>absurd h h0,fun _=>this.2⟩ hc1
 ·simp -implicitDefEqProofs [h0,h1]
  obtain⟨x,c1,hx,hc1,px⟩:=hB c hc
  simp -implicitDefEqProofs [DI]at px
  refine Aa (px) ?_
  simp -implicitDefEqProofs [h0]
  obtain⟨y,c2,hy,hc2,py⟩:=hB c1 hc1
  simp -implicitDefEqProofs [DI]at py
  refine Aa (py) ?_
  simp -implicitDefEqProofs [h0]
  obtain⟨z,c3,hz,hc3,pz⟩:=hB c2 hc2
  simp -implicitDefEqProofs [DI]at pz
  refine Aa (pz) ?_
  simp -implicitDefEqProofs [h0,hne,NS,AY]
  have w1:IntKind.i64.wrap (x*65536)=x*65536:=Ac (by omega) (by omega)
  have w2:IntKind.i64.wrap (y*256)=y*256:=Ac (by omega) (by omega)
  have w3:IntKind.i64.wrap (x*65536+y*256)=x*65536+y*256:=Ac (by omega) (by omega)
  have w4:IntKind.i64.wrap (x*65536+y*256+z)=x*65536+y*256+z:=Ac (by omega) (by omega)
  rw[w1,w2,w3,w4]
  have:=ABm (x:=x*65536+y*256+z) (n:=n) (by omega) (by omega)
  exact hQ _ c3 ⟨this.1,fun h=>absurd h h0,fun _=>this.2⟩ hc3
abbrev AeM (R:Rel):Prop:=∀(c:Cur) (n:Int),Ga c→n≤1000000000→Xu R [I n] c (fun _:Bool=>True) (fun b=>B b)
theorem AxM (D:Dn) (hB:FK (D Dj)):AeM (Body D OG):=by
 intro c n hc hn
 refine NE (fun Q hQ=> ?_)
 simp -implicitDefEqProofs
 obtain⟨x,c1,hx,hc1,px⟩:=hB c n hc hn
 simp -implicitDefEqProofs [DI]at px
 refine Aa (px) ?_
 simp -implicitDefEqProofs [NS,AY]
 exact hQ _ c1 trivial hc1
abbrev AfP (R:Rel):Prop:=∀(c:Cur) (xs:List Int),Ga c→0<xs.length→xs.length≤1000000→Xu R [.sl 1 1 xs.length (ints xs)] c (fun x:Int=>x∈xs) (fun x=>I x)
theorem AAS (D:Dn) (hB:FK (D Dj)):AfP (Body D Qy):=by
 intro c xs hc h0 hl
 refine NE (fun Q hQ=> ?_)
 simp -implicitDefEqProofs
 obtain⟨x,c1,hx,hc1,px⟩:=hB c xs.length hc (by omega)
 simp -implicitDefEqProofs [DI]at px
 refine Aa (px) ?_
 obtain⟨n,rfl⟩:∃n:Nat,x=n:=⟨x.toNat,by omega⟩
 have hn:n<xs.length:=by have:=hx.2.2 (by omega);omega
 simp -implicitDefEqProofs [hn,NS,AY]
 exact hQ _ c1 (List.getElem_mem hn) hc1
abbrev Agh (R:Rel):Prop:=∀bs:List Int,bs.length≤1048576→(∀b,b∈bs→0≤b∧b≤255)→∃c:Cur,Ga c∧R [.sl 3 1 bs.length (u8s bs)] [] (.rptr 0 (DI c) 0) []
theorem AzS (D:Dn):Agh (Body D Ni):=by
 intro bs hl hb
 obtain⟨v,o,⟨c,h1,rfl,rfl⟩,h3⟩:=Alf (P:=fun v o=>∃c:Cur,Ga c∧v= .rptr 0 (DI c) 0∧o=[]) (D:=D) (f:=Ni) (args:=[.sl 3 1 bs.length (u8s bs)]) (given:=[]) (fun Q hQ=>by
  simp -implicitDefEqProofs
  obtain⟨h0,hh0⟩:∃h0,h0=IntKind.i64.wrap (193017+(bs.length:Int)):=⟨_,rfl⟩
  rw[←hh0]
  refine Ae (fun k s=>∃j h,j+k=min bs.length 4000∧s=⟨[.sl 3 1 bs.length (u8s bs),.undef,I h,I j,.undef],[.free]⟩) ?_ (min bs.length 4000) _ ⟨0,h0,by simp,by simp⟩
  intro k s ⟨j,h,hj,hs⟩
  subst hs
  by_cases hjn:j<bs.length
  ·by_cases hj4:j<4000
   ·have hw:IntKind.i64.wrap ((j:Int)+1)=(j+1:Nat):=by rw[Ac (by omega) (by omega)];simp
    have hj4':(j:Int)<4000:=by omega
    simp -implicitDefEqProofs [hjn,hj4,hj4']
    refine⟨k-1,by omega,j+1,by omega,?_⟩
    simp[hw]
   ·have hj4':¬(j:Int)<4000:=by omega
    simp -implicitDefEqProofs [hjn,hj4,hj4']
    exact hQ _ _ ⟨⟨bs,0,h⟩,⟨hl,hb,Nat.zero_le _⟩,rfl,rfl⟩
  ·simp -implicitDefEqProofs [hjn]
   exact hQ _ _ ⟨⟨bs,0,h⟩,⟨hl,hb,Nat.zero_le _⟩,rfl,rfl⟩)
 exact⟨c,h1,h3⟩
end Go.Eng.T
namespace Go.Eng.T
set_option maxRecDepth 20000
set_option maxHeartbeats 1000000
theorem Ayl {l:List Int} (h:Up l) {i j:Nat} (hij:i<j) (hj:j<l.length):l[i]<l[j]:=List.pairwise_iff_getElem.1 h i j (by omega) hj hij
theorem ZK {l:List Int} (h:Up l) (h1:∀x,x∈l→1≤x∧x≤9) (h0:0<l.length):Ar l=true:=by
 unfold Ar
 simp only[Bool.and_eq_true,decide_eq_true_eq]
 refine⟨?_,h0⟩
 unfold Jk
 rw[List.all_eq_true]
 intro i hi
 have hi:=List.mem_range.1 hi
 rw[R7 hi]
 have:=h1 _ (List.getElem_mem hi)
 simp only[Bool.and_eq_true,Bool.or_eq_true,decide_eq_true_eq]
 refine⟨⟨by omega,by omega⟩,?_⟩
 by_cases hz:i=0
 ·exact .inl hz
 ·right
  rw[R7 (by omega:i-1<l.length)]
  exact Ayl h (by omega) hi
theorem As8 {l:List Int} (h:Up l) (h1:∀x,x∈l→1≤x∧x≤100):JU l l.length=true:=by
 unfold JU
 rw[List.all_eq_true]
 intro i hi
 have hi:=List.mem_range.1 hi
 rw[getD_at hi]
 have:=h1 _ (List.getElem_mem hi)
 simp only[Bool.and_eq_true,Bool.or_eq_true,decide_eq_true_eq]
 refine⟨⟨by omega,by omega⟩,?_⟩
 by_cases hz:i=0
 ·exact .inl hz
 ·right
  rw[getD_at (by omega:i-1<l.length)]
  exact Ayl h (by omega) hi
theorem Sd {l:List Int} {a b:Int} (h1:∀x,x∈l→a≤x∧x≤b):allIn l a b=true:=by
 unfold allIn
 rw[List.all_eq_true]
 intro x hx
 have:=h1 x hx
 simpa using this
theorem ArS {l:List Int} (h:Up l) (h1:∀x,x∈l→0≤x∧x≤255):EO l=true:=by
 unfold EO
 simp only[Bool.and_eq_true]
 refine⟨?_,Sd h1⟩
 rw[Abn]
 intro i hi
 by_cases hz:i=0
 ·subst hz;exact Wq l
 ·rw[TN hz hi (by omega)]
  simpa using Ayl h (by omega) hi
def VP (l:List Int) (b:Int) (m:Nat):Prop:=Up l∧(∀x,x∈l→1≤x∧x≤b)∧l.length≤m
theorem AgY {l:List Int} {b:Int} {m:Nat} {v:Int} (h:VP l b m) (hv:1≤v∧v≤b):VP (Gb l v) b (m+1):=by
 refine⟨YS v h.1,?_,Nat.le_trans (U5 l v) (by have:=h.2.2;omega)⟩
 intro x hx
 rcases(KT l v x).1 hx with hx | rfl
 ·exact h.2.1 x hx
 ·exact hv
theorem ZR {l:List Int} {b:Int} {m m':Nat} (h:VP l b m) (hm:m≤m'):VP l b m':=⟨h.1,h.2.1,by have:=h.2.2;omega⟩
theorem Arh (b:Int):VP [] b 0:=⟨List.Pairwise.nil,by simp,by simp⟩
theorem AxF {b v:Int} (hv:1≤v∧v≤b):VP [v] b 1:=⟨by simp,by simpa using hv,by simp⟩
theorem put_pos (l:List Int) (v:Int):0<(Gb l v).length:=List.length_pos_of_mem ((KT l v v).2 (.inr rfl))
abbrev Zd (R:Rel):Prop:=∀c:Cur,Ga c→Xu R [] c (fun l:List Int=>VP l 6 4∧0<l.length) (fun l=> .sl 0 1 l.length (ints l))
theorem AuQ (D:Dn) (hB:FK (D Dj)) (hP:TF (D Ke)):Zd (Body D MK):=by
 intro c hc
 refine NE (fun Q hQ=> ?_)
 simp -implicitDefEqProofs
 obtain⟨x,c1,hx,hc1,px⟩:=hB c 4 hc (by omega)
 simp -implicitDefEqProofs [DI,ints]at px
 refine Aa (px) ?_
 have hx4:=hx.2.2 (by omega)
 have w1:IntKind.i64.wrap (1+x)=1+x:=Ac (by omega) (by omega)
 simp -implicitDefEqProofs [w1]
 obtain⟨y,c2,hy,hc2,py⟩:=hB c1 4 hc1 (by omega)
 simp -implicitDefEqProofs [DI,ints]at py
 refine Aa (py) ?_
 have hy4:=hy.2.2 (by omega)
 obtain⟨n,rfl⟩:∃n:Nat,y=n:=⟨y.toNat,by omega⟩
 simp -implicitDefEqProofs
 obtain⟨LI,hLI⟩:∃LI:Nat→St→Prop,LI=fun k s=>∃j cc l o2,j+k=n∧Ga cc∧VP l 6 (1+j)∧0<l.length∧s=⟨[.ptr 0 0,.undef,.arr 3,I k,.undef],[.var (DI cc),.free,o2,.arr 1 0 l.length (ints l)]⟩:=⟨_,rfl⟩
 refine Ae LI ?_ (n) _ (by rw[hLI];exact⟨0,c2,[1+x],.free,by simp,hc2,AxF (by omega),by simp,by simp[ints]⟩)
 intro k s hs
 rw[hLI]at hs
 obtain⟨j,cc,l,o2,hj,hcc,hl,hl0,hs⟩:=hs
 subst hs
 by_cases hk:0<k
 ·have hwk:IntKind.i64.wrap ((k:Int)-1)=(k-1:Nat):=by rw[Ac (by omega) (by omega)];omega
  simp -implicitDefEqProofs [hk]
  obtain⟨z,c3,hz,hc3,pz⟩:=hB cc 6 hcc (by omega)
  simp -implicitDefEqProofs [DI,ints]at pz
  refine Aa (pz) ?_
  have hz4:=hz.2.2 (by omega)
  have w2:IntKind.i64.wrap (1+z)=1+z:=Ac (by omega) (by omega)
  simp -implicitDefEqProofs [w2]
  refine Aa (hP l (1+z) (by have:=hl.2.2;omega)) ?_
  simp -implicitDefEqProofs [hwk]
  refine⟨k-1,by omega,?_⟩
  rw[hLI]
  exact⟨j+1,c3,Gb l (1+z),.free,by omega,hc3,AgY hl (by omega),put_pos _ _,rfl⟩
 ·have hk0:k=0:=by omega
  subst hk0
  simp -implicitDefEqProofs [NS,AY]
  exact hQ l cc ⟨ZR hl (by omega),hl0⟩ hcc
abbrev Vg (R:Rel):Prop:=∀c:Cur,Ga c→Xu R [] c (fun l:List Int=>VP l 200 4) (fun l=> .sl 0 1 l.length (ints l))
theorem AFf {x:Int} (h:x∈[1,2,3,10,40,(200:Int)]):1≤x∧x≤200:=by simp at h;omega
theorem Aup (D:Dn) (hB:FK (D Dj)) (hI:AfP (D Acz)) (hP:TF (D Ke)):Vg (Body D MW):=by
 intro c hc
 refine NE (fun Q hQ=> ?_)
 simp -implicitDefEqProofs
 obtain⟨y,c2,hy,hc2,py⟩:=hB c 5 hc (by omega)
 simp -implicitDefEqProofs [DI,ints]at py
 refine Aa (py) ?_
 have hy4:=hy.2.2 (by omega)
 obtain⟨n,rfl⟩:∃n:Nat,y=n:=⟨y.toNat,by omega⟩
 simp -implicitDefEqProofs
 obtain⟨LI,hLI⟩:∃LI:Nat→St→Prop,LI=fun k s=>∃j cc l o2,j+k=n∧Ga cc∧VP l 200 j∧s=⟨[.ptr 0 0,.undef,.arr 4,I k,.undef],[.var (DI cc),.free,o2,.free,.arr 1 0 l.length (ints l)]⟩:=⟨_,rfl⟩
 refine Ae LI ?_ (n) _ (by rw[hLI];exact⟨0,c2,[],.free,by simp,hc2,Arh _,by simp[ints]⟩)
 intro k s hs
 rw[hLI]at hs
 obtain⟨j,cc,l,o2,hj,hcc,hl,hs⟩:=hs
 subst hs
 by_cases hk:0<k
 ·have hwk:IntKind.i64.wrap ((k:Int)-1)=(k-1:Nat):=by rw[Ac (by omega) (by omega)];omega
  simp -implicitDefEqProofs [hk]
  obtain⟨z,c3,hz,hc3,pz⟩:=hI cc [1,2,3,10,40,200] hcc (by simp) (by simp)
  simp -implicitDefEqProofs [DI,ints]at pz
  refine Aa (pz) ?_
  simp -implicitDefEqProofs
  refine Aa (hP l z (by have:=hl.2.2;omega)) ?_
  simp -implicitDefEqProofs [hwk]
  refine⟨k-1,by omega,?_⟩
  rw[hLI]
  exact⟨j+1,c3,Gb l z,_,by omega,hc3,AgY hl (AFf hz),rfl⟩
 ·have hk0:k=0:=by omega
  subst hk0
  simp -implicitDefEqProofs [NS,AY]
  exact hQ l cc (ZR hl (by omega)) hcc
end Go.Eng.T
namespace Go.Eng.T
set_option maxRecDepth 20000
set_option maxHeartbeats 1000000
def AoR (b:EK):Prop:=ET b=true∧b.drops.length≤4∧b.strips.length≤4
theorem AhA {b:EK} (h0:0≤b.limit∧b.limit≤9) (h1:VP b.drops 200 4) (h2:VP b.strips 200 4):AoR b:=by
 refine⟨?_,h1.2.2,h2.2.2⟩
 unfold ET
 rw[Sd (fun x hx=>by have:=h1.2.1 x hx;omega),Sd (fun x hx=>by have:=h2.2.1 x hx;omega)]
 have:=h1.2.2
 have:=h2.2.2
 simp only[Bool.and_eq_true,decide_eq_true_eq]
 exact⟨⟨⟨⟨⟨by omega,by omega⟩,by omega⟩,by omega⟩,trivial⟩,trivial⟩
abbrev Aas (R:Rel):Prop:=∀c:Cur,Ga c→Xu R [] c AoR (fun b=> .agg (Cz b))
theorem At4 (D:Dn) (hB:FK (D Dj)) (hT:Vg (D Xm)):Aas (Body D MQ):=by
 intro c hc
 refine NE (fun Q hQ=> ?_)
 have hn:=ZR (Arh 200) (show 0≤4 by omega)
 simp -implicitDefEqProofs
 obtain⟨x,c1,hx,hc1,px⟩:=hB c 7 hc (by omega)
 simp -implicitDefEqProofs [DI,ints]at px
 refine Aa (px) ?_
 by_cases g0:x=0
 ·simp -implicitDefEqProofs [g0]
  obtain⟨y,c2,hy,hc2,py⟩:=hB c1 6 hc1 (by omega)
  simp -implicitDefEqProofs [DI,ints]at py
  refine Aa (py) ?_
  have hy6:=hy.2.2 (by omega)
  have w1:IntKind.i64.wrap (1+y)=1+y:=Ac (by omega) (by omega)
  simp -implicitDefEqProofs [w1,NS,AY]
  exact hQ ⟨1+y,[],[],false⟩ c2 (AhA (by dsimp only;omega) hn hn) hc2
 by_cases g1:x=1
 ·simp -implicitDefEqProofs [g1]
  obtain⟨t,c2,ht,hc2,pt⟩:=hT c1 hc1
  simp -implicitDefEqProofs [DI,ints]at pt
  refine Aa (pt) ?_
  simp -implicitDefEqProofs [NS,AY]
  exact hQ ⟨0,t,[],false⟩ c2 (AhA (by dsimp only;omega) ht hn) hc2
 by_cases g2:x=2
 ·simp -implicitDefEqProofs [g2]
  obtain⟨t,c2,ht,hc2,pt⟩:=hT c1 hc1
  simp -implicitDefEqProofs [DI,ints]at pt
  refine Aa (pt) ?_
  simp -implicitDefEqProofs [NS,AY]
  exact hQ ⟨0,[],t,false⟩ c2 (AhA (by dsimp only;omega) hn ht) hc2
 by_cases g3:x=3
 ·simp -implicitDefEqProofs [g3,NS,AY]
  exact hQ ⟨0,[],[],true⟩ c1 (AhA (by dsimp only;omega) hn hn) hc1
 simp -implicitDefEqProofs [g0,g1,g2,g3,NS,AY]
 exact hQ ⟨0,[],[],false⟩ c1 (AhA (by dsimp only;omega) hn hn) hc1
def AEy (b:EK):Prop:=b.drops.length≤7∧b.strips.length≤7
def AgA (l:List EK) (m:Nat):Prop:=l.length≤m∧∀b,b∈l→AoR b
abbrev ZP (R:Rel):Prop:=∀c:Cur,Ga c→Xu R [] c (fun l:List EK=>AgA l 3) (fun l=> .sl 0 4 l.length (l.flatMap Cz))
theorem Av5 {l:List EK} {m:Nat} {b:EK} (h:AgA l m) (hb:AoR b):AgA (l++ [b]) (m+1):=by
 refine⟨by have:=h.1;simp;omega,?_⟩
 intro x hx
 rcases List.mem_append.1 hx with hx | hx
 ·exact h.2 x hx
 ·simp at hx;subst hx;exact hb
theorem Atk (D:Dn) (hB:FK (D Dj)) (hT:Aas (D Ajj)):ZP (Body D MN):=by
 intro c hc
 refine NE (fun Q hQ=> ?_)
 simp -implicitDefEqProofs
 obtain⟨y,c2,hy,hc2,py⟩:=hB c 4 hc (by omega)
 simp -implicitDefEqProofs [DI,ints]at py
 refine Aa (py) ?_
 have hy4:=hy.2.2 (by omega)
 obtain⟨n,rfl⟩:∃n:Nat,y=n:=⟨y.toNat,by omega⟩
 simp -implicitDefEqProofs
 obtain⟨LI,hLI⟩:∃LI:Nat→St→Prop,LI=fun k s=>∃j cc l o2 o3 o4,j+k=n∧Ga cc∧AgA l j∧s=⟨[.ptr 0 0,.undef,.arr 6,I k,.undef],[.var (DI cc),.free,o2,o3,o4,.free,.arr 4 0 l.length (l.flatMap Cz)]⟩:=⟨_,rfl⟩
 refine Ae LI ?_ (n) _ (by rw[hLI];exact⟨0,c2,[],.free,.free,.free,by simp,hc2,⟨by simp,by simp⟩,by simp⟩)
 intro k s hs
 rw[hLI]at hs
 obtain⟨j,cc,l,o2,o3,o4,hj,hcc,hl,hs⟩:=hs
 subst hs
 by_cases hk:0<k
 ·have hwk:IntKind.i64.wrap ((k:Int)-1)=(k-1:Nat):=by rw[Ac (by omega) (by omega)];omega
  have hll:=hl.1
  have hb1:(l.length+1)*64≤1099511627776:=by omega
  simp -implicitDefEqProofs [hk]
  obtain⟨b,c3,hb,hc3,pb⟩:=hT cc hcc
  simp -implicitDefEqProofs [DI,ints]at pb
  refine Aa (pb) ?_
  simp -implicitDefEqProofs [hb1,hwk]
  refine⟨k-1,by omega,?_⟩
  rw[hLI]
  exact⟨j+1,c3,l++ [b],.dead,.dead,.dead,by omega,hc3,Av5 hl hb,by simp[Cz,ints]⟩
 ·have hk0:k=0:=by omega
  subst hk0
  simp -implicitDefEqProofs [NS,AY]
  exact hQ l cc ⟨by have:=hl.1;omega,hl.2⟩ hcc
def AD5 (s:List Int):Prop:=VP s 100 3∧0<s.length∧s.getD (s.length-1) 0=100
def AwO (r:EP):Prop:=AD5 r.stages∧(1≤r.version∧r.version≤6)
abbrev Aao (R:Rel):Prop:=∀c:Cur,Ga c→Xu R [] c AwO (fun r=> .agg (Iq r))
theorem AEq {l:List Int} (h:VP l 90 2):AD5 (l++ [100]):=by
 obtain⟨h1,h2,h3⟩:=h
 refine⟨⟨?_,?_,by simp;omega⟩,by simp,by simp⟩
 ·refine List.pairwise_append.2 ⟨h1,by simp,?_⟩
  intro x hx y hy
  simp at hy
  have:=h2 x hx
  omega
 ·intro x hx
  rcases List.mem_append.1 hx with hx | hx
  ·have:=h2 x hx;omega
  ·simp at hx;omega
theorem AuR (D:Dn) (hB:FK (D Dj)) (hP:TF (D Ke)):Aao (Body D MS):=by
 intro c hc
 refine NE (fun Q hQ=> ?_)
 simp -implicitDefEqProofs
 obtain⟨x,c1,hx,hc1,px⟩:=hB c 6 hc (by omega)
 simp -implicitDefEqProofs [DI,ints]at px
 refine Aa (px) ?_
 have hx6:=hx.2.2 (by omega)
 have w1:IntKind.i64.wrap (1+x)=1+x:=Ac (by omega) (by omega)
 simp -implicitDefEqProofs [w1]
 obtain⟨y,c2,hy,hc2,py⟩:=hB c1 3 hc1 (by omega)
 simp -implicitDefEqProofs [DI,ints]at py
 refine Aa (py) ?_
 have hy3:=hy.2.2 (by omega)
 obtain⟨n,rfl⟩:∃n:Nat,y=n:=⟨y.toNat,by omega⟩
 simp -implicitDefEqProofs
 obtain⟨LI,hLI⟩:∃LI:Nat→St→Prop,LI=fun k s=>∃j cc l o3,j+k=n∧Ga cc∧VP l 90 j∧s=⟨[.ptr 0 0,.ptr 1 0,.ptr 2 0,I k,.undef],[.var (DI cc),.var [I 0,.nil 1,I 0,B false],.var [I (1+x),.arr 6,I 0,B false],o3,.free,.free,.arr 1 0 l.length (ints l)]⟩:=⟨_,rfl⟩
 refine Ae LI ?_ (n) _ (by rw[hLI];exact⟨0,c2,[],.free,by simp,hc2,Arh _,by simp[ints]⟩)
 intro k s hs
 rw[hLI]at hs
 obtain⟨j,cc,l,o3,hj,hcc,hl,hs⟩:=hs
 subst hs
 by_cases hk:0<k
 ·have hwk:IntKind.i64.wrap ((k:Int)-1)=(k-1:Nat):=by rw[Ac (by omega) (by omega)];omega
  simp -implicitDefEqProofs [hk]
  obtain⟨z,c3,hz,hc3,pz⟩:=hB cc 90 hcc (by omega)
  simp -implicitDefEqProofs [DI,ints]at pz
  refine Aa (pz) ?_
  have hz4:=hz.2.2 (by omega)
  have w2:IntKind.i64.wrap (1+z)=1+z:=Ac (by omega) (by omega)
  simp -implicitDefEqProofs [w2]
  refine Aa (hP l (1+z) (by have:=hl.2.2;omega)) ?_
  simp -implicitDefEqProofs [hwk]
  refine⟨k-1,by omega,?_⟩
  rw[hLI]
  exact⟨j+1,c3,Gb l (1+z),_,by omega,hc3,AgY hl (by omega),rfl⟩
 ·have hk0:k=0:=by omega
  subst hk0
  have hll:=hl.2.2
  have hb1:(l.length+1)*8≤1099511627776:=by omega
  simp -implicitDefEqProofs [hb1]
  have hst:=AEq (ZR hl (by omega))
  obtain⟨z,c3,hz,hc3,pz⟩:=hB cc (l.length+1) hcc (by omega)
  simp -implicitDefEqProofs [DI,ints]at pz
  refine Aa (pz) ?_
  simp -implicitDefEqProofs [NS,AY]
  have:=hQ ⟨1+x,l++ [100],z,false⟩ c3 ⟨hst,by dsimp only;omega⟩ hc3
  simpa[ints,Iq]using this
end Go.Eng.T
namespace Go.Eng.T
set_option maxRecDepth 20000
set_option maxHeartbeats 1000000
def Acd (l:List Int) (m:Nat):Prop:=Up l∧(∀x,x∈l→x∈[1,2,3,40,(200:Int)])∧l.length≤m
theorem AA3 {l:List Int} {m:Nat} {v:Int} (h:Acd l m) (hv:v∈[1,2,3,40,(200:Int)]):Acd (Gb l v) (m+1):=by
 refine⟨YS v h.1,?_,Nat.le_trans (U5 l v) (by have:=h.2.2;omega)⟩
 intro x hx
 rcases(KT l v x).1 hx with hx | rfl
 ·exact h.2.1 x hx
 ·exact hv
structure AsP (e:Ai):Prop where
 vers:VP e.versions 6 4
 pos:0<e.versions.length
 tags:Acd e.tags 3
 path:AgA e.path 3
 cls:0≤e.cls∧e.cls≤5
theorem ABY {x:Int} (h:x∈[1,2,3,40,(200:Int)]):(0≤x∧x≤255)∧Aq x=false:=by
 simp at h
 rcases h with rfl | rfl | rfl | rfl | rfl<;>exact⟨by omega,by decide⟩
theorem Ayp {e:Ai} (h:AsP e):Aj e=true:=by
 unfold Aj
 rw[ZK h.vers.1 (fun x hx=>by have:=h.vers.2.1 x hx;omega) h.pos,ArS h.tags.1 (fun x hx=>(ABY (h.tags.2.1 x hx)).1)]
 have h1:e.tags.any Aq=false:=by
  rw[List.any_eq_false]
  intro x hx
  rw[(ABY (h.tags.2.1 x hx)).2]
  simp
 have h2:e.path.all ET=true:=List.all_eq_true.2 fun b hb=>(h.path.2 b hb).1
 rw[h1,h2]
 have:=h.tags.2.2
 have:=h.path.1
 have:=h.cls
 simp only[Bool.true_and,Bool.and_true,Bool.not_false,Bool.and_eq_true,decide_eq_true_eq]
 exact⟨by omega,by omega,by omega,by omega⟩
abbrev AaB (R:Rel):Prop:=∀c:Cur,Ga c→Xu R [] c AsP (fun e=> .agg (Ap e))
theorem Att (D:Dn) (hB:FK (D Dj)) (hI:AfP (D Acz)) (hV:Zd (D Ajo)) (hP:ZP (D AiB)) (hU:TF (D Ke)):AaB (Body D MO):=by
 intro c hc
 refine NE (fun Q hQ=> ?_)
 simp -implicitDefEqProofs
 obtain⟨vs,c1,hvs,hc1,pvs⟩:=hV c hc
 simp -implicitDefEqProofs [DI,ints]at pvs
 refine Aa (pvs) ?_
 simp -implicitDefEqProofs
 obtain⟨pa,c2,hpa,hc2,ppa⟩:=hP c1 hc1
 simp -implicitDefEqProofs [DI,ints]at ppa
 refine Aa (ppa) ?_
 simp -implicitDefEqProofs
 obtain⟨cl,c3,hcl,hc3,pcl⟩:=hB c2 6 hc2 (by omega)
 simp -implicitDefEqProofs [DI,ints]at pcl
 refine Aa (pcl) ?_
 have hcl6:=hcl.2.2 (by omega)
 simp -implicitDefEqProofs
 obtain⟨y,c4,hy,hc4,py⟩:=hB c3 4 hc3 (by omega)
 simp -implicitDefEqProofs [DI,ints]at py
 refine Aa (py) ?_
 have hy4:=hy.2.2 (by omega)
 obtain⟨n,rfl⟩:∃n:Nat,y=n:=⟨y.toNat,by omega⟩
 simp -implicitDefEqProofs
 obtain⟨LI,hLI⟩:∃LI:Nat→St→Prop,LI=fun k s=>∃j cc l o5,j+k=n∧Ga cc∧Acd l j∧s=⟨[.ptr 0 0,.ptr 1 0,.ptr 4 0,I k,.undef],[.var (DI cc),.var [.nil 1,.nil 1,.nil 4,I 0],.arr 1 0 vs.length (ints vs),.arr 4 0 pa.length (pa.flatMap Cz),.var [.arr 2,.arr 7,.arr 3,I cl],o5,.free,.arr 1 0 l.length (ints l)]⟩:=⟨_,rfl⟩
 refine Ae LI ?_ (n) _ (by rw[hLI];exact⟨0,c4,[],.free,by simp,hc4,⟨List.Pairwise.nil,by simp,by simp⟩,by simp[ints]⟩)
 intro k s hs
 rw[hLI]at hs
 obtain⟨j,cc,l,o5,hj,hcc,hl,hs⟩:=hs
 subst hs
 by_cases hk:0<k
 ·have hwk:IntKind.i64.wrap ((k:Int)-1)=(k-1:Nat):=by rw[Ac (by omega) (by omega)];omega
  simp -implicitDefEqProofs [hk]
  obtain⟨z,c5,hz,hc5,pz⟩:=hI cc [1,2,3,40,200] hcc (by simp) (by simp)
  simp -implicitDefEqProofs [DI,ints]at pz
  refine Aa (pz) ?_
  simp -implicitDefEqProofs
  refine Aa (hU l z (by have:=hl.2.2;omega)) ?_
  simp -implicitDefEqProofs [hwk]
  refine⟨k-1,by omega,?_⟩
  rw[hLI]
  exact⟨j+1,c5,Gb l z,_,by omega,hc5,AA3 hl hz,rfl⟩
 ·have hk0:k=0:=by omega
  subst hk0
  simp -implicitDefEqProofs [NS,AY]
  exact hQ ⟨vs,l,pa,cl⟩ cc ⟨hvs.1,hvs.2,⟨hl.1,hl.2.1,by have:=hl.2.2;dsimp only;omega⟩,hpa,by dsimp only;omega⟩ hcc
structure AFH (e:Ai):Prop where
 vers:e.versions.length≤5
 tags:e.tags.length≤6
 path:e.path.length≤5
 box:∀b,b∈e.path→AEy b
end Go.Eng.T
namespace Go.Eng.T
set_option maxRecDepth 20000
set_option maxHeartbeats 1000000
end Go.Eng.T
namespace Go.Eng.T
set_option maxRecDepth 20000
set_option maxHeartbeats 2000000
theorem max_mem:∀ {l:List Int} {a x:Int},x∈l→x≤l.foldl (fun a v=>if v>a then v else a) a
 | y::l,a,x,h=>by
  have ge:∀(l:List Int) (a:Int),a≤l.foldl (fun a v=>if v>a then v else a) a:=by
   intro l
   induction l with
   | nil=>intro a;exact Int.le_refl a
   | cons z l ih=>
    intro a
    simp only[List.foldl_cons]
    refine Int.le_trans ?_ (ih _)
    split<;>omega
  simp only[List.foldl_cons]
  rcases List.mem_cons.1 h with rfl | h
  ·refine Int.le_trans ?_ (ge l _)
   split<;>omega
  ·exact max_mem h
theorem Auy {s l:List Int} (hs:Ar s=true) (hl:Ar l=true) (h1:1∈s) (h2:1∈l):reach s l=true:=by
 unfold reach AB
 rw[if_pos ⟨hs,hl⟩]
 have hm:(1:Int)∈common s l:=List.mem_filter.2 ⟨h1,by simpa using h2⟩
 have:=max_mem (a:=0) hm
 have:¬Ti (common s l)=0:=by unfold Ti;omega
 simp[this]
def Vs (y:Int):List Int:=Gb [1] (2+y)
theorem R5 {y:Int} (h:0≤y∧y<2):VP (Vs y) 6 2∧1∈Vs y∧0<(Vs y).length:=
 ⟨AgY (AxF (by omega)) (by omega),(KT _ _ _).2 (.inl (by simp)),put_pos _ _⟩
theorem Asr {l:List Int} {m:Nat} (h:VP l 6 m) (h0:0<l.length):Ar l=true:=ZK h.1 (fun x hx=>by have:=h.2.1 x hx;omega) h0
def AwF (e:Ai):Prop:=AsP e∧1∈e.versions∧∃y:Int,(0≤y∧y<2)∧e.versions=Vs y
theorem AAJ {e:Ai} (h:AsP e):Af e≤40:=by
 have h1:=h.vers.2.2
 have h2:=h.tags.2.2
 have h3:∀(l:List EK),(∀b,b∈l→AoR b)→Er Lf l≤9*l.length:=by
  intro l
  induction l with
  | nil=>intro _;simp[Er]
  | cons b l ih=>
   intro hb
   have:=ih (fun x hx=>hb x (by simp[hx]))
   have hb0:=hb b (by simp)
   have e1:=hb0.2.1
   have e2:=hb0.2.2
   simp only[Er,Lf,List.length_cons,List.map_cons,List.sum_cons]at *
   omega
 have:=h3 e.path h.path.2
 have:=h.path.1
 unfold Af
 omega
theorem AAy {l:List Ai} {m:Nat} (h:∀e,e∈l→Af e≤m):Er Af l≤l.length*(m+1):=by
 induction l with
 | nil=>simp[Er]
 | cons e l ih=>
  have:=ih (fun x hx=>h x (by simp[hx]))
  have:=h e (by simp)
  simp only[Er,List.length_cons,List.map_cons,List.sum_cons,Nat.add_mul,Nat.mul_add,Nat.mul_one]at *
  omega
theorem Axt {l:List Ai} {P:Ai→Prop} {e:Ai} (h:∀x,x∈l→P x) (he:P e):∀x,x∈l++ [e]→P x:=by
 intro x hx
 rcases List.mem_append.1 hx with hx | hx
 ·exact h x hx
 ·simp at hx;subst hx;exact he
abbrev zW:List V:=[.nil 1,.nil 1,I 0,.nil 4,I 0,.nil 1,I 0,B false,I 0,I 0,.nil 5,.nil 8,I 0,I 0,I 0]
structure Asq (w:World):Prop where
 ok:D5 w=true
 sz:Bo w≤400
 ends:0<w.ends.length
 eok:∀e,e∈w.ends→AwF e
 nolog:w.log=[]
 nostage:w.stage=[]
 few:w.ends.length≤5
 start:w.now=0∧w.hurt=0
 key:w.key=77∧w.reached=0
 ver:w.rollout.version=4∨w.rollout.version=5
theorem Ano {y z:Int} {r:EP} {t:List Int} {es:List Ai} (hy:0≤y∧y<2) (hz:0≤z∧z<2) (hr:AwO r) (ht:VP t 200 4) (he:∀e,e∈es→AwF e) (hl:0<es.length∧es.length≤5)
 {s:List Int} (hs:s=Gb (Gb [1] (2+y)) (4+z)) {v:Int} (hv:v∈s) (hv4:v=4∨v=5):Asq (CB s t es ⟨v,r.stages,0,r.off⟩):=by
 have hs1:VP s 6 3:=by rw[hs];exact AgY (R5 hy).1 (by omega)
 have hs2:1∈s:=by rw[hs];exact(KT _ _ _).2 (.inl (R5 hy).2.1)
 have hs3:0<s.length:=List.length_pos_of_mem hs2
 have hsv:=Asr hs1 hs3
 obtain⟨⟨⟨q1,q2,q3⟩,q4,q5⟩,q6⟩:=hr
 have e1:Ih (CB s t es ⟨v,r.stages,0,r.off⟩).server (Oy (CB s t es ⟨v,r.stages,0,r.off⟩))=true:=by
  show Ih s _=true
  unfold Ih
  rw[hsv,Bool.true_and,List.all_eq_true]
  intro l hl
  obtain⟨e,he',rfl⟩:=List.mem_map.1 hl
  have h1:=he e he'
  exact Auy hsv (Asr h1.1.vers h1.1.pos) hs2 h1.2.1
 refine⟨?_,?_,hl.1,he,rfl,rfl,hl.2,⟨rfl,rfl⟩,⟨rfl,rfl⟩,hv4⟩
 ·have e2:EO t=true:=ArS ht.1 (fun x hx=>by have:=ht.2.1 x hx;omega)
  have e3:es.all Aj=true:=List.all_eq_true.2 fun e h=>Ayp (he e h).1
  have e4:Br ⟨v,r.stages,0,r.off⟩=true:=by
   unfold Br
   dsimp only
   have hvb:=hs1.2.1 v hv
   rw[As8 q1 q2,q5]
   simp only[Bool.true_and,Bool.and_eq_true,decide_eq_true_eq]
   exact⟨⟨⟨⟨by omega,by omega⟩,by omega,by omega⟩,by trivial⟩,by omega,by omega⟩
  unfold D5 PG Lx JD
  rw[e1]
  simp only[CB,e2,e3,e4,Bool.true_and,Bool.and_true]
  simp -implicitDefEqProofs only[Bool.and_eq_true]
  exact⟨rfl,decide_eq_true (by omega),⟨decide_eq_true hv,decide_eq_true ⟨by omega,by omega⟩,decide_eq_true ⟨by omega,by omega⟩⟩,rfl,rfl,decide_eq_true ⟨by omega,by omega⟩,decide_eq_true ⟨by simp,by simp⟩,decide_eq_true ⟨by omega,by omega⟩⟩
 ·rw[Aww]
  have h1:=hs1.2.2
  have h2:=ht.2.2
  have h3:=AAy (l:=es) (m:=40) (fun e h=>AAJ (he e h).1)
  have h4:es.length*41≤5*41:=Nat.mul_le_mul_right _ hl.2
  simp only[G8]
  omega
theorem AwZ {y z:Int} (hy:0≤y∧y<2) (hz:0≤z∧z<2) {s:List Int} (hs:s=Gb (Gb [1] (2+y)) (4+z)) (h:s.length-1<s.length):s[s.length-1]=4∨s[s.length-1]=5:=by
 have h1:y=0∨y=1:=by omega
 have h2:z=0∨z=1:=by omega
 subst hs
 rcases h1 with rfl | rfl<;>rcases h2 with rfl | rfl<;>revert h<;>decide
abbrev Wo (R:Rel):Prop:=∀c:Cur,Ga c→Xu R [] c Asq (fun w=> .agg (FH w))
theorem ApQ (D:Dn) (hB:FK (D Dj)) (hP:TF (D Ke)) (hR:Aao (D AiI)) (hE:AaB (D Ajy)) (hT:Vg (D Xm)) (hN:V3 (D Agz)):Wo (Body D Lp):=by
 intro c hc
 refine NE (fun Q hQ=> ?_)
 simp -implicitDefEqProofs
 obtain⟨y,c1,hy,hc1,py⟩:=hB c 2 hc (by omega)
 simp -implicitDefEqProofs [DI,ints]at py
 refine Aa (py) ?_
 have hy2:=hy.2.2 (by omega)
 have w1:IntKind.i64.wrap (2+y)=2+y:=Ac (by omega) (by omega)
 simp -implicitDefEqProofs [w1]
 have pp:=hP [1] (2+y) (by simp)
 simp -implicitDefEqProofs [ints]at pp
 refine Aa (pp) ?_
 simp -implicitDefEqProofs
 obtain⟨z,c2,hz,hc2,pz⟩:=hB c1 2 hc1 (by omega)
 simp -implicitDefEqProofs [DI,ints]at pz
 refine Aa (pz) ?_
 have hz2:=hz.2.2 (by omega)
 have w2:IntKind.i64.wrap (4+z)=4+z:=Ac (by omega) (by omega)
 have hl2:=(R5 (y:=y) ⟨by omega,by omega⟩).1.2.2
 unfold Vs at hl2
 simp -implicitDefEqProofs [w2]
 have pp2:=hP (Gb [1] (2+y)) (4+z) (by omega)
 simp -implicitDefEqProofs [ints]at pp2
 refine Aa (pp2) ?_
 obtain⟨sv,hs⟩:∃sv,sv=Gb (Gb [1] (2+y)) (4+z):=⟨_,rfl⟩
 have hsp:0<sv.length:=by rw[hs];exact put_pos _ _
 have hsl:sv.length≤3:=by rw[hs];exact Nat.le_trans (U5 _ _) (by omega)
 rw[←hs]
 simp -implicitDefEqProofs
 obtain⟨r,c3,hr,hc3,pr⟩:=hR c2 hc2
 simp -implicitDefEqProofs [DI,ints]at pr
 refine Aa (pr) ?_
 have hws:IntKind.i64.wrap ((sv.length:Int)-1)=(sv.length-1:Nat):=by rw[Ac (by omega) (by omega)];omega
 have hs1:sv.length-1<sv.length:=by omega
 simp -implicitDefEqProofs [hws,hs1]
 obtain⟨x,c4,hx,hc4,px⟩:=hB c3 4 hc3 (by omega)
 simp -implicitDefEqProofs [DI,ints]at px
 refine Aa (px) ?_
 have hx4:=hx.2.2 (by omega)
 have w3:IntKind.i64.wrap (2+x)=2+x:=Ac (by omega) (by omega)
 obtain⟨n,hn⟩:∃n:Nat,2+x=n:=⟨(2+x).toNat,by omega⟩
 simp -implicitDefEqProofs [w3,hn]
 have hv:sv[sv.length-1]∈sv:=List.getElem_mem hs1
 have hv4:=AwZ ⟨by omega,by omega⟩ ⟨by omega,by omega⟩ hs hs1
 have w5:IntKind.i64.wrap (n:Int)=n:=Ac (by omega) (by omega)
 generalize sv[sv.length-1]=v at hv hv4
 obtain⟨LI,hLI⟩:∃LI:Nat→St→Prop,LI=fun k s=>∃j cc es o8 o9 o10 o11 o12 o13 o14,j+k=n∧Ga cc∧(es:List Ai).length=j∧(∀e,e∈es→AwF e)∧s=⟨[.ptr 0 0,.ptr 1 0,.arr 4,.ptr 6 0,.arr 24,I k,.undef,.undef,.undef],[.var (DI cc),.var zW,.arr 1 0 1 [I 1],.arr 1 0 (Gb [1] (2+y)).length (ints (Gb [1] (2+y))),.arr 1 0 sv.length (ints sv),.arr 1 0 r.stages.length (ints r.stages),.var [I v,.arr 5,I 0,B r.off],.free,o8,o9,o10,o11,o12,o13,o14,.free,.free,.free,.free,.free,.free,.free,.free,.free,.arr 4 0 es.length (es.flatMap Ap)]⟩:=⟨_,rfl⟩
 refine Ae LI ?_ (n) _ (by rw[hLI];exact⟨0,c4,[],.free,.free,.free,.free,.free,.free,.free,by simp,hc4,rfl,by simp,by simp[ints,w5]⟩)
 intro k s hs
 rw[hLI]at hs
 obtain⟨j,cc,es,o8,o9,o10,o11,o12,o13,o14,hj,hcc,hel,hes,hs⟩:=hs
 subst hs
 by_cases hk:0<k
 ·have hwk:IntKind.i64.wrap ((k:Int)-1)=(k-1:Nat):=by rw[Ac (by omega) (by omega)];omega
  have hb1:(es.length+1)*80≤1099511627776:=by omega
  simp -implicitDefEqProofs [hk]
  obtain⟨e,c5,he,hc5,pe⟩:=hE cc hcc
  simp -implicitDefEqProofs [DI,ints]at pe
  refine Aa (pe) ?_
  simp -implicitDefEqProofs
  obtain⟨u,c6,hu,hc6,pu⟩:=hB c5 2 hc5 (by omega)
  simp -implicitDefEqProofs [DI,ints]at pu
  refine Aa (pu) ?_
  have hu2:=hu.2.2 (by omega)
  have w4:IntKind.i64.wrap (2+u)=2+u:=Ac (by omega) (by omega)
  simp -implicitDefEqProofs [w4]
  have pp3:=hP [1] (2+u) (by simp)
  simp -implicitDefEqProofs [ints]at pp3
  refine Aa (pp3) ?_
  simp -implicitDefEqProofs [hb1,hwk]
  have ho:=R5 (y:=u) ⟨by omega,by omega⟩
  have he1:AwF ⟨Vs u,e.tags,e.path,e.cls⟩:=⟨⟨ZR ho.1 (by omega),ho.2.2,he.tags,he.path,he.cls⟩,ho.2.1,u,⟨by omega,by omega⟩,rfl⟩
  refine⟨k-1,by omega,?_⟩
  rw[hLI]
  exact⟨j+1,c6,es++ [⟨Vs u,e.tags,e.path,e.cls⟩],_,_,_,_,_,_,_,by omega,hc6,by simp[hel],Axt hes he1,by simp[Ap,ints,Vs];exact⟨rfl,rfl,rfl,rfl,rfl,rfl,rfl⟩⟩
 ·have hk0:k=0:=by omega
  subst hk0
  simp -implicitDefEqProofs
  obtain⟨t,c7,ht,hc7,pt⟩:=hT cc hcc
  simp -implicitDefEqProofs [DI,ints]at pt
  refine Aa (pt) ?_
  have hw:=Ano (y:=y) (z:=z) (r:=r) (t:=t) (es:=es) ⟨by omega,by omega⟩ ⟨by omega,by omega⟩ hr ht hes ⟨by omega,by omega⟩ hs hv hv4
  have hnw:=hN sv t es ⟨v,r.stages,0,r.off⟩ (by have:=hw.sz;omega)
  have hne:M0 sv t es ⟨v,r.stages,0,r.off⟩=(CB sv t es ⟨v,r.stages,0,r.off⟩,true):=by unfold M0;rw[if_pos hw.ok]
  rw[hne]at hnw
  simp -implicitDefEqProofs
  simp -implicitDefEqProofs [DI,ints,CB]at hnw
  refine Aa (hnw) ?_
  simp -implicitDefEqProofs [NS,AY]
  exact hQ _ c7 hw hc7
end Go.Eng.T
namespace Go.Eng.T
set_option maxRecDepth 20000
set_option maxHeartbeats 2000000
theorem Zm (p:Int→Bool) (l:List Ext):(kept p l).length≤l.length:=List.length_filter_le _ _
theorem AoH (b:EK) (h:Hello):(Ba b h).1.exts.length≤h.exts.length:=by
 unfold Ba
 split
 ·exact Zm _ _
 ·simp[Ay]
theorem Yx:∀(path:List EK) (h:Hello),(EQ path h).1.exts.length≤h.exts.length
 | [],h=>Nat.le_refl _
 | b::r,h=>by
  unfold EQ
  split
  ·exact Nat.le_trans (Yx r _) (AoH b h)
  ·simp[Ay]
theorem AlM (path:List EK) (h:Hello):(AZ path h).1.exts.length≤h.exts.length:=by
 unfold AZ
 split
 ·exact Yx path h
 ·simp[Ay]
theorem AzH (h:Hello) (path:List EK):(fallback h path).1.exts.length≤h.exts.length:=by
 unfold fallback DL
 split
 ·dsimp only;exact Zm _ _
 ·simp[Ay]
theorem AwK (h:Hello) (path:List EK):(BI h path).1.exts.length≤h.exts.length:=by
 unfold BI
 split
 ·split
  ·exact Nat.le_refl _
  ·split
   ·exact AzH h path
   ·simp[Ay]
 ·simp[Ay]
theorem Aut (vs tags:List Int) (h:Hello):(AU vs tags h).1.exts.length≤h.exts.length:=by
 unfold AU
 split
 ·dsimp only[Hf,Eo];exact Nat.le_trans (Zm _ _) (Zm _ _)
 ·simp
theorem Ap0 (h seen:Hello) (vs tags:List Int) (key:Int):(TR h seen vs tags key).tags.length≤seen.exts.length:=by
 unfold TR
 split
 ·rw[Jw];exact Aut vs tags seen
 ·simp[D8]
theorem Az6 (h:Hello) (path:List EK) (vs tags:List Int) (key:Int):(Ns h path vs tags key).tags.length≤h.exts.length:=by
 unfold Ns
 split
 ·exact Nat.le_trans (Ap0 _ _ _ _ _) (AlM path h)
 ·simp[D8]
theorem AxY (h x:Hello):(Ud h x).length≤h.versions.length+h.exts.length:=by
 unfold Ud
 have h1:=Ib h.versions x.versions
 have h2:=List.length_filter_le (Acs (Ao x.exts)) (Ao h.exts)
 rw[Jw]at h2
 simp only[List.length_append,List.length_map]
 omega
theorem AyH (h:Hello) (path:List EK) (vs tags:List Int) (key:Int):BJ (AdV h path vs tags key)≤h.versions.length+2*h.exts.length:=by
 unfold AdV
 have h1:=AwK h path
 split
 ·have h2:=Az6 (BI h path).1 path vs tags key
  have h3:=AxY h (BI h path).1
  simp only[BJ,XI]
  omega
 ·simp[BJ,XI,D8]
theorem Ap4 (l:List Ext) (seed:Int):(BQ l seed).length≤l.length+1:=by
 unfold BQ
 split
 ·simp;omega
 ·omega
theorem Anj (e:Ai) (vs tags:List Int) (key seed:Int):BJ (GA e vs tags key seed)≤e.versions.length+12:=by
 unfold GA
 split
 ·rename_i he
  refine Nat.le_trans (AyH _ _ _ _ _) ?_
  unfold Dt
  rw[if_pos he]
  have h1:=Qj he
  have h2:=Ap4 (bare e.tags) seed
  rw[F7]at h2
  dsimp only
  omega
 ·simp[Iy,BJ,XI,D8]
end Go.Eng.T
namespace Go.Eng.T
set_option maxRecDepth 20000
set_option maxHeartbeats 2000000
def ACY (bs:List Int):Prop:=bs.length≤1048576∧∀b,b∈bs→0≤b∧b≤255
def AnT (R:Rel) (bs:List Int) {α:Type} (P:α→Prop) (res:α→V):Prop:=∃a,P a∧R [.sl 3 1 bs.length (u8s bs)] [] (res a) []
theorem ArG {D:Dn} {f:Bw} {bs:List Int} {α:Type} {P:α→Prop} {res:α→V} (h:∀Q:V→List O→Prop,(∀a,P a→Q (res a) [])→AsE D f [.sl 3 1 bs.length (u8s bs)] [] Q):AnT (Body D f) bs P res:=by
 obtain⟨v,o,⟨a,h1,rfl,rfl⟩,h3⟩:=Alf (P:=fun v o=>∃a,P a∧v=res a∧o=[]) (fun Q hQ=>h Q (fun a h1=>hQ _ _ ⟨a,h1,rfl,rfl⟩))
 exact⟨a,h1,h3⟩
end Go.Eng.T
namespace Go.Eng.T
set_option maxRecDepth 20000
set_option maxHeartbeats 2000000
theorem Agy (w:World) (i:Int):BJ (Hl w i)≤Er Af w.ends+12:=by
 unfold Hl
 have z:BJ Iy=0:=by simp[BJ,XI,Iy,D8]
 split
 ·split
  ·rename_i e he
   have h1:=Anj e w.server w.tags w.key (16*clip w.now+i)
   obtain⟨hj,rfl⟩:=List.getElem?_eq_some_iff.1 he
   have h2:=size_at (f:=Af) hj
   have h3:w.ends[i.toNat].versions.length≤Af w.ends[i.toNat]:=by unfold Af;omega
   omega
  ·rw[z];omega
 ·rw[z];omega
theorem Ahm {α:Type} {f:α→Nat}:∀(l:List α) (j:Nat) (hj:j<l.length) (e:α),f e≤f l[j]+1→Er f (l.set j e)≤Er f l+1
 | a::l,0,_,e,h=>by
  simp only[List.getElem_cons_zero]at h
  simp[Er];omega
 | a::l,j+1,hj,e,h=>by
  have:=Ahm l j (by simpa using hj) e (by simpa using h)
  simp only[Er,List.set_cons_succ,List.length_cons,List.map_cons,List.sum_cons]at *
  omega
end Go.Eng.T
namespace Go.Eng.T
set_option maxRecDepth 20000
def Au8 (p:Nat→Bool):Nat→Nat
 | 0=>0
 | n+1=>Au8 p n+(if p n then 1 else 0)
theorem AAZ (p:Nat→Bool):∀n,Au8 p n≤n
 | 0=>Nat.le_refl 0
 | n+1=>by have:=AAZ p n;simp only[Au8];split<;>omega
end Go.Eng.T
namespace Go.Eng.T
set_option maxRecDepth 20000
theorem AxG {l:List Int} {v:Int} (h:Ar l=true) (hv:1≤v∧v≤9):Ar (Gb l v)=true:=by
 refine ZK (YS v (MH h)) (fun x hx=> ?_) (put_pos l v)
 rcases(KT l v x).1 hx with hx | rfl
 ·have:=MX h x hx;exact⟨this.1,this.2⟩
 ·exact hv
theorem AjC {e:Ai} (h:Aj e=true) {l:List Int} (hl:Ar l=true):Aj ⟨l,e.tags,e.path,e.cls⟩=true:=by
 unfold Aj at h⊢
 simp only[Bool.and_eq_true]at h⊢
 exact⟨hl,h.2⟩
structure AFd (w:World):Prop where
 reach:Ar w.server=true∧∀e,e∈w.ends→reach w.server e.versions=true
 tags:EO w.tags=true∧KL w.key=true
 few:w.ends.length≤6
 ends:∀e,e∈w.ends→Aj e=true
 b:Lx w=true
 c:JD w=true
theorem ABi {p:Nat→Bool} {c:Int} (h0:0≤c):∀n,(∀i,i<n→p i=decide ((i:Int)<c))→(Au8 p n:Int)=min (n:Int) c
 | 0,_=>by simp[Au8];omega
 | n+1,h=>by
  have ih:=ABi h0 n (fun i hi=>h i (by omega))
  have hn:=h n (by omega)
  unfold Au8
  by_cases hc:(n:Int)<c
  ·rw[hn]
   simp only[hc,decide_true,if_true]
   omega
  ·rw[hn]
   simp only[hc,decide_false]
   simp only[Bool.false_eq_true,if_false]
   omega
end Go.Eng.T
namespace Go.Eng.T
set_option maxRecDepth 20000
set_option maxHeartbeats 2000000
def through (b:EK) (h:Hello):Bool:=ET b&&(AP h&& !Jl b h)&&h.exts.all fun x=>stays b x.tag
theorem AuS {p:Int→Bool} {l:List Ext} (h:kept p l=l):∀x,x∈l→p x.tag=true:=by
 unfold kept at h
 exact List.filter_eq_self.1 h
theorem AzG {p:Int→Bool} {l:List Ext} (h:∀x,x∈l→p x.tag=true):kept p l=l:=List.filter_eq_self.2 h
theorem AnJ:∀ {path:List EK} {h:Hello},EQ path h=(h,true)→∀b,b∈path→through b h=true
 | [],h,_=>by intro b hb;cases hb
 | b::r,h,hg=>by
  unfold EQ at hg
  by_cases hp:(Ba b h).2=true
  ·rw[if_pos hp]at hg
   have hc:(ET b&&(AP h&& !Jl b h))=true:=by
    unfold Ba at hp
    split at hp
    ·assumption
    ·simp at hp
   have e:(Ba b h).1=⟨h.versions,kept (stays b) h.exts⟩:=by unfold Ba;rw[if_pos hc]
   have hl:=Yx r (Ba b h).1
   rw[hg,e]at hl
   have hk:kept (stays b) h.exts=h.exts:=List.Sublist.eq_of_length_le List.filter_sublist hl
   rw[e,hk]at hg
   have ih:=AnJ (path:=r) (h:=h) hg
   intro b' hb'
   rcases List.mem_cons.1 hb' with rfl | hb'
   ·unfold through
    rw[hc,List.all_eq_true.2 (AuS hk)]
    rfl
   ·exact ih b' hb'
  ·rw[if_neg hp]at hg
   simp at hg
theorem Ao9:∀ {path:List EK} {h:Hello},(∀b,b∈path→through b h=true)→EQ path h=(h,true)
 | [],h,_=>rfl
 | b::r,h,hb=>by
  have h1:=hb b (by simp)
  unfold through at h1
  rw[Bool.and_eq_true]at h1
  have e:Ba b h=(h,true):=by
   unfold Ba
   rw[if_pos h1.1,AzG (List.all_eq_true.1 h1.2)]
  unfold EQ
  rw[e,if_pos rfl]
  exact Ao9 (fun b' hb'=>hb b' (by simp[hb']))
theorem OV {h:Hello} {path:List EK}:Bf h path=true↔(path.length≤4∧AP h=true)∧∀b,b∈path→through b h=true:=by
 unfold Bf AZ
 by_cases hc:(decide (path.length≤4)&&AP h)=true
 ·rw[if_pos hc]
  rw[Bool.and_eq_true,decide_eq_true_eq]at hc⊢
  constructor
  ·rintro ⟨h1,h2⟩
   exact⟨hc,AnJ (Prod.ext h2 h1)⟩
  ·rintro ⟨_,h2⟩
   rw[Ao9 h2]
   exact⟨rfl,rfl⟩
 ·rw[if_neg hc]
  constructor
  ·intro h1;simp at h1
  ·rintro ⟨⟨h1,h2⟩,_⟩
   exact absurd (by rw[h2,decide_eq_true h1];rfl) hc
theorem Aog:∀ {path:List EK} {vs:List Int},(EQ path ⟨vs,[]⟩).2=true→EQ path ⟨vs,[]⟩=(⟨vs,[]⟩,true)
 | [],_,_=>rfl
 | b::r,vs,hg=>by
  unfold EQ at hg⊢
  by_cases hp:(Ba b ⟨vs,[]⟩).2=true
  ·rw[if_pos hp]at hg⊢
   have e:(Ba b ⟨vs,[]⟩).1=⟨vs,[]⟩:=by
    unfold Ba at hp⊢
    split at hp
    ·rename_i hc
     rw[if_pos hc];rfl
    ·simp at hp
   rw[e]at hg⊢
   exact Aog hg
  ·rw[if_neg hp]at hg
   simp at hg
theorem Aa1 {path:List EK} {vs:List Int}:(AZ path ⟨vs,[]⟩).2=true↔Bf ⟨vs,[]⟩ path=true:=by
 constructor
 ·intro h
  unfold Bf
  unfold AZ at h⊢
  split at h
  ·rename_i hc
   rw[if_pos hc,Aog h]
   simp
  ·simp at h
 ·intro h
  unfold Bf at h
  rw[Bool.and_eq_true]at h
  exact h.1
def Akg (b:EK) (v:Int):Bool:= !(decide (0<b.limit)&&decide (b.limit<v))
def ABw (b:EK) (x:Ext):Bool:= !lossy b x&&stays b x.tag
theorem Ku {b:EK} {h:Hello}:through b h=true↔ET b=true∧AP h=true∧Akg b (Aii h.versions)=true∧∀x,x∈h.exts→ABw b x=true:=by
 unfold through Jl Akg ABw
 simp only[Bool.and_eq_true,Bool.not_eq_true',Bool.or_eq_false_iff,List.any_eq_false,List.all_eq_true]
 constructor
 ·rintro ⟨⟨h1,h2,h3,h4⟩,h5⟩
  exact⟨h1,h2,h3,fun x hx=>⟨by simpa using h4 x hx,h5 x hx⟩⟩
 ·rintro ⟨h1,h2,h3,h4⟩
  exact⟨⟨h1,h2,h3,fun x hx=>by simpa using(h4 x hx).1⟩,fun x hx=>(h4 x hx).2⟩
theorem AqY {b:EK} {v w:Int} (h:Akg b w=true) (hv:v≤w):Akg b v=true:=by
 unfold Akg at h⊢
 simp only[Bool.not_eq_true',Bool.and_eq_false_iff,decide_eq_false_iff_not]at h⊢
 omega
theorem Aay {l:List Ext}:BX l=true↔((∀x,x∈l→O9 x=true)∧l.Pairwise (fun x y=>x.tag≠y.tag))∧l.length≤6:=by
 unfold BX
 rw[Bool.and_eq_true,decide_eq_true_eq,Abn]
 have key:(∀i,i<l.length→Rf l i=true)↔((∀x,x∈l→O9 x=true)∧l.Pairwise (fun x y=>x.tag≠y.tag)):=by
  constructor
  ·intro h
   refine⟨fun x hx=> ?_,List.pairwise_iff_getElem.2 fun i j hi hj hij=> ?_⟩
   ·obtain⟨i,hi,rfl⟩:=List.getElem_of_mem hx
    have:=h i hi
    rw[O5 hi,Bool.and_eq_true]at this
    exact this.1
   ·have:=h j hj
    rw[O5 hj,Bool.and_eq_true,Bool.not_eq_true',List.any_eq_false]at this
    have:=this.2 l[i] (List.mem_take_iff_getElem.2 ⟨i,by omega,rfl⟩)
    unfold EZ at this
    simpa using this
  ·rintro ⟨h1,h2⟩ i hi
   rw[O5 hi,Bool.and_eq_true,Bool.not_eq_true',List.any_eq_false]
   refine⟨h1 _ (List.getElem_mem hi),fun x hx=> ?_⟩
   obtain⟨j,hj,rfl⟩:=List.mem_take_iff_getElem.1 hx
   have:=List.pairwise_iff_getElem.1 h2 j i (by omega) hi (by omega)
   unfold EZ
   simpa using this
 rw[key]
theorem AoS {l l':List Ext} (h:BX l=true) (hs:l'.Sublist l):BX l' =true:=by
 rw[Aay]at h⊢
 exact⟨⟨fun x hx=>h.1.1 x (hs.subset hx),h.1.2.sublist hs⟩,Nat.le_trans hs.length_le h.2⟩
theorem Axp {l l':List Int} (h:Ar l=true) (hs:l'.Sublist l) (h0:l'≠ []):Ar l' =true:=
 ZK ((MH h).sublist hs) (fun x hx=>MX h x (hs.subset hx)) (List.length_pos_iff.2 h0)
theorem ArY {l:List Int} (h:l≠ []):Aii l∈l:=by
 have h0:=List.length_pos_iff.2 h
 rw[Ams (by omega)]
 exact List.getElem_mem _
theorem AAK {l:List Int} (h:Ar l=true) {x:Int} (hx:x∈l):x≤Aii l:=by
 have h0:=Pj h
 rw[Ams (by omega)]
 obtain⟨i,hi,rfl⟩:=List.getElem_of_mem hx
 by_cases hl:i=l.length-1
 ·subst hl;exact Int.le_refl _
 ·have:=List.pairwise_iff_getElem.1 (MH h) i (l.length-1) hi (by omega) (by omega)
  omega
theorem AnA {l:List Int} (h:Ar l=true) {v:Int} (hv:v∈l):Ar [v]=true:=
 ZK (by simp) (by intro x hx;simp at hx;subst hx;exact MX h _ hv) (by simp)
theorem Ar7:BX []=true:=by decide
theorem Am7 (a b:List Int):(leftOf a b).Sublist a:=List.filter_sublist
theorem Akb {path:List EK} {l:List Int} (h:Ar l=true):leftOf l (Ak path l)=l.filter fun v=> !GR path v:=by
 unfold leftOf Ak
 rw[if_pos h]
 refine List.filter_congr fun v hv=> ?_
 congr 1
 by_cases g:GR path v=true
 ·simp[g,hv]
 ·simp[g]
theorem Aw6 {s l:List Int} (h:¬AB s l=0):AB s l∈l∧Ar l=true:=by
 unfold AB at h⊢
 split at h
 ·rename_i hv
  rw[if_pos hv]
  have h0:0<(common s l).length:=by
   rcases Nat.eq_zero_or_pos (common s l).length with e | e
   ·rw[List.eq_nil_of_length_eq_zero e]at h;exact absurd rfl h
   ·exact e
  have e:=Ab2 (l:=common s l) ((MH hv.1).sublist List.filter_sublist) (fun x hx=>by have:=(MX hv.1) x (List.mem_filter.1 hx).1;omega) h0
  rw[e]
  have:=List.getElem_mem (l:=common s l) (n:=(common s l).length-1) (by omega)
  exact⟨by simpa using(List.mem_filter.1 this).2,hv.2⟩
 ·exact absurd rfl h
def Ta (key:Int) (tags:List Int) (x:Hello):Prop:=∀v,v∈x.versions→¬BS key [AJ x,Au ⟨v,Hf (Eo x.exts tags)⟩] 1=0
theorem Aj6 {x:Hello} {v:Int} {tags:List Int} (hx:AP x=true) (hv:v∈x.versions):Cy x ⟨v,Hf (Eo x.exts tags)⟩=true:=by
 have h1:=MX (SX hx) v hv
 have hs:(Hf (Eo x.exts tags)).Sublist x.exts:=List.filter_sublist.trans List.filter_sublist
 have h2:=AoS (Ab5 hx) hs
 have h3:(Hf (Eo x.exts tags)).all (Aew x)=true:=by
  rw[List.all_eq_true]
  intro y hy
  have hm:=hs.subset hy
  have hr:=(List.mem_filter.1 hy).2
  unfold Aew
  rw[Bool.and_eq_true,decide_eq_true_eq]
  exact⟨List.mem_map.2 ⟨y,hm,rfl⟩,hr⟩
 unfold Cy Gp
 rw[hx,h2,h3]
 simp[hv,h1]
theorem Akd {x:Hello} {s tags:List Int} {key:Int} (hx:AP x=true) (hn:Ta key tags x):
 TR x x s tags key=if AB s x.versions=0 then D8 else⟨true,AB s x.versions,Ao (Hf (Eo x.exts tags))⟩:=by
 unfold TR
 by_cases hb:AB s x.versions=0
 ·have e:AU s tags x=(⟨0,[]⟩,false):=by unfold AU;rw[if_neg (by simp[hb])]
  rw[e,if_pos hb]
  rfl
 ·have e:AU s tags x=(⟨AB s x.versions,Hf (Eo x.exts tags)⟩,true):=by
   unfold AU;rw[if_pos (by simp[hx,hb])]
  rw[e,if_neg hb]
  have hm:=(Aw6 hb).1
  have hf:=Aj6 (tags:=tags) hx hm
  have hne:=hn _ hm
  rw[if_pos (by simp[hf,hne])]
theorem Ahi {x:Hello} {path:List EK} {s tags:List Int} {key:Int} (hw:Bf x path=true):Ns x path s tags key=TR x x s tags key:=by
 unfold Bf at hw
 rw[Bool.and_eq_true,decide_eq_true_eq]at hw
 unfold Ns
 rw[if_pos hw.1,hw.2]
theorem AeX {h:Hello} {path:List EK} (hh:AP h=true) (hl:leftOf h.versions (Ak path h.versions)≠ []) (hp:path.length≤4):
 (fallback h path).2=true∧Bf (fallback h path).1 path=true∧(fallback h path).1.versions=leftOf h.versions (Ak path h.versions)∧AP (fallback h path).1=true∧∃p,(fallback h path).1.exts=kept p h.exts:=by
 have hv:=SX hh
 have hx:=Ab5 hh
 have hlv:∀v,v∈leftOf h.versions (Ak path h.versions)→∀b,b∈path→ET b=true∧Akg b v=true:=by
  intro v hm b hb
  rw[Akb hv]at hm
  have h1:=(List.mem_filter.1 hm).2
  unfold GR at h1
  rw[Bool.not_not]at h1
  have:=(Ku.1 ((OV.1 (Aa1.1 h1)).2 b hb))
  exact⟨this.1,this.2.2.1⟩
 have hva:=Axp hv (Am7 _ _) hl
 obtain⟨lv,hlv'⟩:∃lv,lv=leftOf h.versions (Ak path h.versions):=⟨_,rfl⟩
 rw[←hlv']at hl hlv hva
 have e:fallback h path=(⟨lv,kept (fun t=> !decide (t∈CX path lv h.exts)) h.exts⟩,true):=by
  unfold fallback DL
  rw[←hlv',if_pos (by simp[hh,hl])]
 have hopen:isOpen path lv=true:=by
  unfold isOpen
  rw[hva,Bool.true_and]
  obtain⟨v0,r,rfl⟩:=List.exists_cons_of_ne_nil hl
  refine Aa1.2 (OV.2 ⟨⟨hp,?_⟩,fun b hb=>Ku.2 ⟨(hlv v0 (by simp) b hb).1,?_,(hlv v0 (by simp) b hb).2,by simp⟩⟩)
  all_goals (unfold AP;rw[Bool.and_eq_true];exact⟨AnA hva (by simp),Ar7⟩)
 have hk:BX (kept (fun t=> !decide (t∈CX path lv h.exts)) h.exts)=true:=AoS hx List.filter_sublist
 rw[e]
 refine⟨rfl,?_,hlv',by unfold AP;rw[hva,hk];rfl,fun t=> !decide (t∈CX path lv h.exts),rfl⟩
 refine OV.2 ⟨⟨hp,by unfold AP;rw[hva,hk];rfl⟩,fun b hb=>Ku.2 ⟨?_,by unfold AP;rw[hva,hk];rfl,?_,?_⟩⟩
 ·exact(hlv _ (ArY hl) b hb).1
 ·exact(hlv _ (ArY hl) b hb).2
 ·intro x hxm
  obtain⟨hxm,hxt⟩:=List.mem_filter.1 hxm
  have hnl:FZ path lv x=false:=by
   by_cases g:FZ path lv x=true
   ·exfalso
    have:x.tag∈CX path lv h.exts:=by
     unfold CX
     rw[if_pos (by rw[hx,hopen];rfl)]
     exact List.mem_map.2 ⟨x,List.mem_filter.2 ⟨hxm,g⟩,rfl⟩
    simp[this]at hxt
   ·simpa using g
  unfold FZ at hnl
  rw[Bool.not_eq_false']at hnl
  exact(Ku.1 ((OV.1 hnl).2 b hb)).2.2.2 x (by simp)
theorem Aty {h:Hello} {path:List EK} {s tags:List Int} {key:Int} (hh:AP h=true) (hp:path.length≤4)
 (hn:Ta key tags h) (hn2:AP (fallback h path).1=true→Ta key tags (fallback h path).1):
 ∃p,(AdV h path s tags key).deal=if AB s (leftOf h.versions (Ak path h.versions))=0 then D8 else⟨true,AB s (leftOf h.versions (Ak path h.versions)),Ao (Hf (Eo (kept p h.exts) tags))⟩:=by
 have hv:=SX hh
 by_cases hw:Bf h path=true
 ·have e3:BI h path=(h,1,true):=by
   unfold BI
   rw[if_pos hh,if_pos hw]
  refine⟨fun _=>true,?_⟩
  unfold AdV
  rw[e3,if_pos rfl]
  dsimp only
  rw[Ahi hw,Akd hh hn,Aj5]
  have e:leftOf h.versions (Ak path h.versions)=h.versions:=by
   rw[Akb hv]
   refine List.filter_eq_self.2 fun v hvm=> ?_
   unfold GR
   rw[Bool.not_not]
   have hone:AP ⟨[v],[]⟩=true:=by unfold AP;rw[AnA hv hvm,Ar7];rfl
   refine Aa1.2 (OV.2 ⟨⟨hp,hone⟩,fun b hb=> ?_⟩)
   have:=Ku.1 ((OV.1 hw).2 b hb)
   exact Ku.2 ⟨this.1,hone,AqY this.2.2.1 (AAK hv hvm),by simp⟩
  rw[e]
 ·by_cases hl:leftOf h.versions (Ak path h.versions)=[]
  ·have e:(fallback h path).2=false:=by
    unfold fallback DL
    rw[if_neg (by simp[hl])]
   have e2:AB s []=0:=by
    unfold AB
    rw[if_neg]
    rintro ⟨_,h2⟩
    exact absurd (Pj h2) (by simp)
   have e3:BI h path=(Ay,2,false):=by
    unfold BI
    rw[if_pos hh,if_neg hw,if_neg]
    rw[e]
    simp
   refine⟨fun _=>true,?_⟩
   unfold AdV
   rw[e3,hl,e2,if_pos rfl,if_neg (by simp)]
  ·obtain⟨f1,f2,f3,f4,p,f5⟩:=AeX hh hl hp
   have e3:BI h path=((fallback h path).1,2,true):=by
    unfold BI
    rw[if_pos hh,if_neg hw,if_pos]
    rw[f1,f2]
    rfl
   refine⟨p,?_⟩
   unfold AdV
   rw[e3,if_pos rfl]
   dsimp only
   rw[Ahi f2,Akd f4 (hn2 f4),f3,f5]
end Go.Eng.T
namespace Go.Eng.T
set_option maxRecDepth 100000
set_option maxHeartbeats 4000000
def stN (d v:Nat):Nat:=Nat.mod (Nat.add (Nat.add (Nat.mul d 1000003) v) 13) 2147483647
noncomputable def fN (l:List Nat):Nat→Nat:=List.rec (fun d=>d) (fun v _ ih d=>ih (stN d v)) l
def unN (e v:Nat):Nat:=Nat.mod (Nat.mul (Nat.sub (Nat.sub (Nat.add e 4294967294) v) 13) 1523789695) 2147483647
def Qo (l:List Nat):List Int:=List.map (fun n:Nat=>(n:Int)) l
def enN (l:List Nat):List Nat:=l.flatMap fun t=> [t,0]
def Awc:List Nat:=[446234,22530939,41398277,58763931,59679398,91107206,96481331,109858923,133629790,147007382,174581833,179344296,187959425,211730292,237334186,274482645,286540378,293349983,315434688,324257778,334302026,343588075,352583147,361406237,393297004,402358280,421688577,434249047,439506739,446408920,471063338,471397506,476838013,549163840,568031178,585396832,586312299,617740107,623114232,627264342,636491824,701214734,705977197,714592326,738363193,763967087,779315236,813173279,842067589,850890679,860934927,870220976,879216048,920168091,928991181,948321478,960881948,966139640,973041821,997696239,998030407,1003470914,1007091683,1038982450,1075796741,1094664079,1112029733,1144373008,1149747133,1153897243,1163124725,1185325051,1227847635,1232610098,1241225227,1290599988,1305948137,1339806180,1368700490,1377523580,1387567828,1396853877,1437805920,1446800992,1455624082,1474954379,1487514849,1499674722,1524329140,1530103815,1533724584,1565281183,1565615351,1602429642,1621296980,1638662634,1676380034,1679614677,1680530144,1689757626,1711957952,1717332077,1730709669,1754480536,1759242999,1767858128,1800195042,1817232889,1832581038,1858184932,1866439081,1895333391,1904156481,1907391124,1914200729,1945108524,1964438821,1973433893,1982256983,2001587280,2014147750,2026307623,2042539323,2056736716,2060357485,2067259666,2091914084,2092248252,2097688759,2129062543]
def AEg:Nat:=34618473132882764697454236002497984187778107345923047922323429903210194519246304564151017418775093817334019329305024051588420467326951849357233393115134166906079420124643467051807548019664515849445992450821651582552692940131622395304212426155069250384232741425269699829951216564819488996830898243313147954849189045902839188234017243972537585858954649600083282252257692632866832783950996388936843409611836503812032996631721302647625177135301441817594097885741814337494574265293901450258207370390830501240975948700407124604155205319164809160772524999624580441121465719011877352116964329122487727463852034962066807286723452461401351140267554069801251122135394200918044789662607824325698890062668754168847500299429742418377763736657020235396701378742139475122976014911090595189479717707597147765468251735163748093836063580776621890738720745944262141532799653447796997438920031369412814347457256603700308088165592581103665115495279534355916605622781101602095617251293332258512165657465126548134968324588446082721515624719475014380770017864270746304886956640280620908749527385168533556930645684257158192493167316044962166231798261668124055872438691131404707419511304332970882656938074174268942316753455382298876882210441821654508875979563073180717049678184376071974097479120709530717691992503192590163908357788522534829976859930794805843821867917645197435833840792209890665098555179494199572368099521572666914495365845731162834160861517191905600976706786489003430384915877727241678986940662259946311772856045021918243950443441771307319473303715048417775446634276112540440789585999559879969411575724073407565139930259367119237138203405642618549974200268497387743642386427317077444836528148115921218086727530718129804371033332144852249431930589589503314159751682100101359219086295250955956288635839588557956252640610572568201403236179561189626514212636133825655181802358039303501386286963167591514773913773384758259889812928980697440162956009991192796258733494620165407410675983943959174920074218495241312444638051592046736528569161612616919936188470725740060895592668551124533152867787960291462507234439076608026145553104440181337486254049016752006392433819704975178659809714311842418747419909671665190434976289222920264770136083292534178248610011443229575590538726085968522424172642315542874874188966002630955112010960874103040203479005444376422068383653115015595489686834164935371712999302748146887466342810205418821626710827577636540601803599006901262123971193526550784
def Apb:List (List Nat):=[[1],[1,2],[1,2,4],[1,2,5],[1,3],[1,3,4],[1,3,5],[1,4],[1,5],[2],[2,4],[2,5],[3],[3,4],[3,5],[4],[5]]
def AnW:List (List Nat):=[[],[1],[2],[3],[40],[200],[1,2],[1,3],[1,40],[1,200],[2,3],[2,40],[2,200],[3,40],[3,200],[40,200],[1,2,3],[1,2,40],[1,2,200],[1,3,40],[1,3,200],[1,40,200],[2,3,40],[2,3,200],[2,40,200],[3,40,200]]
def Axa:List (List Nat×List Nat):=[([],[]),([],[1]),([1],[]),([],[2]),([2],[]),([],[3]),([3],[]),([],[40]),([40],[]),([],[200]),([200],[]),([],[1,2]),([1],[2]),([1,2],[]),([],[1,3]),([1],[3]),([1,3],[]),([],[1,40]),([1],[40]),([1,40],[]),([],[1,200]),([1],[200]),([1,200],[]),([],[2,3]),([2],[3]),([2,3],[]),([],[2,40]),([2],[40]),([2,40],[]),([],[2,200]),([2],[200]),([2,200],[]),([],[3,40]),([3],[40]),([3,40],[]),([],[3,200]),([3],[200]),([3,200],[]),([],[40,200]),([40],[200]),([40,200],[]),([],[1,2,3]),([1],[2,3]),([1,2],[3]),([1,2,3],[]),([],[1,2,40]),([1],[2,40]),([1,2],[40]),([1,2,40],[]),([],[1,2,200]),([1],[2,200]),([1,2],[200]),([1,2,200],[]),([],[1,3,40]),([1],[3,40]),([1,3],[40]),([1,3,40],[]),([],[1,3,200]),([1],[3,200]),([1,3],[200]),([1,3,200],[]),([],[1,40,200]),([1],[40,200]),([1,40],[200]),([1,40,200],[]),([],[2,3,40]),([2],[3,40]),([2,3],[40]),([2,3,40],[]),([],[2,3,200]),([2],[3,200]),([2,3],[200]),([2,3,200],[]),([],[2,40,200]),([2],[40,200]),([2,40],[200]),([2,40,200],[]),([],[3,40,200]),([3],[40,200]),([3,40],[200]),([3,40,200],[])]
def gr0:List (List Nat):=[[42,0],[90,0],[154,0],[202,0],[250,0]]
def gr1:List (List Nat):=[[42,1,5],[42,1,21],[42,1,37],[42,1,53],[42,1,69],[42,1,85],[42,1,101],[42,1,117],[42,1,133],[42,1,149],[42,1,165],[42,1,181],[42,1,197],[42,1,213],[42,1,229],[42,1,245],[90,1,8],[90,1,24],[90,1,40],[90,1,56],[90,1,72],[90,1,88],[90,1,104],[90,1,120],[90,1,136],[90,1,152],[90,1,168],[90,1,184],[90,1,200],[90,1,216],[90,1,232],[90,1,248],[154,1,12],[154,1,28],[154,1,44],[154,1,60],[154,1,76],[154,1,92],[154,1,108],[154,1,124],[154,1,140],[154,1,156],[154,1,172],[154,1,188],[154,1,204],[154,1,220],[154,1,236],[154,1,252],[202,1,15],[202,1,31],[202,1,47],[202,1,63],[202,1,79],[202,1,95],[202,1,111],[202,1,127],[202,1,143],[202,1,159],[202,1,175],[202,1,191],[202,1,207],[202,1,223],[202,1,239],[202,1,255],[250,1,2],[250,1,18],[250,1,34],[250,1,50],[250,1,66],[250,1,82],[250,1,98],[250,1,114],[250,1,130],[250,1,146],[250,1,162],[250,1,178],[250,1,194],[250,1,210],[250,1,226],[250,1,242]]
def gr2:List (List Nat):=[[42,2,5,5],[42,2,21,21],[42,2,37,37],[42,2,53,53],[42,2,69,69],[42,2,85,85],[42,2,101,101],[42,2,117,117],[42,2,133,133],[42,2,149,149],[42,2,165,165],[42,2,181,181],[42,2,197,197],[42,2,213,213],[42,2,229,229],[42,2,245,245],[90,2,8,8],[90,2,24,24],[90,2,40,40],[90,2,56,56],[90,2,72,72],[90,2,88,88],[90,2,104,104],[90,2,120,120],[90,2,136,136],[90,2,152,152],[90,2,168,168],[90,2,184,184],[90,2,200,200],[90,2,216,216],[90,2,232,232],[90,2,248,248],[154,2,12,12],[154,2,28,28],[154,2,44,44],[154,2,60,60],[154,2,76,76],[154,2,92,92],[154,2,108,108],[154,2,124,124],[154,2,140,140],[154,2,156,156],[154,2,172,172],[154,2,188,188],[154,2,204,204],[154,2,220,220],[154,2,236,236],[154,2,252,252],[202,2,15,15],[202,2,31,31],[202,2,47,47],[202,2,63,63],[202,2,79,79],[202,2,95,95],[202,2,111,111],[202,2,127,127],[202,2,143,143],[202,2,159,159],[202,2,175,175],[202,2,191,191],[202,2,207,207],[202,2,223,223],[202,2,239,239],[202,2,255,255],[250,2,2,2],[250,2,18,18],[250,2,34,34],[250,2,50,50],[250,2,66,66],[250,2,82,82],[250,2,98,98],[250,2,114,114],[250,2,130,130],[250,2,146,146],[250,2,162,162],[250,2,178,178],[250,2,194,194],[250,2,210,210],[250,2,226,226],[250,2,242,242]]
def AFu:List Nat:=[55000178,103000322,167000514,215000658,263000802]
def AFG:List Nat:=[1103323212,2090163859,542639859,1529480506,368837506]
def AFm:List Nat:=[1596661385,872175765,1337850703,613365083,2036363110]
def AFr:List Nat:=[2035477483,490832621,2010445550,465800688,1068639473]
def AFx:List Nat:=[1140317238,1140317254,1140317270,1140317286,1140317302,1140317318,1140317334,1140317350,1140317366,1140317382,1140317398,1140317414,1140317430,1140317446,1140317462,1140317478,873839929,873839945,873839961,873839977,873839993,873840009,873840025,873840041,873840057,873840073,873840089,873840105,873840121,873840137,873840153,873840169,1950192615,1950192631,1950192647,1950192663,1950192679,1950192695,1950192711,1950192727,1950192743,1950192759,1950192775,1950192791,1950192807,1950192823,1950192839,1950192855,1683715306,1683715322,1683715338,1683715354,1683715370,1683715386,1683715402,1683715418,1683715434,1683715450,1683715466,1683715482,1683715498,1683715514,1683715530,1683715546,1417237981,1417237997,1417238013,1417238029,1417238045,1417238061,1417238077,1417238093,1417238109,1417238125,1417238141,1417238157,1417238173,1417238189,1417238205,1417238221]
def AFn:List Nat:=[1913381333,1108727680,304074027,1646904021,842250368,37596715,1380426709,575773056,1918603050,1113949397,309295744,1652125738,847472085,42818432,1385648426,580994773,1606524297,801870644,2144700638,1340046985,535393332,1878223326,1073569673,268916020,1611746014,807092361,2438708,1345268702,540615049,1883445043,1078791390,274137737,481553700,1824383694,1019730041,215076388,1557906382,753252729,2096082723,1291429070,486775417,1829605411,1024951758,220298105,1563128099,758474446,2101304440,1296650787,174696664,1517526658,712873005,2055702999,1251049346,446395693,1789225687,984572034,179918381,1522748375,718094722,2060924716,1256271063,451617410,1794447404,989793751,672493281,2015323275,1210669622,406015969,1748845963,944192310,139538657,1482368651,677714998,2020544992,1215891339,411237686,1754067680,949414027,144760374,1487590368]
def AFh:List Nat:=[2116886996,2020152928,1923418860,1826684792,1729950724,1633216656,1536482588,1439748520,1343014452,1246280384,1149546316,1052812248,956078180,859344112,762610044,665875976,662733565,565999497,469265429,372531361,275797293,179063225,82329157,2133078736,2036344668,1939610600,1842876532,1746142464,1649408396,1552674328,1455940260,1359206192,1587173853,1490439785,1393705717,1296971649,1200237581,1103503513,1006769445,910035377,813301309,716567241,619833173,523099105,426365037,329630969,232896901,136162833,133020422,36286354,2087035933,1990301865,1893567797,1796833729,1700099661,1603365593,1506631525,1409897457,1313163389,1216429321,1119695253,1022961185,926227117,829493049,923084706,826350638,729616570,632882502,536148434,439414366,342680298,245946230,149212162,52478094,2103227673,2006493605,1909759537,1813025469,1716291401,1619557333]
def AFi:List Nat:=[464201236,1238228099,2012254962,638798178,1412825041,39368257,813395120,1587421983,213965199,987992062,1762018925,388562141,1162589004,1936615867,563159083,1337185946,1338292251,2112319114,738862330,1512889193,139432409,913459272,1687486135,314029351,1088056214,1862083077,488626293,1262653156,2036680019,663223235,1437250098,63793314,1072091173,1846118036,472661252,1246688115,2020714978,647258194,1421285057,47828273,821855136,1595881999,222425215,996452078,1770478941,397022157,1171049020,1945075883,1946182188,572725404,1346752267,2120779130,747322346,1521349209,147892425,921919288,1695946151,322489367,1096516230,1870543093,497086309,1271113172,2045140035,671683251,2046246340,672789556,1446816419,73359635,847386498,1621413361,247956577,1021983440,1796010303,422553519,1196580382,1970607245,597150461,1371177324,2145204187,771747403]
def AFo:List Nat:=[1826047945,1842048009,1858048073,1874048137,1890048201,1906048265,1922048329,1938048393,1954048457,1970048521,1986048585,2002048649,2018048713,2034048777,2050048841,2066048905,668404957,684405021,700405085,716405149,732405213,748405277,764405341,780405405,796405469,812405533,828405597,844405661,860405725,876405789,892405853,908405917,1272364620,1288364684,1304364748,1320364812,1336364876,1352364940,1368365004,1384365068,1400365132,1416365196,1432365260,1448365324,1464365388,1480365452,1496365516,1512365580,114721632,130721696,146721760,162721824,178721888,194721952,210722016,226722080,242722144,258722208,274722272,290722336,306722400,322722464,338722528,354722592,1088562227,1104562291,1120562355,1136562419,1152562483,1168562547,1184562611,1200562675,1216562739,1232562803,1248562867,1264562931,1280562995,1296563059,1312563123,1328563187]
def AFD:List Nat:=[2123141333,931606680,1887555674,696021021,1651970015,460435362,1416384356,224849703,1180798697,2136747691,945213038,1901162032,709627379,1665576373,474041720,1429990714,235718870,1191667864,133211,956082205,1912031199,720496546,1676445540,484910887,1440859881,249325228,1205274222,13739569,969688563,1925637557,734102904,1690051898,2014122880,822588227,1778537221,587002568,1542951562,351416909,1307365903,115831250,1071780244,2027729238,836194585,1792143579,600608926,1556557920,365023267,1320972261,126700417,1082649411,2038598405,847063752,1803012746,611478093,1567427087,375892434,1331841428,140306775,1096255769,2052204763,860670110,1816619104,625084451,1581033445,1578296254,386761601,1342710595,151175942,1107124936,2063073930,871539277,1827488271,635953618,1591902612,400367959,1356316953,164782300,1120731294,2076680288,885145635]
def AFj:List Nat:=[1483287451,429230294,1522656784,468599627,1562026117,507968960,1601395450,547338293,1640764783,586707626,1680134116,626076959,1719503449,665446292,1758872782,704815625,2022708247,968651090,2062077580,1008020423,2101446913,1047389756,2140816246,1086759089,32701932,1126128422,72071265,1165497755,111440598,1204867088,150809931,1244236421,594452328,1687878818,633821661,1727248151,673190994,1766617484,712560327,1805986817,751929660,1845356150,791298993,1884725483,830668326,1924094816,870037659,1963464149,1133873124,79815967,1173242457,119185300,1212611790,158554633,1251981123,197923966,1291350456,237293299,1330719789,276662632,1370089122,316031965,1409458455,355401298,579867430,1673293920,619236763,1712663253,658606096,1752032586,697975429,1791401919,737344762,1830771252,776714095,1870140585,816083428,1909509918,855452761,1948879251]
def AFw:List Nat:=[415555204,2106356211,1649673571,1192990931,736308291,279625651,1970426658,1513744018,1057061378,600378738,143696098,1834497105,1377814465,921131825,464449185,7766545,1378983045,922300405,465617765,8935125,1699736132,1243053492,786370852,329688212,2020489219,1563806579,1107123939,650441299,193758659,1884559666,1427877026,971194386,1231897735,775215095,318532455,2009333462,1552650822,1095968182,639285542,182602902,1873403909,1416721269,960038629,503355989,46673349,1737474356,1280791716,824109076,47841929,1738642936,1281960296,825277656,368595016,2059396023,1602713383,1146030743,689348103,232665463,1923466470,1466783830,1010101190,553418550,96735910,1787536917,1467952410,1011269770,554587130,97904490,1788705497,1332022857,875340217,418657577,2109458584,1652775944,1196093304,739410664,282728024,1973529031,1516846391,1060163751]
def okX (x:Nat):Bool:=Nat.beq (Nat.land (Nat.shiftRight AEg (Nat.mod x 8192)) 1) 0||Awc.all fun b=> !Nat.beq b x
noncomputable def RL (vs A:List Nat) (n len:Nat):Nat:=fN (enN A) (fN (n:: []) (fN vs (fN [1,len,vs.length] 11)))
noncomputable def runK (K:Nat) (l:List Nat):Bool:=List.rec true (fun k _ ih=>and (okX (Nat.mod (Nat.add K k) 2147483647)) ih) l
def I6:Nat→Nat
 | 0=>1
 | n+1=>Nat.mod (Nat.mul (I6 n) 1000003) 2147483647
noncomputable def Sv (vs A B:List Nat) (n len g:Nat):Nat:=Nat.mod (Nat.add (Nat.mul (RL vs A n len) (I6 (g+2*B.length))) (fN (enN B) 0)) 2147483647
def tkN (c j:Nat):List Nat:=match c,j with
 | 0,0=>AFu
 | 0,1=>AFG
 | 0,2=>AFm
 | 0,3=>AFr
 | 1,0=>AFx
 | 1,1=>AFn
 | 1,2=>AFh
 | 1,3=>AFi
 | 2,0=>AFo
 | 2,1=>AFD
 | 2,2=>AFj
 | 2,3=>AFw
 | _,_=> []
noncomputable def AB6 (vs A B:List Nat) (k:Nat):Bool:=okX (Sv vs A B k (2+vs.length+2*k) 0)&&(runK (Sv vs A B (k+1) (4+vs.length+2*k) 2) (tkN 0 B.length)&&(runK (Sv vs A B (k+1) (5+vs.length+2*k) 3) (tkN 1 B.length)&&runK (Sv vs A B (k+1) (6+vs.length+2*k) 4) (tkN 2 B.length)))
noncomputable def AAj (vs:List Nat):Bool:=List.rec true (fun p _ ih=>and (AB6 vs p.1 p.2 (p.1.length+p.2.length)) ih) Axa
noncomputable def AEJ:Bool:=List.rec true (fun vs _ ih=>and (AAj vs) ih) Apb
theorem AC9:AEJ=true:=by decide +kernel
end Go.Eng.T
namespace Go.Eng.T
set_option maxRecDepth 100000
set_option maxHeartbeats 4000000
theorem Az4 {d v:Nat} (hv:v<2147483647):JL (d:Int) (v:Int)=((stN d v:Nat):Int):=by
 have e0:stN d v=(d*1000003+v+13) % 2147483647:=rfl
 have e1:Qp (v:Int) 2147483647=(v:Int):=by
  unfold Qp
  rw[if_pos ⟨by omega,by omega⟩,Int.tmod_eq_emod_of_nonneg (a:=(v:Int)) (by omega),Int.tmod_eq_emod_of_nonneg (by omega)]
  omega
 unfold JL
 rw[e1,Int.tmod_eq_emod_of_nonneg (by omega),e0]
 omega
theorem AwL (d v:Nat):stN d v<2147483647:=Nat.mod_lt _ (by decide)
theorem Aly (d:Nat):fN [] d=d:=rfl
theorem AyM (l:List Nat):fN l=List.rec (motive:=fun _=>Nat→Nat) (fun d=>d) (fun v _ ih d=>ih (stN d v)) l:=rfl
theorem MZ (v:Nat) (l:List Nat) (d:Nat):fN (v::l) d=fN l (stN d v):=by
 rw[AyM,AyM]
theorem AqZ (d v:Nat):stN d v=(d*1000003+v+13) % 2147483647:=rfl
theorem Aw7 (v:Nat) (l:List Nat):Qo (v::l)=(v:Int)::Qo l:=rfl
theorem AyA:∀(a b:List Nat) (d:Nat),fN (a++b) d=fN b (fN a d)
 | [],_,_=>rfl
 | v::a,b,d=>by rw[List.cons_append,MZ,MZ,AyA a b]
theorem Uv:∀(l:List Nat) (d:Nat),d<2147483647→fN l d<2147483647
 | [],_,h=>h
 | v::l,d,_=>by rw[MZ];exact Uv l _ (AwL _ _)
theorem Akh:∀(l:List Nat) (d:Nat),(∀v,v∈l→v<2147483647)→(Qo l).foldl JL (d:Int)=((fN l d:Nat):Int)
 | [],_,_=>rfl
 | v::l,d,h=>by
  rw[Aw7,List.foldl_cons,Az4 (h v (by simp)),Akh l _ (fun x hx=>h x (by simp[hx])),MZ]
theorem AbK {l:List Nat} (h:∀v,v∈l→v<2147483647):hash (Qo l)=((fN l 11:Nat):Int):=Akh l 11 h
theorem AEI {d v e:Nat} (hd:d<2147483647) (hv:v<2147483647) (h:stN d v=e):d=unN e v:=by
 rw[AqZ]at h
 have e1:unN e v=((e+4294967294-v-13)*1523789695) % 2147483647:=rfl
 rw[e1]
 omega
def AxB (e:Nat):List Nat→Nat
 | []=>e
 | v::l=>unN (AxB e l) v
theorem AsG:∀(l:List Nat) {d e:Nat},d<2147483647→(∀v,v∈l→v<2147483647)→fN l d=e→d=AxB e l
 | [],_,_,_,_,h=>h
 | v::l,d,e,hd,hv,h=>by
  rw[MZ]at h
  have:=AsG l (AwL d v) (fun x hx=>hv x (by simp[hx])) h
  exact AEI hd (hv v (by simp)) this
def ABX:Nat:=2123248274
def AsY (v:Nat) (s:List Nat):List Nat:=v::s.length::enN s
theorem Arp {T:Nat} (hT:T<2147483647) (h:fN [77,1,T,77] 11=0):T=ABX:=by
 simp only[MZ,Aly,AqZ]at h
 unfold ABX
 omega
theorem Axx {x e:Nat} (hx:x<2147483647) (h:stN 11 x=e):x=(e+2147483647-11000046) % 2147483647:=by
 rw[AqZ]at h
 omega
def AB7 (v:Nat) (s:List Nat):Nat:=Nat.mod (Nat.sub (Nat.add (AxB ABX ((AsY v s).length::AsY v s)) 2147483647) 11000046) 2147483647
def AAz:Bool:=[1,2,3,4,5].all fun v=>AnW.all fun s=>Awc.any fun b=>Nat.beq b (AB7 v s)
theorem ACb:AAz=true:=by decide +kernel
theorem ACe {v:Nat} {s:List Nat} (hv:v∈[1,2,3,4,5]) (hs:s∈AnW):AB7 v s∈Awc:=by
 have h:=List.all_eq_true.1 (List.all_eq_true.1 ACb v hv) s hs
 rw[List.any_eq_true]at h
 obtain⟨b,hb,e⟩:=h
 rw[←Nat.eq_of_beq_eq_true e]
 exact hb
def AAH:Bool:=Awc.all fun b=> !Nat.beq (Nat.land (Nat.shiftRight AEg (Nat.mod b 8192)) 1) 0
theorem ADm:AAH=true:=by decide +kernel
theorem ACA {x:Nat} (h:okX x=true):¬x∈Awc:=by
 intro hx
 unfold okX at h
 rw[Bool.or_eq_true]at h
 rcases h with h | h
 ·have:=List.all_eq_true.1 ADm x hx
  rw[h]at this
  simp at this
 ·have:=List.all_eq_true.1 h x hx
  rw[Nat.beq_refl]at this
  simp at this
def hbN (vs A g B:List Nat) (k:Nat):List Nat:=vs.length::(vs++k::(enN A++(g++enN B)))
theorem ZG (l:List Nat):(enN l).length=2*l.length:=by
 induction l with
 | nil=>rfl
 | cons a l ih=>simp only[enN,List.flatMap_cons,List.length_append,List.length_cons,List.length_nil]at *;omega
theorem pre_eq (vs A g B:List Nat) (k len:Nat):fN (enN B) (fN g (RL vs A k len))=fN (1::len::hbN vs A g B k) 11:=by
 unfold RL hbN
 simp only[MZ,Aly,AyA]
def Azw (g:List Nat):Prop:=g∈gr0∨g∈gr1∨g∈gr2
theorem AzQ:gr0.all (fun g=>Nat.beq g.length 2)=true:=by decide +kernel
theorem AzY:gr1.all (fun g=>Nat.beq g.length 3)=true:=by decide +kernel
theorem Az9:gr2.all (fun g=>Nat.beq g.length 4)=true:=by decide +kernel
def Like (a b:Nat):Prop:=a % 2147483647=b % 2147483647
theorem Like.add {a b c d:Nat} (h:Like a b) (h':Like c d):Like (a+c) (b+d):=by
 unfold Like at *
 rw[Nat.add_mod,h,h',←Nat.add_mod]
theorem Like.mul {a b c d:Nat} (h:Like a b) (h':Like c d):Like (a*c) (b*d):=by
 unfold Like at *
 rw[Nat.mul_mod,h,h',←Nat.mul_mod]
theorem Z0 (a:Nat):Like (a % 2147483647) a:=by
 unfold Like
 exact Nat.mod_mod _ _
theorem Like.trans {a b c:Nat} (h:Like a b) (h':Like b c):Like a c:=Eq.trans h h'
theorem Like.symm {a b:Nat} (h:Like a b):Like b a:=Eq.symm h
theorem Aso (d v:Nat):Like (stN d v) (d*1000003+(v+13)):=by
 have e:stN d v=(d*1000003+v+13) % 2147483647:=rfl
 rw[e,show d*1000003+(v+13)=d*1000003+v+13 by omega]
 exact Z0 _
theorem Af7 (n:Nat):Like (I6 (n+1)) (I6 n*1000003):=Z0 _
theorem pow_add (a:Nat):∀b,Like (I6 (a+b)) (I6 a*I6 b)
 | 0=>by unfold Like;rw[Nat.add_zero];simp[I6]
 | b+1=>by
  refine(Af7 (a+b)).trans (((pow_add a b).mul (show Like 1000003 1000003 from rfl)).trans ?_)
  refine Like.trans ?_ ((show Like (I6 a) (I6 a)from rfl).mul (Af7 b).symm)
  rw[Nat.mul_assoc]
  exact rfl
theorem Ae6:∀(l:List Nat) (d:Nat),Like (fN l d) (d*I6 l.length+fN l 0)
 | [],d=>by unfold Like;simp[Aly,I6]
 | v::l,d=>by
  rw[MZ,MZ]
  refine(Ae6 l (stN d v)).trans ?_
  have h1:Like (stN d v*I6 l.length+fN l 0) ((d*1000003+(v+13))*I6 l.length+fN l 0):=((Aso d v).mul rfl).add rfl
  have h2:Like (fN l (stN 0 v)) ((v+13)*I6 l.length+fN l 0):=(Ae6 l (stN 0 v)).trans (by
   have:=((Aso 0 v).mul (show Like (I6 l.length) (I6 l.length)from rfl)).add (show Like (fN l 0) (fN l 0)from rfl)
   simpa using this)
  have h3:Like (d*I6 (v::l).length) (d*(I6 l.length*1000003)):=(show Like d d from rfl).mul (Af7 l.length)
  refine h1.trans (Like.trans ?_ (h3.add h2).symm)
  have:(d*1000003+(v+13))*I6 l.length+fN l 0=d*(I6 l.length*1000003)+((v+13)*I6 l.length+fN l 0):=by
   rw[Nat.add_mul,Nat.mul_comm (I6 l.length),←Nat.mul_assoc]
   omega
  rw[this]
  exact rfl
theorem Ao0 {K:Nat}:∀ {l:List Nat},runK K l=true→∀k,k∈l→okX ((K+k) % 2147483647)=true
 | [],_,k,hk=>by cases hk
 | a::l,h,k,hk=>by
  have h':(okX ((K+a) % 2147483647)&&runK K l)=true:=h
  rw[Bool.and_eq_true]at h'
  rcases List.mem_cons.1 hk with rfl | hk
  ·exact h'.1
  ·exact Ao0 h'.2 k hk
def grN (c:Nat):List (List Nat):=match c with
 | 0=>gr0
 | 1=>gr1
 | _=>gr2
theorem AEG:((List.range 3).all fun c=>(List.range 4).all fun j=>decide (tkN c j=(grN c).map fun g=>Nat.mod (Nat.mul (fN g 0) (I6 (2*j))) 2147483647))=true:=by decide +kernel
theorem Au6:Axa.all (fun p=>decide (p.2.length≤3))=true:=by decide +kernel
theorem AmZ {q:List Nat×List Nat→Bool}:∀ {l:List (List Nat×List Nat)},(List.rec (motive:=fun _=>Bool) true (fun p _ ih=>and (q p) ih) l:Bool)=true→∀p,p∈l→q p=true
 | [],_,p,hp=>by cases hp
 | a::l,h,p,hp=>by
  have h':(q a&&(List.rec (motive:=fun _=>Bool) true (fun p _ ih=>and (q p) ih) l:Bool))=true:=h
  rw[Bool.and_eq_true]at h'
  rcases List.mem_cons.1 hp with rfl | hp
  ·exact h'.1
  ·exact AmZ h'.2 p hp
theorem AoU {q:List Nat→Bool}:∀ {l:List (List Nat)},(List.rec (motive:=fun _=>Bool) true (fun p _ ih=>and (q p) ih) l:Bool)=true→∀p,p∈l→q p=true
 | [],_,p,hp=>by cases hp
 | a::l,h,p,hp=>by
  have h':(q a&&(List.rec (motive:=fun _=>Bool) true (fun p _ ih=>and (q p) ih) l:Bool))=true:=h
  rw[Bool.and_eq_true]at h'
  rcases List.mem_cons.1 hp with rfl | hp
  ·exact h'.1
  ·exact AoU h'.2 p hp
theorem Ax6 (vs A:List Nat) (n len:Nat):RL vs A n len<2147483647:=by
 unfold RL
 exact Uv _ _ (Uv _ _ (Uv _ _ (Uv _ _ (by decide))))
theorem head_eq {vs A g B:List Nat} {n len c:Nat} (h:runK (Sv vs A B n len g.length) (tkN c B.length)=true) (hc:c<3) (hg:g∈grN c) (hb:B.length≤3):okX (fN (enN B) (fN g (RL vs A n len)))=true:=by
 have ht:=List.all_eq_true.1 (List.all_eq_true.1 AEG c (List.mem_range.2 hc)) B.length (List.mem_range.2 (by omega))
 rw[decide_eq_true_eq]at ht
 rw[ht]at h
 have hk:=Ao0 h _ (List.mem_map.2 ⟨g,hg,rfl⟩)
 have e:(Sv vs A B n len g.length+(fN g 0*I6 (2*B.length)) % 2147483647) % 2147483647=fN (enN B) (fN g (RL vs A n len)):=by
  have hlt:fN (enN B) (fN g (RL vs A n len))<2147483647:=Uv _ _ (Uv _ _ (Ax6 _ _ _ _))
  rw[←Nat.mod_eq_of_lt hlt]
  have h1:Like (Sv vs A B n len g.length) (RL vs A n len*(I6 g.length*I6 (2*B.length))+fN (enN B) 0):=
   (Z0 _).trans (((show Like (RL vs A n len) (RL vs A n len)from rfl).mul (pow_add g.length (2*B.length))).add rfl)
  have h2:Like (fN (enN B) (fN g (RL vs A n len))) ((RL vs A n len*I6 g.length+fN g 0)*I6 (2*B.length)+fN (enN B) 0):=by
   have:=Ae6 (enN B) (fN g (RL vs A n len))
   rw[ZG]at this
   exact this.trans (((Ae6 g (RL vs A n len)).mul rfl).add rfl)
  refine(h1.add (Z0 _)).trans (Like.trans ?_ h2.symm)
  have:RL vs A n len*(I6 g.length*I6 (2*B.length))+fN (enN B) 0+fN g 0*I6 (2*B.length)=(RL vs A n len*I6 g.length+fN g 0)*I6 (2*B.length)+fN (enN B) 0:=by
   rw[Nat.add_mul,Nat.mul_assoc]
   omega
  rw[this]
  exact rfl
 rw[←e]
 exact hk
theorem Avb {vs A B:List Nat} {n len:Nat} (h:okX (Sv vs A B n len 0)=true):okX (fN (enN B) (RL vs A n len))=true:=by
 have e:Sv vs A B n len 0=fN (enN B) (RL vs A n len):=by
  have hlt:fN (enN B) (RL vs A n len)<2147483647:=Uv _ _ (Ax6 _ _ _ _)
  rw[←Nat.mod_eq_of_lt hlt]
  have:=Ae6 (enN B) (RL vs A n len)
  rw[ZG]at this
  unfold Like at this
  rw[this]
  unfold Sv
  rw[Nat.zero_add]
  rfl
 rw[←e]
 exact h
theorem ABU {vs A B g:List Nat} {k:Nat} (hv:vs∈Apb) (hs:(A,B)∈Axa) (hg:g=[]∧k=A.length+B.length∨Azw g∧k=A.length+B.length+1):
 okX (fN (1::(hbN vs A g B k).length::hbN vs A g B k) 11)=true:=by
 have hN:=AC9
 unfold AEJ at hN
 have hV:AAj vs=true:=AoU (q:=AAj) hN vs hv
 unfold AAj at hV
 have h:=AmZ (q:=fun p=>AB6 vs p.1 p.2 (p.1.length+p.2.length)) hV (A,B) hs
 have hb3:=List.all_eq_true.1 Au6 (A,B) hs
 rw[decide_eq_true_eq]at hb3
 unfold AB6 at h
 simp only[Bool.and_eq_true]at h
 obtain⟨h0,h1,h2,h3⟩:=h
 have hl:(hbN vs A g B k).length=2+vs.length+2*(A.length+B.length)+g.length:=by
  unfold hbN
  simp only[List.length_cons,List.length_append,ZG]
  omega
 rw[←pre_eq,hl]
 rcases hg with⟨rfl,rfl⟩ | ⟨hg,rfl⟩
 ·have:=Avb h0
  rw[Aly,List.length_nil,Nat.add_zero]
  exact this
 ·rcases hg with hg | hg | hg
  ·have e:=Nat.eq_of_beq_eq_true (List.all_eq_true.1 AzQ g hg)
   have h':runK (Sv vs A B (A.length+B.length+1) (4+vs.length+2*(A.length+B.length)) g.length) (tkN 0 B.length)=true:=by rw[e];exact h1
   have:=head_eq (c:=0) h' (by decide) hg hb3
   rw[e,show 2+vs.length+2*(A.length+B.length)+2=4+vs.length+2*(A.length+B.length)by omega]
   exact this
  ·have e:=Nat.eq_of_beq_eq_true (List.all_eq_true.1 AzY g hg)
   have h':runK (Sv vs A B (A.length+B.length+1) (5+vs.length+2*(A.length+B.length)) g.length) (tkN 1 B.length)=true:=by rw[e];exact h2
   have:=head_eq (c:=1) h' (by decide) hg hb3
   rw[e,show 2+vs.length+2*(A.length+B.length)+3=5+vs.length+2*(A.length+B.length)by omega]
   exact this
  ·have e:=Nat.eq_of_beq_eq_true (List.all_eq_true.1 Az9 g hg)
   have h':runK (Sv vs A B (A.length+B.length+1) (6+vs.length+2*(A.length+B.length)) g.length) (tkN 2 B.length)=true:=by rw[e];exact h3
   have:=head_eq (c:=2) h' (by decide) hg hb3
   rw[e,show 2+vs.length+2*(A.length+B.length)+4=6+vs.length+2*(A.length+B.length)by omega]
   exact this
theorem Av6 {hb ab:List Nat} (h1:∀v,v∈hb→v≤255) (h2:∀v,v∈ab→v≤255) (hl1:hb.length≤1000) (hl2:ab.length≤1000):
 BS 77 [Qo hb,Qo ab] 1=((fN [77,1,fN (fN (1::hb.length::hb) 11::ab.length::ab) 11,77] 11:Nat):Int):=by
 have e1:Gw [Qo hb,Qo ab]=true:=by
  unfold Gw
  have a1:allIn (Qo hb) 0 255=true:=Sd fun x hx=>by
   obtain⟨n,hn,rfl⟩:=List.mem_map.1 hx
   have:=h1 n hn
   omega
  have a2:allIn (Qo ab) 0 255=true:=Sd fun x hx=>by
   obtain⟨n,hn,rfl⟩:=List.mem_map.1 hx
   have:=h2 n hn
   omega
  simp[a1,a2]
 have e2:FI [Qo hb,Qo ab]=((fN (fN (1::hb.length::hb) 11::ab.length::ab) 11:Nat):Int):=by
  unfold FI
  rw[if_pos e1]
  show Ht (Ht 1 (Qo hb)) (Qo ab)=_
  have c1:Ht 1 (Qo hb)=((fN (1::hb.length::hb) 11:Nat):Int):=by
   unfold Ht
   have:(1:Int)::((Qo hb).length:Int)::Qo hb=Qo (1::hb.length::hb):=by simp[Qo]
   rw[this]
   refine AbK fun v hv=> ?_
   rcases List.mem_cons.1 hv with rfl | hv
   ·decide
   rcases List.mem_cons.1 hv with rfl | hv
   ·omega
   ·have:=h1 v hv;omega
  rw[c1]
  have hlt:=Uv (1::hb.length::hb) 11 (by decide)
  generalize fN (1::hb.length::hb) 11=x at hlt
  unfold Ht
  have:((x:Nat):Int)::((Qo ab).length:Int)::Qo ab=Qo (x::ab.length::ab):=by simp[Qo]
  rw[this]
  refine AbK fun v hv=> ?_
  rcases List.mem_cons.1 hv with rfl | hv
  ·exact hlt
  rcases List.mem_cons.1 hv with rfl | hv
  ·omega
  ·have:=h2 v hv;omega
 unfold BS
 rw[e1,e2,if_pos (by decide)]
 have hlt:=Uv (fN (1::hb.length::hb) 11::ab.length::ab) 11 (by decide)
 generalize fN (fN (1::hb.length::hb) 11::ab.length::ab) 11=T at hlt
 unfold keyed
 have:((77:Int):: [1,((T:Nat):Int)]++ [77])=Qo [77,1,T,77]:=rfl
 rw[this]
 refine AbK fun v hv=> ?_
 simp at hv
 omega
theorem ADf {hb ab:List Nat} {v:Nat} {s:List Nat} (h1:∀v,v∈hb→v≤255) (hl1:hb.length≤1000) (hab:ab=AsY v s) (hv:v∈[1,2,3,4,5]) (hs:s∈AnW) (hs2:∀t,t∈s→t≤255) (hsl:s.length≤3)
 (hok:okX (fN (1::hb.length::hb) 11)=true):¬BS 77 [Qo hb,Qo ab] 1=0:=by
 have hv5:v≤5:=by simp at hv;omega
 have h2:∀x,x∈ab→x≤255:=by
  intro x hx
  rw[hab]at hx
  unfold AsY enN at hx
  rcases List.mem_cons.1 hx with rfl | hx
  ·omega
  rcases List.mem_cons.1 hx with rfl | hx
  ·omega
  obtain⟨t,ht,hx⟩:=List.mem_flatMap.1 hx
  have:=hs2 t ht
  simp at hx
  omega
 have hl2:ab.length≤1000:=by
  rw[hab]
  unfold AsY
  simp only[List.length_cons,ZG]
  omega
 rw[Av6 h1 h2 hl1 hl2]
 intro h0
 have hx:=Uv (1::hb.length::hb) 11 (by decide)
 generalize fN (1::hb.length::hb) 11=x at h0 hok hx
 have hT:=Arp (Uv (x::ab.length::ab) 11 (by decide)) (by omega)
 rw[MZ]at hT
 have hb:=AsG (ab.length::ab) (AwL 11 x) (fun y hy=>by
  rcases List.mem_cons.1 hy with rfl | hy
  ·omega
  ·have:=h2 y hy;omega) hT
 have hx2:=Axx hx hb
 rw[hab]at hx2
 exact ACA hok (by have:=ACe hv hs;unfold AB7 at this;rw[hx2];exact this)
end Go.Eng.T
namespace Go.Eng.T
set_option maxRecDepth 100000
set_option maxHeartbeats 4000000
theorem O6 (p:Int→Bool) (ts:List Int):kept p (bare ts)=bare (ts.filter p):=by
 unfold kept bare
 rw[List.filter_map]
 rfl
theorem Sj (p:Int→Bool) (a b:List Ext):kept p (a++b)=kept p a++kept p b:=List.filter_append ..
def AzT (ts:List Int) (seed:Int) (l:List Ext):Prop:=∃A B ge,l=bare A++(ge++bare B)∧(A++B).Sublist ts∧(ge=[]∨ge=[⟨DU seed,QI seed⟩])
theorem AzK {ts:List Int} {seed:Int} {l:List Ext} (h:AzT ts seed l) (p:Int→Bool):AzT ts seed (kept p l):=by
 obtain⟨A,B,ge,rfl,hs,hg⟩:=h
 refine⟨A.filter p,B.filter p,kept p ge,by rw[Sj,Sj,O6,O6],?_,?_⟩
 ·rw[←List.filter_append]
  exact List.filter_sublist.trans hs
 ·rcases hg with rfl | rfl
  ·exact .inl rfl
  ·unfold kept
   simp only[List.filter_cons,List.filter_nil]
   split
   ·exact .inr rfl
   ·exact .inl rfl
theorem AsU (ts:List Int) (seed:Int):AzT ts seed (BQ (bare ts) seed):=by
 unfold BQ
 split
 ·refine⟨ts.take (WE (bare ts) seed),ts.drop (WE (bare ts) seed),[⟨DU seed,QI seed⟩],?_,?_,.inr rfl⟩
  ·unfold bare
   rw[List.map_take,List.map_drop]
   rfl
  ·rw[List.take_append_drop]
   exact List.Sublist.refl _
 ·exact⟨ts,[],[],by simp[bare],by simp,.inl rfl⟩
theorem AqA (seed:Int):Aq (DU seed)=true:=by
 have:=Lb seed 0 (n:=16) ⟨by omega,by omega⟩
 unfold Aq DU
 rw[Bool.and_eq_true,decide_eq_true_eq,decide_eq_true_eq,Int.tmod_eq_emod_of_nonneg (by omega)]
 exact⟨⟨by omega,by omega⟩,by omega⟩
def VIn (b:Int) (l:List Int):Prop:=Up l∧∃a,(a=2∨a=3)∧∀x,x∈l→x=1∨x=a∨x=b
theorem ABa {b:Int} {l l':List Int} (h:VIn b l) (hs:l'.Sublist l):VIn b l':=by
 obtain⟨h1,a,ha,h2⟩:=h
 exact⟨List.Pairwise.sublist hs h1,a,ha,fun x hx=>h2 x (hs.subset hx)⟩
theorem AAc {b:Int} {l:List Int} (h:VIn b l):VIn b (Gb l b):=by
 obtain⟨h1,a,ha,h2⟩:=h
 refine⟨YS b h1,a,ha,fun x hx=> ?_⟩
 rcases(KT l b x).1 hx with hx | rfl
 ·exact h2 x hx
 ·exact .inr (.inr rfl)
def mkB (p q r:Bool) (a b:Nat):List Nat:=(if p then [1]else [])++((if q then [a]else [])++(if r then [b]else []))
theorem AEh:∀a,a∈[2,3]→∀b,b∈[4,5]→∀p q r:Bool,(p||(q||r))=true→mkB p q r a b∈Apb:=by decide +kernel
theorem ACX {p q r:Bool} {a b:Nat} {x:Int}:x∈Qo (mkB p q r a b)↔(p=true∧x=1)∨(q=true∧x=(a:Int))∨(r=true∧x=(b:Int)):=by
 cases p<;>cases q<;>cases r<;>simp[mkB,Qo]
theorem AD6 {p q r:Bool} {a b:Nat} (h1:1<a) (h2:a<b):Up (Qo (mkB p q r a b)):=by
 have h3:1<b:=by omega
 unfold Up
 cases p<;>cases q<;>cases r<;>simp[mkB,Qo,h1,h2,h3]<;>omega
theorem Ate {b:Int} {l:List Int} (hb:b=4∨b=5) (h:VIn b l) (h0:l≠ []):∃vs,vs∈Apb∧l=Qo vs:=by
 obtain⟨h1,a,ha,h2⟩:=h
 obtain⟨a',ha',ea⟩:∃a':Nat,a'∈[2,3]∧a=(a':Int):=by
  rcases ha with rfl | rfl
  ·exact⟨2,by simp,rfl⟩
  ·exact⟨3,by simp,rfl⟩
 obtain⟨b',hb',eb⟩:∃b':Nat,b'∈[4,5]∧b=(b':Int):=by
  rcases hb with rfl | rfl
  ·exact⟨4,by simp,rfl⟩
  ·exact⟨5,by simp,rfl⟩
 refine⟨mkB (decide (1∈l)) (decide (a∈l)) (decide (b∈l)) a' b',AEh a' ha' b' hb' _ _ _ ?_,?_⟩
 ·obtain⟨x,r,rfl⟩:=List.exists_cons_of_ne_nil h0
  rcases h2 x (by simp)with rfl | rfl | rfl<;>simp
 ·refine Aqm h1 (AD6 (by simp at ha';omega) (by simp at ha' hb';omega)) fun x=> ?_
  rw[ACX,←ea,←eb]
  simp only[decide_eq_true_eq]
  constructor
  ·intro hx
   rcases h2 x hx with rfl | rfl | rfl
   ·exact .inl ⟨hx,rfl⟩
   ·exact .inr (.inl ⟨hx,rfl⟩)
   ·exact .inr (.inr ⟨hx,rfl⟩)
  ·rintro (⟨h,rfl⟩ | ⟨h,rfl⟩ | ⟨h,rfl⟩)<;>exact h
def AnI:List Nat→List (List Nat)
 | []=> [[]]
 | a::l=>AnI l++(AnI l).map (a::·)
theorem Atp {s l:List Nat} (h:s.Sublist l):s∈AnI l:=by
 induction h with
 | slnil=>simp[AnI]
 | cons a _ ih=>exact List.mem_append_left _ ih
 | cons_cons a _ ih=>exact List.mem_append_right _ (List.mem_map.2 ⟨_,ih,rfl⟩)
theorem AFq:(AnI [1,2,3,40,200]).all (fun s=> !decide (s.length≤3)||decide (s∈AnW))=true:=by decide +kernel
theorem ADh:AnW.all (fun s=>(List.range (s.length+1)).all fun k=>decide ((s.take k,s.drop k)∈Axa))=true:=by decide +kernel
theorem Akf:AnW.all (fun s=>decide (s.length≤3)&&s.all fun t=>decide (t≤255))=true:=by decide +kernel
theorem ApL:Apb.all (fun s=>decide (s.length≤3)&&s.all fun t=>decide (t≤5))=true:=by decide +kernel
theorem AwV:(gr0++(gr1++gr2)).all (fun s=>decide (s.length≤4)&&s.all fun t=>decide (t≤255))=true:=by decide +kernel
theorem Akw {ts l:List Int} (h:Acd ts 3) (hs:l.Sublist ts):∃s,s∈AnW∧l=Qo s:=by
 obtain⟨h1,h2,h3⟩:=h
 have e:ts=([1,2,3,40,200]:List Int).filter fun x=>decide (x∈ts):=by
  refine Aqm h1 (List.Pairwise.sublist List.filter_sublist (by simp)) fun x=> ?_
  rw[List.mem_filter,decide_eq_true_eq]
  exact⟨fun hx=>⟨h2 x hx,hx⟩,fun h=>h.2⟩
 have hb:ts.Sublist (Qo [1,2,3,40,200]):=by rw[e];exact List.filter_sublist
 obtain⟨s,hss,rfl⟩:=List.sublist_map_iff.1 (hs.trans hb)
 refine⟨s,?_,rfl⟩
 have hl:=hs.length_le
 rw[List.length_map]at hl
 have:=List.all_eq_true.1 AFq s (Atp hss)
 rw[Bool.or_eq_true,decide_eq_true_eq]at this
 rcases this with h | h
 ·have:s.length≤3:=by omega
  simp[this]at h
 ·exact h
theorem Apc {ts A B:List Int} (h:Acd ts 3) (hs:(A++B).Sublist ts):∃A' B',A=Qo A'∧B=Qo B'∧(A',B')∈Axa∧A'++B'∈AnW:=by
 obtain⟨s,hss,e⟩:=Akw h hs
 obtain⟨A',B',e1,e2,e3⟩:=List.map_eq_append_iff.1 e.symm
 refine⟨A',B',e2.symm,e3.symm,?_,by rw[←e1];exact hss⟩
 have:=List.all_eq_true.1 (List.all_eq_true.1 ADh s hss) A'.length (List.mem_range.2 (by rw[e1,List.length_append];omega))
 rw[decide_eq_true_eq,e1]at this
 simpa using this
def ABN (seed:Int):Bool:=(gr0++(gr1++gr2)).any fun g=>decide (Qo g=AqR ⟨DU seed,QI seed⟩)
theorem AAC:((List.range 55).all fun n=>(List.range 5).all fun i=>ABN (16*(n:Int)+(i:Int)))=true:=by decide +kernel
theorem ACN {n i:Nat} (hn:n<55) (hi:i<5):∃g,Azw g∧Qo g=AqR ⟨DU (16*(n:Int)+(i:Int)),QI (16*(n:Int)+(i:Int))⟩∧g.length≤4∧∀t,t∈g→t≤255:=by
 have h:=List.all_eq_true.1 (List.all_eq_true.1 AAC n (List.mem_range.2 hn)) i (List.mem_range.2 hi)
 unfold ABN at h
 rw[List.any_eq_true]at h
 obtain⟨g,hg,e⟩:=h
 have hs:=List.all_eq_true.1 AwV g hg
 rw[Bool.and_eq_true,decide_eq_true_eq,List.all_eq_true]at hs
 refine⟨g,?_,by simpa using e,hs.1,fun t ht=>by simpa using hs.2 t ht⟩
 unfold Azw
 rcases List.mem_append.1 hg with h | h
 ·exact .inl h
 ·exact .inr (List.mem_append.1 h)
theorem Af3 (l:List Nat):(bare (Qo l)).flatMap AqR=Qo (enN l):=by
 induction l with
 | nil=>rfl
 | cons a l ih=>
  have:bare (Qo (a::l))=⟨(a:Int),[]⟩::bare (Qo l):=rfl
  rw[this,List.flatMap_cons,ih]
  rfl
theorem ArL {l:List Ext} (h:BX l=true):(Dq l).1=(l.length:Int)::l.flatMap AqR:=by
 unfold Dq
 rw[if_pos h]
 unfold Lj
 rw[List.take_length]
theorem AlI (a:List Nat):(Qo a).length=a.length:=List.length_map ..
theorem Ake {x:Hello} {ts tags:List Int} {b:Int} {n i:Nat} (hx:AP x=true) (hv:VIn b x.versions) (hb:b=4∨b=5) (ht:Acd ts 3) (hn:n<55) (hi:i<5)
 (he:AzT ts (16*(n:Int)+(i:Int)) x.exts):Ta 77 tags x:=by
 intro v hvx
 have hva:=SX hx
 obtain⟨vs,hvs,ev⟩:=Ate hb hv (by intro h0;rw[h0]at hvx;cases hvx)
 obtain⟨A,B,ge,ee,hs,hg⟩:=he
 have hfit:=Aj6 (tags:=tags) hx hvx
 have hC:∃C,Hf (Eo x.exts tags)=bare C∧C.Sublist (A++B):=by
  rw[ee]
  unfold Hf Eo
  rw[Sj,Sj,Sj,Sj,O6,O6,O6,O6]
  have hge:kept (fun t=> !Aq t) (kept (fun t=>decide (t∈tags)) ge)=[]:=by
   rcases hg with rfl | rfl
   ·rfl
   ·unfold kept
    refine List.filter_eq_nil_iff.2 fun y hy=> ?_
    have:=(List.mem_filter.1 hy).1
    simp at this
    subst this
    simp[AqA]
  rw[hge]
  refine⟨((A.filter fun t=>decide (t∈tags)).filter fun t=> !Aq t)++((B.filter fun t=>decide (t∈tags)).filter fun t=> !Aq t),by simp[bare],?_⟩
  exact List.Sublist.append (List.filter_sublist.trans List.filter_sublist) (List.filter_sublist.trans List.filter_sublist)
 obtain⟨C,hC,hCs⟩:=hC
 obtain⟨s,hss,es⟩:=Akw ht (hCs.trans hs)
 obtain⟨A',B',eA,eB,hab,habs⟩:=Apc ht hs
 have hsm:=List.all_eq_true.1 Akf s hss
 rw[Bool.and_eq_true,decide_eq_true_eq,List.all_eq_true]at hsm
 have habm:=List.all_eq_true.1 Akf _ habs
 rw[Bool.and_eq_true,decide_eq_true_eq,List.all_eq_true]at habm
 have hvm:=List.all_eq_true.1 ApL _ hvs
 rw[Bool.and_eq_true,decide_eq_true_eq,List.all_eq_true]at hvm
 rw[hC]
 have hans:∃v':Nat,v'∈[1,2,3,4,5]∧Au ⟨v,bare C⟩=Qo (AsY v' s):=by
  obtain⟨v',hv',rfl⟩:∃v':Nat,v'∈vs∧v=(v':Int):=by
   rw[ev]at hvx
   obtain⟨v',h1,h2⟩:=List.mem_map.1 hvx
   exact⟨v',h1,h2.symm⟩
  have h5:=hvm.2 v' hv'
  rw[decide_eq_true_eq]at h5
  have h1:=MX hva _ hvx
  refine⟨v',by simp;unfold InV at h1;omega,?_⟩
  rw[hC]at hfit
  unfold Cy at hfit
  simp only[Bool.and_eq_true]at hfit
  have ha:=hfit.2.1
  unfold Au
  rw[if_pos ha]
  unfold Gp at ha
  rw[Bool.and_eq_true]at ha
  rw[ArL ha.2,es,Af3,F7,AlI]
  rfl
 obtain⟨v',hv5,ea⟩:=hans
 rw[ea]
 have hhb:∃g k,AJ x=Qo (hbN vs A' g B' k)∧(g=[]∧k=A'.length+B'.length∨Azw g∧k=A'.length+B'.length+1)∧g.length≤4∧∀t,t∈g→t≤255:=by
  have eh:AJ x=(x.versions.length:Int)::(x.versions++(x.exts.length:Int)::x.exts.flatMap AqR):=by
   unfold AJ
   rw[if_pos hx,ArL (Ab5 hx)]
   rfl
  rcases hg with hg | hg
  ·refine⟨[],A'.length+B'.length,?_,.inl ⟨rfl,rfl⟩,by simp,by simp⟩
   rw[eh,ev,ee,hg,eA,eB]
   simp only[List.nil_append,List.flatMap_append,Af3,List.length_append,F7,AlI,hbN]
   simp only[Qo,List.map_cons,List.map_append]
  ·obtain⟨g,hgr,eg,hgl,hgs⟩:=ACN hn hi
   refine⟨g,A'.length+B'.length+1,?_,.inr ⟨hgr,rfl⟩,hgl,hgs⟩
   rw[eh,ev,ee,hg,eA,eB]
   have:((A'.length+(1+B'.length):Nat):Int)=((A'.length+B'.length+1:Nat):Int):=by omega
   simp only[List.flatMap_append,List.flatMap_cons,List.flatMap_nil,List.append_nil,Af3,List.length_append,List.length_cons,List.length_nil,Nat.zero_add,F7,AlI,hbN,this,←eg]
   simp only[Qo,List.map_cons,List.map_append]
 obtain⟨g,k,eh,hgk,hgl,hgs⟩:=hhb
 rw[eh]
 have hk:k≤4:=by
  have:=habm.1
  rw[List.length_append]at this
  rcases hgk with⟨_,h⟩ | ⟨_,h⟩<;>omega
 refine ADf ?_ ?_ rfl hv5 hss (fun t ht=>by simpa using hsm.2 t ht) hsm.1 (ABU hvs hab hgk)
 ·intro y hy
  unfold hbN enN at hy
  rcases List.mem_cons.1 hy with rfl | hy
  ·have:=hvm.1;omega
  rcases List.mem_append.1 hy with hy | hy
  ·have:=hvm.2 y hy
   rw[decide_eq_true_eq]at this
   omega
  rcases List.mem_cons.1 hy with rfl | hy
  ·omega
  rcases List.mem_append.1 hy with hy | hy
  ·obtain⟨t,ht,hy⟩:=List.mem_flatMap.1 hy
   have:=habm.2 t (List.mem_append_left _ ht)
   rw[decide_eq_true_eq]at this
   simp at hy
   omega
  rcases List.mem_append.1 hy with hy | hy
  ·exact hgs y hy
  ·obtain⟨t,ht,hy⟩:=List.mem_flatMap.1 hy
   have:=habm.2 t (List.mem_append_right _ ht)
   rw[decide_eq_true_eq]at this
   simp at hy
   omega
 ·have h1:=habm.1
  have h2:=hvm.1
  rw[List.length_append]at h1
  unfold hbN
  simp only[List.length_cons,List.length_append,ZG]
  omega
theorem Xx {e:Ai} (h:Aj e=true):Ar e.versions=true∧EO e.tags=true∧e.tags.any Aq=false∧e.path.length≤4∧∀b,b∈e.path→ET b=true:=by
 unfold Aj at h
 simp only[Bool.and_eq_true,decide_eq_true_eq,Bool.not_eq_true',List.all_eq_true]at h
 exact⟨h.1,h.2.2.1,h.2.2.2.1,h.2.2.2.2.1,h.2.2.2.2.2.1⟩
theorem AwN {e:Ai} (h:Aj e=true) (hu:Up e.tags) (hr:∀t,t∈e.tags→0≤t∧t≤255) (seed:Int):Dt e seed=⟨e.versions,BQ (bare e.tags) seed⟩∧AP (Dt e seed)=true:=by
 have e1:Dt e seed=⟨e.versions,BQ (bare e.tags) seed⟩:=by unfold Dt;rw[if_pos h]
 refine⟨e1,?_⟩
 rw[e1]
 unfold AP
 rw[(Xx h).1,Bool.true_and]
 have hb:BX (bare e.tags)=true:=by
  rw[Aay]
  refine⟨⟨fun x hx=> ?_,?_⟩,?_⟩
  ·obtain⟨t,ht,rfl⟩:=List.mem_map.1 hx
   have:=hr t ht
   unfold O9
   simp only[Bool.and_eq_true,decide_eq_true_eq]
   exact⟨⟨by omega,by omega⟩,by simp,by rfl⟩
  ·unfold bare
   rw[List.pairwise_map]
   exact List.Pairwise.imp (fun h=>by dsimp only;omega) hu
  ·have:=Qj h
   rw[F7];omega
 unfold BQ
 split
 ·rename_i hc
  simp only[Bool.and_eq_true,decide_eq_true_eq,Bool.not_eq_true',decide_eq_false_iff_not]at hc
  have h1:=Aay.1 hb
  have hp:((bare e.tags).take (WE (bare e.tags) seed)++⟨DU seed,QI seed⟩::(bare e.tags).drop (WE (bare e.tags) seed)).Perm (⟨DU seed,QI seed⟩::bare e.tags):=by
   have:=List.perm_middle (a:=(⟨DU seed,QI seed⟩:Ext)) (l₁:=(bare e.tags).take (WE (bare e.tags) seed)) (l₂:=(bare e.tags).drop (WE (bare e.tags) seed))
   rwa [List.take_append_drop]at this
  have p0:=Lb seed 0 (n:=16) ⟨by omega,by omega⟩
  have p3:=Lb seed 3 (n:=256) ⟨by omega,by omega⟩
  rw[Aay]
  refine⟨⟨fun x hx=> ?_,?_⟩,?_⟩
  ·rcases List.mem_cons.1 (hp.subset hx)with rfl | hx
   ·unfold O9
    simp only[Bool.and_eq_true,decide_eq_true_eq]
    refine⟨?_,?_,?_⟩
    ·unfold DU
     exact⟨by omega,by omega⟩
    ·have:=AfG seed
     omega
    ·refine Sd fun y hy=> ?_
     have:=List.eq_of_mem_replicate hy
     omega
   ·exact h1.1.1 x hx
  ·refine(hp.pairwise_iff (fun h=>Ne.symm h)).2 (List.pairwise_cons.2 ⟨fun y hy hn=>hc.2.2 ?_,h1.1.2⟩)
   exact List.mem_map.2 ⟨y,hy,hn.symm⟩
  ·have:=hp.length_eq
   have:=hc.2.1
   simp at *
   omega
 ·exact hb
structure VG (b:Int) (e:Ai):Prop where
 ok:Aj e=true
 vers:VIn b e.versions
 tags:Acd e.tags 3
theorem Aqb {b:Int} {e:Ai} {s tags:List Int} {n i:Nat} (h:VG b e) (hb:b=4∨b=5) (hn:n<55) (hi:i<5):
 ∃t,(GA e s tags 77 (16*(n:Int)+(i:Int))).deal=(if IW e s=0 then D8 else⟨true,IW e s,t⟩):=by
 obtain⟨h1,h2,h3⟩:=h
 have hp:=Xx h1
 obtain⟨eh,hh⟩:=AwN h1 h3.1 (fun t ht=>(ABY (h3.2.1 t ht)).1) (16*(n:Int)+(i:Int))
 have hex:=AsU e.tags (16*(n:Int)+(i:Int))
 have n1:Ta 77 tags (Dt e (16*(n:Int)+(i:Int))):=Ake hh (by rw[eh];exact h2) hb h3 hn hi (by rw[eh];exact hex)
 have n2:AP (fallback (Dt e (16*(n:Int)+(i:Int))) e.path).1=true→Ta 77 tags (fallback (Dt e (16*(n:Int)+(i:Int))) e.path).1:=by
  intro hf
  by_cases hl:leftOf (Dt e (16*(n:Int)+(i:Int))).versions (Ak e.path (Dt e (16*(n:Int)+(i:Int))).versions)=[]
  ·exfalso
   unfold fallback DL at hf
   rw[if_neg (by simp[hl])]at hf
   exact absurd hf (by decide)
  ·obtain⟨f1,f2,f3,f4,p,f5⟩:=AeX hh hl hp.2.2.2.1
   refine Ake hf (by rw[f3,eh];exact ABa h2 (Am7 _ _)) hb h3 hn hi ?_
   rw[f5,eh]
   exact AzK hex p
 obtain⟨p,hd⟩:=Aty (s:=s) hh hp.2.2.2.1 n1 n2
 refine⟨Ao (Hf (Eo (kept p (Dt e (16*(n:Int)+(i:Int))).exts) tags)),?_⟩
 unfold GA IW
 rw[if_pos h1,if_pos h1,hd,eh]
theorem As2 {b:Int} {w:World} {n i:Nat} (hi:i<w.ends.length) (h:VG b w.ends[i]) (hb:b=4∨b=5) (hk:w.key=77) (hw:w.now=(n:Int)) (hn:n<55) (hl:w.ends.length≤5):
 ∃t,(Hl w (i:Int)).deal=(if E8 w (i:Int)=0 then D8 else⟨true,E8 w (i:Int),t⟩):=by
 obtain⟨t,ht⟩:=Aqb (s:=w.server) (tags:=w.tags) h hb hn (show i<5 by omega)
 refine⟨t,?_⟩
 have hq:Qt (i:Int) 0 ((w.ends.length:Int)-1):=⟨by omega,by omega⟩
 have e1:Hl w (i:Int)=GA w.ends[i] w.server w.tags 77 (16*(n:Int)+(i:Int)):=by
  unfold Hl
  rw[if_pos hq]
  have:clip w.now=(n:Int):=by rw[hw];unfold clip;omega
  simp[hi,hk,this]
 have e2:E8 w (i:Int)=IW w.ends[i] w.server:=by
  unfold E8
  rw[if_pos hq]
  simp[hi]
 rw[e1,e2,ht]
end Go.Eng.T
namespace Go.Eng.T
set_option maxRecDepth 20000
set_option maxHeartbeats 2000000
structure W33 (w:World):Prop where
 sz:Bo w≤8000
 key:w.key=77
 now:0≤w.now∧w.now≤8
 few:w.ends.length≤5
 ver:w.rollout.version=4∨w.rollout.version=5
 ends:∀e,e∈w.ends→VG w.rollout.version e
theorem AzN {b:Int} {e:Ai} (h:AwF e):VG b e:=by
 obtain⟨h1,_,y,hy,hv⟩:=h
 refine⟨Ayp h1,?_,h1.tags⟩
 rw[hv]
 refine⟨(R5 hy).1.1,2+y,by omega,fun x hx=> ?_⟩
 rcases(KT _ _ _).1 hx with hx | rfl
 ·simp at hx;exact .inl hx
 ·exact .inr (.inl rfl)
theorem AC4 {b:Int} {e:Ai} (hb:b=4∨b=5) (h:VG b e):VG b ⟨Gb e.versions b,e.tags,e.path,e.cls⟩:=
 ⟨AjC h.ok (AxG (Xx h.ok).1 (by omega)),AAc h.vers,h.tags⟩
theorem ACg {b:Int} {l:List Ai} {j:Nat} {e:Ai} (h:∀x,x∈l→VG b x) (he:VG b e):∀x,x∈l.set j e→VG b x:=by
 intro x hx
 rcases List.mem_or_eq_of_mem_set hx with hx | rfl
 ·exact h x hx
 ·exact he
abbrev UW (R:Rel):Prop:=∀c:Cur,Ga c→Xu R [] c W33 (fun w=> .agg (FH w))
theorem At8 (D:Dn) (hB:FK (D Dj)) (hO:AeM (D Amx)) (hW:Wo (D AhG)) (hP:TF (D Ke)) (hD:QE (D Ak6)):UW (Body D KM):=by
 intro c hc
 refine NE (fun Q hQ=> ?_)
 simp -implicitDefEqProofs
 obtain⟨w,c1,hw,hc1,pw⟩:=hW c hc
 simp -implicitDefEqProofs [DI,ints]at pw
 refine Aa (pw) ?_
 have hsz:=hw.sz
 have hok:=hw.ok
 have hkey:=hw.key.1
 have hver:=hw.ver
 have hfew:=hw.few
 have hei0:∀e,e∈w.ends→VG w.rollout.version e:=fun e he=>AzN (hw.eok e he)
 obtain⟨sv,tg,key,es0,⟨rv,rs,rp,ro⟩,least,pct,stg0,log,now0,hurt,rch0⟩:=w
 dsimp only at hkey hver hfew hei0
 have hk0:es0.length≤Er Af es0:=Nr
 simp only[Bo,G8]at hsz
 have hrs:0<rs.length:=by
  unfold D5 Lx Br at hok
  simp only[Bool.and_eq_true,decide_eq_true_eq]at hok
  have:=hok.2.2.2.1.1.2.1.1.2
  have:=this.1
  omega
 simp -implicitDefEqProofs
 obtain⟨nw,c2,hnw,hc2,pnw⟩:=hB c1 9 hc1 (by omega)
 simp -implicitDefEqProofs [DI,ints]at pnw
 refine Aa (pnw) ?_
 simp -implicitDefEqProofs
 obtain⟨LI,hLI⟩:∃LI:Nat→St→Prop,LI=fun k s=>∃j cc es o9,j+k=es0.length∧(es:List Ai).length=es0.length∧Er Af es≤Er Af es0+j∧(∀e,e∈es→VG rv e)∧Ga cc∧s=⟨[.ptr 0 0,.ptr 1 0,.ptr 8 0,I j,.undef,.undef,.undef,.undef],[.var (DI cc),.var zW,.arr 1 0 sv.length (ints sv),.arr 1 0 tg.length (ints tg),.arr 4 0 es.length (es.flatMap Ap),.arr 1 0 rs.length (ints rs),.free,.arr 8 0 log.length (log.flatMap AQ),.var [.arr 2,.arr 3,I key,.arr 4,I rv,.arr 5,I rp,B ro,I least,I pct,.arr 14,.arr 7,I nw,I hurt,I rch0],o9,.free,.free,.free,.free,.arr 5 0 stg0.length (stg0.flatMap A7)]⟩:=⟨_,rfl⟩
 refine Ae LI ?_ (es0.length) _ (by rw[hLI];exact⟨0,c2,es0,.free,by simp,rfl,by omega,hei0,hc2,by simp[ints]⟩)
 intro k s hs
 rw[hLI]at hs
 obtain⟨j,cc,es,o9,hj,hel,hes,hei,hcc,hs⟩:=hs
 subst hs
 by_cases hjn:j<es0.length
 ·have hw:IntKind.i64.wrap ((j:Int)+1)=(j+1:Nat):=by rw[Ac (by omega) (by omega)];simp
  have hje:j<es.length:=by omega
  have hv:=size_at (f:=Af) hje
  have hvl:es[j].versions.length≤Af es[j]:=by unfold Af;omega
  simp -implicitDefEqProofs [hje]
  obtain⟨q,c3,hq,hc3,pq⟩:=hO cc 2 hcc (by omega)
  simp -implicitDefEqProofs [DI,ints]at pq
  refine Aa (pq) ?_
  by_cases g:q=true
  ·simp -implicitDefEqProofs [g,hje]
   have pp:=hP es[j].versions rv (by omega)
   have hpl:=U5 es[j].versions rv
   have hin:=AC4 hver (hei es[j] (List.getElem_mem hje))
   generalize Gb es[j].versions rv=pv at pp hpl hin
   refine Aa (pp) ?_
   simp -implicitDefEqProofs [hje]
   have hset:=Ahm (f:=Af) es j hje ⟨pv,es[j].tags,es[j].path,es[j].cls⟩ (by unfold Af;dsimp only;omega)
   refine⟨k-1,by omega,?_⟩
   rw[hLI]
   exact⟨j+1,c3,es.set j ⟨pv,es[j].tags,es[j].path,es[j].cls⟩,_,by omega,by simp[hel],by omega,ACg hei hin,hc3,by simp[hw];rfl⟩
  ·simp -implicitDefEqProofs [g]
   refine⟨k-1,by omega,?_⟩
   rw[hLI]
   exact⟨j+1,c3,es,_,by omega,hel,by omega,hei,hc3,by simp[hw];rfl⟩
 have hjn':¬j<es.length:=by omega
 have hesb:Er Af es≤Er Af es0+es0.length:=by omega
 simp -implicitDefEqProofs [hjn']
 obtain⟨x,c3,hx,hc3,px⟩:=(hB cc rs.length hcc (by omega))
 simp -implicitDefEqProofs [DI,ints]at px
 refine Aa (px) ?_
 have hxs:=hx.2.2 (by omega)
 have w1:IntKind.i64.wrap (x+1)=x+1:=Ac (by omega) (by omega)
 simp -implicitDefEqProofs [w1]
 obtain⟨y,c4,hy,hc4,py⟩:=hB c3 7 hc3 (by omega)
 simp -implicitDefEqProofs [DI,ints]at py
 refine Aa (py) ?_
 have hy7:=hy.2.2 (by omega)
 obtain⟨n,rfl⟩:∃n:Nat,y=n:=⟨y.toNat,by omega⟩
 simp -implicitDefEqProofs
 obtain⟨LI,hLI⟩:∃LI:Nat→St→Prop,LI=fun k s=>∃j cd stg o9 o10 o11 o12,j+k=n∧Er BJ stg≤Er BJ stg0+j*(Er Af es0+es0.length+13)∧Ga cd∧s=⟨[.ptr 0 0,.ptr 1 0,.ptr 8 0,.undef,I k,.undef,.undef,.undef],[.var (DI cd),.var zW,.arr 1 0 sv.length (ints sv),.arr 1 0 tg.length (ints tg),.arr 4 0 es.length (es.flatMap Ap),.arr 1 0 rs.length (ints rs),.free,.arr 8 0 log.length (log.flatMap AQ),.var [.arr 2,.arr 3,I key,.arr 4,I rv,.arr 5,I x,B ro,I least,I pct,.arr 14,.arr 7,I nw,I hurt,I (x+1)],o9,o10,o11,o12,.free,.arr 5 0 stg.length (stg.flatMap A7)]⟩:=⟨_,rfl⟩
 refine Ae LI ?_ (n) _ (by rw[hLI];exact⟨0,c4,stg0,o9,.free,.free,.free,by simp,by omega,hc4,by simp[ints]⟩)
 intro k s hs
 rw[hLI]at hs
 obtain⟨j,cd,stg,o9,o10,o11,o12,hj,hst,hcd,hs⟩:=hs
 subst hs
 by_cases hk:0<k
 ·have hwk:IntKind.i64.wrap ((k:Int)-1)=(k-1:Nat):=by rw[Ac (by omega) (by omega)];omega
  have hjm:j*(Er Af es0+es0.length+13)≤6*(Er Af es0+es0.length+13):=Nat.mul_le_mul_right _ (by omega)
  have hsl:stg.length≤Er BJ stg:=Nr
  have hb1:(stg.length+1)*72≤1099511627776:=by omega
  simp -implicitDefEqProofs [hk]
  obtain⟨z,c5,hz,hc5,pz⟩:=(hB cd es.length hcd (by omega))
  simp -implicitDefEqProofs [DI,ints]at pz
  refine Aa (pz) ?_
  have hwz:Bo ⟨sv,tg,key,es,⟨rv,rs,x,ro⟩,least,pct,stg,log,nw,hurt,x+1⟩≤4194304:=by simp only[Bo,G8];omega
  have hd:=hD ⟨sv,tg,key,es,⟨rv,rs,x,ro⟩,least,pct,stg,log,nw,hurt,x+1⟩ z hwz
  have hdl:=Agy ⟨sv,tg,key,es,⟨rv,rs,x,ro⟩,least,pct,stg,log,nw,hurt,x+1⟩ z
  generalize Hl ⟨sv,tg,key,es,⟨rv,rs,x,ro⟩,least,pct,stg,log,nw,hurt,x+1⟩ z=d at hd hdl
  dsimp only at hdl
  simp -implicitDefEqProofs
  simp -implicitDefEqProofs [ints]at hd
  refine Aa (hd) ?_
  simp -implicitDefEqProofs [hb1,hwk]
  have hadd:Er BJ (stg++ [d])≤Er BJ stg0+(j+1)*(Er Af es0+es0.length+13):=by
   have:Er BJ (stg++ [d])=Er BJ stg+BJ d+1:=by simp[Er];omega
   rw[this,Nat.add_mul]
   omega
  refine⟨k-1,by omega,?_⟩
  rw[hLI]
  exact⟨j+1,c5,stg++ [d],_,_,_,_,by omega,hadd,hc5,by simp[A7,ints];exact⟨rfl,rfl,rfl,rfl⟩⟩
 ·have hk0:k=0:=by omega
  subst hk0
  have hjm:j*(Er Af es0+es0.length+13)≤6*(Er Af es0+es0.length+13):=Nat.mul_le_mul_right _ (by omega)
  simp -implicitDefEqProofs [NS,AY]
  have hnw9:=hnw.2.2 (by omega)
  exact hQ ⟨sv,tg,key,es,⟨rv,rs,x,ro⟩,least,pct,stg,log,nw,hurt,x+1⟩ cd ⟨by simp only[Bo,G8];omega,hkey,⟨hnw.1,by dsimp only;omega⟩,by dsimp only;omega,hver,hei⟩ hcd
abbrev QF (R:Rel):Prop:=∀bs:List Int,ACY bs→AnT R bs (fun p:World×Int=>W33 p.1∧ -1≤p.2∧p.2≤p.1.ends.length) (fun p=> .tup [.agg (FH p.1),I p.2])
theorem Ak7 (D:Dn) (hN:Agh (D Acm)) (hB:FK (D Dj)) (hW:UW (D Vr)):QF (Body D IQ):=by
 intro bs hb
 refine ArG (fun Q hQ=> ?_)
 simp -implicitDefEqProofs
 obtain⟨c0,hc0,pc0⟩:=hN bs hb.1 hb.2
 simp -implicitDefEqProofs [DI,ints]at pc0
 refine Aa (pc0) ?_
 simp -implicitDefEqProofs
 obtain⟨w,c1,hw,hc1,pw⟩:=hW c0 hc0
 simp -implicitDefEqProofs [DI,ints]at pw
 refine Aa (pw) ?_
 have hfew:=hw.few
 have w1:IntKind.i64.wrap ((w.ends.length:Int)+2)=w.ends.length+2:=Ac (by omega) (by omega)
 simp -implicitDefEqProofs [w1]
 obtain⟨x,c2,hx,hc2,px⟩:=hB c1 (w.ends.length+2) hc1 (by omega)
 simp -implicitDefEqProofs [DI,ints]at px
 refine Aa (px) ?_
 have hx2:=hx.2.2 (by omega)
 have w2:IntKind.i64.wrap (x-1)=x-1:=Ac (by omega) (by omega)
 simp -implicitDefEqProofs [w2]
 exact hQ (w,x-1) ⟨hw,by dsimp only;omega,by dsimp only;omega⟩
abbrev Ls (R:Rel):Prop:=∀bs:List Int,ACY bs→AnT R bs (fun w:World=>Bo w≤8000) (fun w=> .agg (FH w))
theorem AdS (D:Dn) (hN:Agh (D Acm)) (hW:UW (D Vr)):Ls (Body D F6):=by
 intro bs hb
 refine ArG (fun Q hQ=> ?_)
 simp -implicitDefEqProofs
 obtain⟨c0,hc0,pc0⟩:=hN bs hb.1 hb.2
 simp -implicitDefEqProofs [DI,ints]at pc0
 refine Aa (pc0) ?_
 simp -implicitDefEqProofs
 obtain⟨w,c1,hw,hc1,pw⟩:=hW c0 hc0
 simp -implicitDefEqProofs [DI,ints]at pw
 refine Aa (pw) ?_
 simp -implicitDefEqProofs
 exact hQ w hw.sz
end Go.Eng.T
namespace Go.Eng.T
set_option maxRecDepth 20000
set_option maxHeartbeats 2000000
def Ky (w:World) (i:Int):List Int:=if Qt i 0 ((w.ends.length:Int)-1)then(match w.ends[i.toNat]? with | some e=>e.versions | none=> [])else []
abbrev OB (R:Rel):Prop:=∀(w:World) (i:Int),Bo w≤4194304→R [arg (FH w),I i] [] (.sl 0 1 (Ky w i).length (ints (Ky w i))) []
theorem Afd (D:Dn) (hI:TW (D OQ)):OB (Body D K9):=by
 intro w i hsz
 have he:=FU hsz
 simp -implicitDefEqProofs
 refine Aa (hI w i he) ?_
 by_cases h1:Qt i 0 ((w.ends.length:Int)-1)
 rotate_left
 ·simp -implicitDefEqProofs [h1,Ky]
 obtain⟨n,rfl⟩:∃n:Nat,i=n:=⟨i.toNat,by have:=h1.1;omega⟩
 have hn:n<w.ends.length:=by have:=h1.2;omega
 have hes:=OY (O1 hsz hn)
 have e:Ky w n=w.ends[n].versions:=by unfold Ky;rw[if_pos h1];simp[hn]
 rw[e]
 have hb1:w.ends[n].versions.length*8≤1099511627776:=by omega
 simp -implicitDefEqProofs [h1,hn,hb1]
abbrev AAn (R:Rel):Prop:=∀bs:List Int,bs.length≤maxLen→R [.sl 3 1 bs.length (u8s bs)] [] (B (decide (1048576<bs.length))) []
theorem AEx (D:Dn):AAn (Body D AbD):=by
 intro bs h
 unfold maxLen at h
 by_cases h1:1048576<bs.length
 ·have h1':(1048576:Int)<bs.length:=by omega
  simp -implicitDefEqProofs [h1,h1']
 ·have h1':¬(1048576:Int)<bs.length:=by omega
  simp -implicitDefEqProofs [h1,h1']
def AAI (bs:List Int):Prop:=bs.length≤maxLen∧∀b,b∈bs→0≤b∧b≤255
end Go.Eng.T
namespace Go.Eng.T
theorem Au2:∀(n:Nat) (k:Int),nums n k++ [k+n]=nums (n+1) k
 | 0,k=>by simp[nums]
 | n+1,k=>by
  have:=Au2 n (k+1)
  simp only[nums,List.cons_append]
  rw[show k+((n+1:Nat):Int)=k+1+(n:Int)by omega,this]
  rfl
end Go.Eng.T
namespace Go.Eng.T
end Go.Eng.T
namespace Go.Eng.T
set_option maxRecDepth 20000
end Go.Eng.T
namespace Go.Eng.T
set_option maxRecDepth 20000
end Go.Eng.T
namespace Go.Eng.T
abbrev AFg (R:Rel):Prop:=∀(x:EK) (l:Int),0≤l→l≤4194304→Kr x→R [arg (Cz x),I l] [] (I (szl (Lf x) l)) []
abbrev AFl (R:Rel):Prop:=∀x:EK,Lf x≤4194304→R [arg (Cz x)] [] (.agg (Cz x)) []
abbrev AFs (R:Rel):Prop:=∀x y:EK,Lf x≤2 ^ 40→Lf y≤2 ^ 40→R [arg (Cz x),arg (Cz y)] [] (B (decide (x=y))) []
abbrev AEd (R:Rel):Prop:=∀(x:Event) (l:Int),0≤l→l≤4194304→AzV x→R [arg (Cj x),I l] [] (I (szl (AeL x) l)) []
abbrev AEl (R:Rel):Prop:=∀x:Event,AeL x≤4194304→R [arg (Cj x)] [] (.agg (Cj x)) []
abbrev AEs (R:Rel):Prop:=∀x y:Event,AeL x≤2 ^ 40→AeL y≤2 ^ 40→R [arg (Cj x),arg (Cj y)] [] (B (decide (x=y))) []
end Go.Eng.T
namespace Go.Eng.T
abbrev ABM (R:Rel):Prop:=∀(x:Ai) (l:Int),0≤l→l≤4194304→YC x→R [arg (Ap x),I l] [] (I (szl (Af x) l)) []
abbrev ABp (R:Rel):Prop:=∀x:Ai,Af x≤4194304→R [arg (Ap x)] [] (.agg (Ap x)) []
end Go.Eng.T
namespace Go.Eng.T
abbrev ADF (R:Rel):Prop:=∀(x:CV) (l:Int),0≤l→l≤4194304→AoZ x→R [arg (A7 x),I l] [] (I (szl (BJ x) l)) []
abbrev ADI (R:Rel):Prop:=∀x:CV,BJ x≤4194304→R [arg (A7 x)] [] (.agg (A7 x)) []
abbrev ADP (R:Rel):Prop:=∀x y:CV,BJ x≤2 ^ 40→BJ y≤2 ^ 40→R [arg (A7 x),arg (A7 y)] [] (B (decide (x=y))) []
end Go.Eng.T
namespace Go.Eng.T
abbrev AD4 (R:Rel):Prop:=∀(x:DW) (l:Int),0≤l→l≤4194304→AyI x→R [arg (AQ x),I l] [] (I (szl (Im x) l)) []
abbrev ADS (R:Rel):Prop:=∀x:DW,Im x≤4194304→R [arg (AQ x)] [] (.agg (AQ x)) []
abbrev ADr (R:Rel):Prop:=∀x y:DW,Im x≤2 ^ 40→Im y≤2 ^ 40→R [arg (AQ x),arg (AQ y)] [] (B (decide (x=y))) []
end Go.Eng.T
namespace Go.Eng.T
abbrev ABj (R:Rel):Prop:=∀x y:Ai,Af x≤2 ^ 40→Af y≤2 ^ 40→R [arg (Ap x),arg (Ap y)] [] (B (decide (x=y))) []
end Go.Eng.T
namespace Go.Eng.T
set_option maxRecDepth 20000
end Go.Eng.T
namespace Go.Eng.T
set_option maxRecDepth 20000
set_option maxHeartbeats 4000000
end Go.Eng.T
namespace Go.Eng.T
set_option maxRecDepth 20000
set_option maxHeartbeats 2000000
end Go.Eng.T
namespace Go.Eng.T
set_option maxRecDepth 20000
set_option maxHeartbeats 2000000
theorem AxU {α:Type} {p:α→Bool}:∀(xs:List α) (i:Nat) (x:Int),x∈Qr p xs i↔∃(j:Nat) (h:j<xs.length),x=((i+j:Nat):Int)∧p xs[j]=true
 | [],i,x=>by simp[Qr]
 | a::r,i,x=>by
  have ih:=AxU (p:=p) r (i+1) x
  constructor
  ·intro h
   have h':(p a=true∧x=(i:Int))∨x∈Qr p r (i+1):=by
    unfold Qr at h
    split at h
    ·rename_i hp
     rcases List.mem_cons.1 h with h | h
     ·exact .inl ⟨hp,h⟩
     ·exact .inr h
    ·exact .inr h
   rcases h' with⟨h1,h2⟩ | h1
   ·exact⟨0,by simp,by simpa using h2,by simpa using h1⟩
   ·obtain⟨j,hj,h2,h3⟩:=ih.1 h1
    exact⟨j+1,by simpa using hj,by rw[h2];congr 1;omega,by simpa using h3⟩
  ·rintro ⟨j,hj,h2,h3⟩
   unfold Qr
   cases j with
   | zero=>
    have hp:p a=true:=by simpa using h3
    rw[if_pos hp]
    exact List.mem_cons.2 (.inl (by simpa using h2))
   | succ j=>
    have:x∈Qr p r (i+1):=ih.2 ⟨j,by simpa using hj,by rw[h2];congr 1;omega,by simpa using h3⟩
    split
    ·exact List.mem_cons_of_mem _ this
    ·exact this
theorem AtA {α β:Type} {p:α→Bool} {q:β→Bool}:∀(xs:List α) (ys:List β) (i:Nat),xs.length=ys.length→(∀(j:Nat) (h:j<xs.length) (h':j<ys.length),p xs[j]=true→q ys[j]=true)→(Qr p xs i).length≤(Qr q ys i).length
 | [],_,i,_,_=>by simp[Qr]
 | a::r,[],i,hl,_=>by simp at hl
 | a::r,b::t,i,hl,h=>by
  have ih:=AtA (p:=p) (q:=q) r t (i+1) (by simpa using hl) (fun j h1 h2 h3=>h (j+1) (by simpa using h1) (by simpa using h2) h3)
  have h0:=h 0 (by simp) (by simp)
  unfold Qr
  by_cases hp:p a=true
  ·have hq:q b=true:=by simpa using h0 (by simpa using hp)
   rw[if_pos hp,if_pos hq]
   simp only[List.length_cons];omega
  ·rw[if_neg hp]
   split
   ·simp only[List.length_cons];omega
   ·exact ih
abbrev containsS (R:Rel):Prop:=∀(xs:List Int) (v:Int),xs.length≤maxLen→R [.sl 1 1 xs.length (ints xs),I v] [] (B (decide (v∈xs))) []
theorem ADa {xs:List Int} {v:Int} {j:Nat} (h:xs.length≤j) (hp:¬v∈xs.take j):¬v∈xs:=by rwa [List.take_of_length_le h]at hp
theorem ApG (D:Dn):containsS (Body D PK):=by
 intro xs v hl
 unfold maxLen at hl
 simp -implicitDefEqProofs
 refine Ae (fun k s=>∃j,j+k=xs.length∧¬v∈xs.take j∧s=⟨[.sl 1 1 xs.length (ints xs),I v,.undef,I j,.undef,.undef],[]⟩) ?_ (xs.length) _ ⟨0,by simp,by simp,by simp⟩
 intro k s ⟨j,hj,hp,hs⟩
 subst hs
 by_cases hjn:j<xs.length
 ·have hw:IntKind.i64.wrap ((j:Int)+1)=(j+1:Nat):=by rw[Ac (by omega) (by omega)];simp
  by_cases he:xs[j]=v
  ·have hm:v∈xs:=by rw[←he];exact List.getElem_mem hjn
   simp -implicitDefEqProofs [hjn,he,hm]
  ·have hst:¬v∈xs.take (j+1):=by
    have e:xs.take (j+1)=xs.take j++ [xs[j]]:=by simp
    rw[e]
    intro h
    rcases List.mem_append.1 h with h | h
    ·exact hp h
    ·simp at h;exact he h.symm
   simp -implicitDefEqProofs [hjn,he]
   exact⟨k-1,by omega,j+1,by omega,hst,by simp[hw]⟩
 ·have hm:=ADa (by omega) hp
  simp -implicitDefEqProofs [hjn,hm]
end Go.Eng.T
namespace Go.Eng.T
set_option maxRecDepth 20000
set_option maxHeartbeats 1000000
theorem Aqa (a b:List Int):0≤AB a b∧AB a b≤9:=by
 unfold AB
 split
 ·rename_i h
  by_cases h3:common a b=[]
  ·rw[h3];simp[Ti]
  ·have h4:0<(common a b).length:=List.length_pos_iff.2 h3
   have h5:=Ab2 (l:=common a b) ((MH h.1).filter _) (fun x hx=>by have:=MX h.1 x (List.mem_filter.1 hx).1;omega) h4
   rw[h5]
   have:=MX h.1 _ (List.mem_filter.1 (List.getElem_mem (l:=common a b) (n:=(common a b).length-1) (by omega))).1
   omega
 ·simp
theorem AiY (w:World) (i:Int):0≤E8 w i∧E8 w i≤9:=by
 unfold E8
 split
 ·split
  ·unfold IW
   split
   ·exact Aqa _ _
   ·simp
  ·simp
 ·simp
end Go.Eng.T
namespace Go.Eng.T
set_option maxRecDepth 20000
set_option maxHeartbeats 4000000
theorem As0 (g b l p:Int):F8 g b l p=0∨F8 g b l p=1∨F8 g b l p=2:=by
 unfold F8
 repeat' split
 all_goals simp
theorem Amq (w:World):SB w=0∨SB w=1∨SB w=2:=As0 _ _ _ _
theorem AqF {w:World} {i:Int} (h:W33 w) (h1:-1≤i):∃t,(Hl w i).deal=(if E8 w i=0 then D8 else⟨true,E8 w i,t⟩):=by
 by_cases hq:Qt i 0 ((w.ends.length:Int)-1)
 ·obtain⟨j,rfl⟩:∃j:Nat,i=(j:Int):=⟨i.toNat,by omega⟩
  have hj:j<w.ends.length:=by omega
  obtain⟨n,hn⟩:∃n:Nat,w.now=(n:Int):=⟨w.now.toNat,by have:=h.now;omega⟩
  exact As2 hj (h.ends _ (List.getElem_mem hj)) h.ver h.key hn (by have:=h.now;omega) h.few
 ·refine⟨[],?_⟩
  have e1:Hl w i=Iy:=by unfold Hl;rw[if_neg hq]
  have e2:E8 w i=0:=by unfold E8;rw[if_neg hq]
  rw[e1,e2]
  rfl
theorem ACU {w:World} {i:Int} (h:QM w i=true):w.rollout.version∈Ky w i:=by
 unfold QM at h
 simp only[Bool.and_eq_true,decide_eq_true_eq]at h
 obtain⟨⟨h1,_⟩,h2⟩:=h
 unfold Ky
 rw[if_pos h1]
 split at h2
 ·rename_i e he
  rw[he]
  simpa using h2
 ·cases h2
theorem ABW {d:CV} {v:Int} (h:SE v d=true) (hk:d.deal.ok=true):v∈d.up:=by
 unfold SE at h
 rw[hk]at h
 simp at h
 exact h.2
abbrev Yb (R:Rel):Prop:=∀bs:List Int,AAI bs→R [.sl 3 1 bs.length (u8s bs)] [] (B true) []
theorem AoG (D:Dn) (hBig:AAn (D Auk)) (dO:QF (D Aa8)) (hD:QE (D Aml)) (hN:Nt (D Aik)) (hNs:Nt (D Aju)) (hO:Aak (D Aid))
 (hE:OB (D ZB)) (hC:containsS (D Agw)) (hBd:Gy (D Ac8)) (dS:Ls (D WG)) (hS:TH (D AeC)):Yb (Body D NG):=by
 intro bs hb
 simp -implicitDefEqProofs
 refine Aa (hBig bs hb.1) ?_
 by_cases hbig:1048576<bs.length
 ·simp -implicitDefEqProofs [hbig]
 have hBs:ACY bs:=⟨by omega,hb.2⟩
 simp -implicitDefEqProofs [hbig]
 obtain⟨⟨w,i⟩,⟨hw,hi1,hi2⟩,p1⟩:=dO bs hBs
 dsimp only at hw hi1 hi2
 have hsz:=hw.sz
 obtain⟨w2,hw2,p2⟩:=dS bs hBs
 simp -implicitDefEqProofs [FH]at p1 p2
 refine Aa (p1) ?_
 clear p1
 simp -implicitDefEqProofs
 obtain⟨t,ht⟩:=AqF hw hi1
 have hdl:=Agy w i
 have hwe:=FU (w:=w) (by omega)
 have hes:Er Af w.ends≤8000:=by simp only[Bo]at hsz;omega
 have hbu:=ABW (d:=Hl w i) (v:=w.rollout.version)
 have pd:=hD w i (by omega)
 generalize Hl w i=d at ht hdl hbu pd
 have hup:d.up.length≤maxLen:=by unfold BJ at hdl;unfold maxLen;omega
 simp -implicitDefEqProofs at pd
 refine Aa (pd) ?_
 clear pd
 simp -implicitDefEqProofs
 refine Aa (hN w i (by omega)) ?_
 simp -implicitDefEqProofs
 refine Aa (hNs w i (by omega)) ?_
 have hb9:=AiY w i
 generalize E8 w i=b at ht hb9
 have hnew:=ACU (w:=w) (i:=i)
 have hel:(Ky w i).length≤maxLen:=by
  unfold Ky
  split
  ·split
   ·rename_i e he
    obtain⟨hj,rfl⟩:=List.getElem?_eq_some_iff.1 he
    have h2:=size_at (f:=Af) hj
    unfold Af at h2
    unfold maxLen
    unfold Af at hes
    omega
   ·simp
  ·simp
 have hb2:(b=0∧d.deal.ok=false)∨(0<b∧¬b=0∧d.deal.ok=true∧d.deal.version=b):=by
  rw[ht]
  by_cases h0:b=0
  ·rw[if_pos h0];exact .inl ⟨h0,rfl⟩
  ·rw[if_neg h0];exact .inr ⟨by omega,h0,rfl,rfl⟩
 clear ht
 have hsig:=Amq w2
 obtain⟨⟨ok,ver,tg⟩,tr,up⟩:=d
 dsimp only at hb2 hup hbu
 rcases hb2 with⟨b0,k⟩ | ⟨bp,bn,k,kv⟩
 ·subst b0
  subst k
  simp -implicitDefEqProofs
  refine Aa (hO w i (by omega)) ?_
  by_cases g:QM w i=true
  ·simp -implicitDefEqProofs [g]
   refine Aa (hE w i (by omega)) ?_
   simp -implicitDefEqProofs
   refine Aa (hC (Ky w i) w.rollout.version hel) ?_
   simp -implicitDefEqProofs [hnew g]
   refine Aa (hBd ⟨⟨false,ver,tg⟩,tr,up⟩ w.rollout.version hup) ?_
   by_cases gb:SE w.rollout.version ⟨⟨false,ver,tg⟩,tr,up⟩=true
   all_goals simp -implicitDefEqProofs [gb]
   all_goals refine Aa (p2) ?_
   all_goals simp -implicitDefEqProofs
   all_goals refine Aa (hS w2 (by omega)) ?_
   all_goals rcases hsig with s | s | s
   all_goals simp -implicitDefEqProofs [s]
  ·simp -implicitDefEqProofs [g]
   refine Aa (hBd ⟨⟨false,ver,tg⟩,tr,up⟩ w.rollout.version hup) ?_
   by_cases gb:SE w.rollout.version ⟨⟨false,ver,tg⟩,tr,up⟩=true
   all_goals simp -implicitDefEqProofs [gb]
   all_goals refine Aa (p2) ?_
   all_goals simp -implicitDefEqProofs
   all_goals refine Aa (hS w2 (by omega)) ?_
   all_goals rcases hsig with s | s | s
   all_goals simp -implicitDefEqProofs [s]
 ·subst k
  subst kv
  simp -implicitDefEqProofs [bp]
  refine Aa (hO w i (by omega)) ?_
  by_cases g:QM w i=true
  ·simp -implicitDefEqProofs [g]
   refine Aa (hE w i (by omega)) ?_
   simp -implicitDefEqProofs
   refine Aa (hC (Ky w i) w.rollout.version hel) ?_
   simp -implicitDefEqProofs [hnew g]
   refine Aa (hBd ⟨⟨true,ver,tg⟩,tr,up⟩ w.rollout.version hup) ?_
   by_cases gb:SE w.rollout.version ⟨⟨true,ver,tg⟩,tr,up⟩=true
   ·simp -implicitDefEqProofs [gb]
    refine Aa (hC up w.rollout.version hup) ?_
    simp -implicitDefEqProofs [hbu gb rfl]
    refine Aa (p2) ?_
    simp -implicitDefEqProofs
    refine Aa (hS w2 (by omega)) ?_
    rcases hsig with s | s | s
    all_goals simp -implicitDefEqProofs [s]
   ·simp -implicitDefEqProofs [gb]
    refine Aa (p2) ?_
    simp -implicitDefEqProofs
    refine Aa (hS w2 (by omega)) ?_
    rcases hsig with s | s | s
    all_goals simp -implicitDefEqProofs [s]
  ·simp -implicitDefEqProofs [g]
   refine Aa (hBd ⟨⟨true,ver,tg⟩,tr,up⟩ w.rollout.version hup) ?_
   by_cases gb:SE w.rollout.version ⟨⟨true,ver,tg⟩,tr,up⟩=true
   ·simp -implicitDefEqProofs [gb]
    refine Aa (hC up w.rollout.version hup) ?_
    simp -implicitDefEqProofs [hbu gb rfl]
    refine Aa (p2) ?_
    simp -implicitDefEqProofs
    refine Aa (hS w2 (by omega)) ?_
    rcases hsig with s | s | s
    all_goals simp -implicitDefEqProofs [s]
   ·simp -implicitDefEqProofs [gb]
    refine Aa (p2) ?_
    simp -implicitDefEqProofs
    refine Aa (hS w2 (by omega)) ?_
    rcases hsig with s | s | s
    all_goals simp -implicitDefEqProofs [s]
end Go.Eng.T
namespace Go.Eng.T
open Go.Eng.X
def Dz:Nat→Bu
 |0=>R 0 [m (z 2)] [] [2]
 |1=>R 1 [m (s 0),C 318 [r (l 0)] [0],m (s 1),C 319 [r (l 2)] [],m (l 1),m (l 3)] [(3,4),(4,5)] []
 |2=>R 2 [m (s 0),C 320 [r (l 0)] [],n (l 1),m (l 2),G 3 (m (s 0)),G 3 (e (l 4)),G 3 (y .eql (l 5) (i 6)),k (l 3) t (l 6),m (l 7),G 8 (m (s 0)),G 8 (m (s 4)),G 8 (C 321 [r (l 9),r (l 10)] []),G 8 (y .geq (l 11) (i 0)),k (l 8) t (l 12)] [(6,13)] []
 |3=>R 3 [m (s 3),m (l 0)] [(2,1)] [0,1,3,4]
 |4=>R 4 [m (s 1),C 322 [r (l 0),r (i 3),r (i 256)] [],M 1 1 1 [l 1],m (s 1),C 322 [r (l 3),r (i 2),r (i 3)] [],C 323 [r (l 2),r (l 4)] [2],m (l 5)] [(5,6)] []
 |_=>R 5 [m (s 3),m (s 1),m (s 0),e (l 2),y .add (l 3) (i 1),C 322 [r (l 1),r (i 1),r (l 4)] [],m (s 4),m (s 5),b [o,N 1] [(0,1,l 6),(1,1,l 7)],M 3 2 1 [l 8],C 324 [v (l 0),r (l 5),v (l 9)] [4],m (l 10)] [(2,11)] [0,1,3,4,5]
def LX:Bw:=⟨7,5,[0,1],0,false,[],j (d (Dz 0)) (j (d (Dz 1)) (j (j (d (Dz 2)) (h 6 (j (d (Dz 3)) (.ret)) (.skip))) (j (d (Dz 4)) (j (d (Dz 5)) (.ret))))),[.slot 2]⟩
def XK:List Tmp:=[0,1,4,5,6,7,25]
def Ah:Nat→Bu
 |0=>R 0 [m (z 1)] [] [1]
 |1=>R 1 [m (i 0)] [(2,0)] []
 |2=>R 2 [m (s 0),e (l 0),m (i 0)] [(6,0),(7,1),(8,2)] []
 |3=>R 3 [y .lss (s 8) (s 7)] [(9,0)] []
 |4=>R 4 [A 1 (s 6) (s 8),L (l 0),m (l 1)] [(3,2)] []
 |5=>R 5 [m (s 2),m (s 3),e (l 1),y .add (l 0) (l 2),m (l 3)] [(2,4)] [3]
 |6=>R 6 [m (s 2),y .lss (l 0) (i 0)] [(10,1)] []
 |7=>R 8 [y .add (s 8) (i 1),m (l 0)] [(8,1)] []
 |8=>Q 9 [m (s 2),C 419 [r (.con (.sc (.slice none 0 0))),r (l 0)] [0],m (l 1)] [(4,2)] [2,6,7,8] [] [w 0 2]
 |9=>R 10 [m (s 0),e (l 0),m (i 0)] [(11,0),(12,1),(13,2)] [0]
 |10=>R 11 [y .lss (s 13) (s 12)] [(14,0)] []
 |11=>R 12 [A 1 (s 11) (s 13),L (l 0),m (l 1)] [(5,2)] []
 |12=>Q 13 [m (s 4),m (s 5),q 1 1 8 (l 0) (l 1),m (l 2)] [(4,3)] [5] [1] [w 1 2]
 |13=>R 14 [y .add (s 13) (i 1),m (l 0)] [(13,1)] []
 |_=>R 15 [m (s 4),m (l 0)] [(1,1)] [4,11,12,13]
def Fy:Bw:=⟨15,3,[0],0,false,[],j (d (Ah 0)) (j (d (Ah 1)) (j (j (d (Ah 2)) (.block 0 (.loop (j (d (Ah 3)) (j (h 9 (.skip) (.exit 0)) (j (.block 1 (j (d (Ah 4)) (j (d (Ah 5)) (j (d (Ah 6)) (h 10 (.stuck) (.skip)))))) (d (Ah 7)))))))) (j (d (Ah 8)) (j (j (d (Ah 9)) (.block 2 (.loop (j (d (Ah 10)) (j (h 14 (.skip) (.exit 2)) (j (.block 3 (j (d (Ah 11)) (d (Ah 12)))) (d (Ah 13)))))))) (j (d (Ah 14)) (.ret)))))),[.slot 1]⟩
def Oa:List Tmp:=[0,2,3,5,6,8,9,10,11,12,20,25,26,27,28]
attribute [simp] Dz LX Ah Fy
end Go.Eng.T
namespace Go.Eng.T
set_option maxRecDepth 20000
set_option maxHeartbeats 2000000
abbrev AwJ (R:Rel):Prop:=∀n:Nat,n≤16777216→R [.sc (.slice none 0 0),I n] [] (.sl 0 1 0 []) []
def SN (ls:List (List Int)):List Int:=ls.flatten
abbrev Aat (R:Rel):Prop:=∀ls:List (List Int),GH ls≤8388608→R [I8 ls] [] (.sl 0 1 (SN ls).length (ints (SN ls))) []
theorem AjV {ls:List (List Int)} {j:Nat} (h:j<ls.length):SN (ls.take (j+1))=SN (ls.take j)++ls[j]:=by
 have e:ls.take (j+1)=ls.take j++ [ls[j]]:=by simp
 unfold SN
 rw[e,List.flatten_append];simp
theorem Alg (ls:List (List Int)) (j:Nat):(SN (ls.take j)).length≤GH ls:=by
 unfold SN
 have h1:(ls.take j).flatten.length≤ls.flatten.length:=by
  conv=>rhs;rw[←List.take_append_drop j ls,List.flatten_append,List.length_append]
  omega
 have h2:ls.flatten.length≤GH ls:=by
  unfold GH Er
  rw[List.length_flatten]
  omega
 omega
theorem Awr (D:Dn) (hG:AwJ (D Tf)):Aat (Body D Fy):=by
 intro ls hl
 have hll:=Sg (xs:=ls)
 simp -implicitDefEqProofs
 refine Ae (fun k s=>∃j,j+k=ls.length∧s=⟨[I8 ls,.undef,I ((SN (ls.take j)).length:Nat),.undef,.undef,.undef,I8 ls,I ls.length,I j,.undef,.undef,.undef,.undef,.undef,.undef],[.free,.free,.free]⟩) ?_ (ls.length) _ ⟨0,by simp,by simp[SN]⟩
 intro k s ⟨j,hj,hs⟩
 subst hs
 by_cases hjn:j<ls.length
 ·have hw:IntKind.i64.wrap ((j:Int)+1)=(j+1:Nat):=by rw[Ac (by omega) (by omega)];simp
  have hst:=congrArg List.length (AjV hjn)
  rw[List.length_append]at hst
  have hle:=Alg ls (j+1)
  obtain⟨n2,hn2⟩:∃n2,n2=(SN (ls.take (j+1))).length:=⟨_,rfl⟩
  obtain⟨n1,hn1⟩:∃n1,n1=(SN (ls.take j)).length:=⟨_,rfl⟩
  rw[←hn2]at hst hle
  rw[←hn1]at hst⊢
  have hw2:IntKind.i64.wrap ((n1:Int)+(ls[j].length:Nat))=(n2:Int):=by rw[hst,Ac (by omega) (by omega)];omega
  have hneg:¬(n2:Int)<0:=by omega
  simp -implicitDefEqProofs [hjn,hw2,hneg]
  exact⟨k-1,by omega,j+1,by omega,by simp[hw,hn2]⟩
 ·have e:ls.take j=ls:=List.take_of_length_le (by omega)
  have hle:=Alg ls j
  simp -implicitDefEqProofs [hjn,e]
  rw[e]at hle
  refine Aa (hG (SN ls).length (by omega)) ?_
  simp -implicitDefEqProofs
  refine Ae (fun k s=>∃j o1,j+k=ls.length∧s=⟨[.undef,.undef,.undef,.undef,.arr 2,.undef,.undef,.undef,.undef,.undef,.undef,I8 ls,I ls.length,I j,.undef],[.free,o1,.arr 1 0 (SN (ls.take j)).length (ints (SN (ls.take j)))]⟩) ?_ (ls.length) _ ⟨0,.free,by simp,by simp[SN]⟩
  intro k s ⟨j,o1,hj,hs⟩
  subst hs
  clear hjn e
  by_cases hjn:j<ls.length
  ·have hw:IntKind.i64.wrap ((j:Int)+1)=(j+1:Nat):=by rw[Ac (by omega) (by omega)];simp
   have hst:=AjV hjn
   have hle2:=Alg ls (j+1)
   have hsl:=congrArg List.length hst
   rw[List.length_append]at hsl
   generalize(SN (ls.take j))=r1 at *
   have hb1:(r1.length+ls[j].length)*8≤1099511627776:=by omega
   simp -implicitDefEqProofs [hjn,hb1]
   exact⟨k-1,by omega,j+1,by omega,by simp[hw],by rw[hst];simp[ints]⟩
  ·have e:ls.take j=ls:=List.take_of_length_le (by omega)
   simp -implicitDefEqProofs [hjn,e]
theorem Awv (D:Dn) (hC:Aat (D I7)) (hH:UA (D YE)):Vf (Body D Ol):=by
 intro k xs hl
 simp -implicitDefEqProofs
 have hc:=hC [[k],xs,[k]] (by simp[GH,Er];omega)
 simp -implicitDefEqProofs [I8,I9,ints]at hc
 simp -implicitDefEqProofs [ints]
 refine Aa (hc) ?_
 have ek:SN [[k],xs,[k]]=k::xs++ [k]:=by simp[SN]
 rw[ek]
 have hlen:(k::xs++ [k]).length=xs.length+1+1:=by simp
 have hh:=hH (k::xs++ [k]) (by unfold maxLen;omega)
 rw[hlen]at hh
 simp -implicitDefEqProofs [ints]at hh
 simp -implicitDefEqProofs [ints]
 refine Aa (hh) ?_
 simp -implicitDefEqProofs [keyed]
theorem AjG (D:Dn) (hI:Dg (D FY)) (hE:Fj (D Sq)) (hC:Aat (D I7)):Gt (Body D LK):=by
 intro h hh
 have hv:=hh.1
 simp -implicitDefEqProofs
 refine Aa (hI h hh) ?_
 by_cases h1:AP h=true
 rotate_left
 ·simp -implicitDefEqProofs [h1,AJ]
 have hl:=Km h.exts
 have e:AJ h=((h.versions.length:Int)::h.versions)++(Dq h.exts).1:=by unfold AJ;rw[if_pos h1]
 rw[e]
 simp -implicitDefEqProofs [h1]
 refine Aa (hE h.exts hh.2) ?_
 generalize(Dq h.exts).1=r at hl
 simp -implicitDefEqProofs [ints]
 have hc:=hC [[(h.versions.length:Int)],h.versions,r] (by simp[GH,Er];omega)
 simp -implicitDefEqProofs [I8,I9,ints]at hc
 refine Aa (hc) ?_
 have ek:SN [[(h.versions.length:Int)],h.versions,r]=((h.versions.length:Int)::h.versions)++r:=by simp[SN]
 rw[ek]
 simp -implicitDefEqProofs [ints]
abbrev AmC (R:Rel):Prop:=∀(v:Int) (n:Nat),n≤2→R [.sl 1 1 1 (ints [v]),I n] [] (.sl 0 1 n (ints (List.replicate n v))) []
abbrev AkP (R:Rel):Prop:=∀(l:List Ext) (i:Nat) (x:Ext),l.length≤4194304→i≤l.length→
 R [.arr 0,I i,.arr 1] [.arr 2 0 l.length (l.flatMap Bl),.arr 2 0 1 (Bl x)] (.sl 0 2 (l.length+1) ((l.take i++x::l.drop i).flatMap Bl)) [.dead,.dead]
theorem AkQ (D:Dn) (hC:MV (D VI)) (hG:HV (D Aek)) (hA:EW (D Js)) (hX:NC (D Acj)) (hP:Xk (D YU))
 (hR:AmC (D Qu)) (hI:AkP (D JE)):IG (Body D LX):=by
 intro l seed hl
 have hll:=hl.1
 simp -implicitDefEqProofs
 refine Aa (hC l hl) ?_
 simp -implicitDefEqProofs
 refine Aa (hG seed) ?_
 obtain⟨t,ht⟩:∃t,t=DU seed:=⟨_,rfl⟩
 rw[←ht]
 simp -implicitDefEqProofs
 refine Aa (hA l hl) ?_
 by_cases h1:BX l=true
 rotate_left
 ·simp -implicitDefEqProofs [h1,BQ]
 have h6:l.length≤6:=V8 h1
 by_cases h2:l.length=6
 ·have h2':((l.length:Nat):Int)=6:=by omega
  simp -implicitDefEqProofs [h1,h2',BQ,h2]
 have h2':¬((l.length:Nat):Int)=6:=by omega
 have h2l:l.length<6:=by omega
 simp -implicitDefEqProofs [h1,h2',h2]
 refine Aa (hX l t (by unfold maxLen;omega)) ?_
 by_cases h3:t∈Ao l
 ·have h3':0≤Ij l t:=by
   by_cases h:Ij l t<0
   ·rw[Kh]at h;exact absurd h3 h
   ·omega
  simp -implicitDefEqProofs [h1,h2l,h2',h2,h3',h3,BQ,←ht]
 have h3':¬0≤Ij l t:=by
  have:Ij l t<0:=by rw[Kh];exact h3
  omega
 have e:BQ l seed=l.take (WE l seed)++⟨t,QI seed⟩::l.drop (WE l seed):=by
  unfold BQ
  rw[if_pos]
  ·rw[ht]
  ·simp[h1,h2l,←ht,h3]
 have hgp:=AsL l seed h6
 rw[e]
 simp -implicitDefEqProofs [h3',h2',h2]
 refine Aa (hP seed 3 256) ?_
 simp -implicitDefEqProofs
 refine Aa (hP seed 2 3) ?_
 have hp2:=Lb seed 2 (n:=3) ⟨by omega,by omega⟩
 have eb:QI seed=List.replicate (pick seed 2 3).toNat (pick seed 3 256):=rfl
 obtain⟨n,hn⟩:∃n:Nat,pick seed 2 3=n:=⟨(pick seed 2 3).toNat,by omega⟩
 rw[hn]at eb hp2⊢
 rw[Int.toNat_natCast]at eb
 rw[eb]
 generalize pick seed 3 256=v at *
 simp -implicitDefEqProofs [ints]
 have hr:=hR v n (by omega)
 simp -implicitDefEqProofs [ints]at hr
 refine Aa (hr) ?_
 have hwl:IntKind.i64.wrap ((l.length:Int)+1)=(l.length:Int)+1:=Ac (by omega) (by omega)
 simp -implicitDefEqProofs [hwl]
 refine Aa (hP seed 1 (l.length+1)) ?_
 have hp1:=Lb seed 1 (n:=(l.length:Int)+1) ⟨by omega,by omega⟩
 have eg:WE l seed=(pick seed 1 (l.length+1)).toNat:=rfl
 generalize pick seed 1 (l.length+1)=k1 at hp1 eg
 obtain⟨kk,rfl⟩:∃kk:Nat,k1=kk:=⟨k1.toNat,by omega⟩
 rw[Int.toNat_natCast]at eg
 rw[eg]at hgp⊢
 simp -implicitDefEqProofs
 have hi:=hI l kk ⟨t,List.replicate n v⟩ (by omega) hgp
 simp -implicitDefEqProofs [Bl,ints]at hi
 refine Aa (hi) ?_
 have hlen:(l.take kk++(⟨t,List.replicate n v⟩:Ext)::l.drop kk).length=l.length+1:=by simp;omega
 simp -implicitDefEqProofs [hlen,Bl,ints]
 omega
end Go.Eng.T
namespace Go.Eng
open Go.Lib Go.RowKit
inductive Yr (Ad:Nat→Option FuncId) (w:World):List V→List Value→Prop where
 | nil:Yr Ad w [] []
 | sc {v:Value} {azs:List V} {xs:List Value} (h:Yr Ad w azs xs):Yr Ad w (.sc v::azs) (v::xs)
 | sl {e len:Nat} {cells:List V} {x:Value} {azs:List V} {xs:List Value} (h1:Rd Ad w (· <w.heap.size) (.sl 1 e len cells) x) (h:Yr Ad w azs xs):Yr Ad w (.sl 1 e len cells::azs) (x::xs)
def AqH:V→Prop
 | .sc _=>True
 | .sl 1 _ _ _=>True
 | _=>False
theorem Aa9 {F:Fr} {w:World} {β:Nat→Base} {own:Nat→Option (Nat×List Nat)} {H:Hp} (hw:w=F.w0):∀ {azs:List V} {xs:List Value},(∀a,a∈azs→AqH a)→Pw (VR F β own H w) azs xs→Yr F.Ad w azs xs
 | [],xs,_,h=>by rw[h.Oq];exact .nil
 | a::azs,xs,hp,h=>by
  obtain⟨x,r,rfl,h1,h2⟩:=h.Ik
  have ih:=Aa9 hw (fun a ha=>hp a (List.mem_cons_of_mem _ ha)) h2
  have ha:=hp a (by simp)
  cases h1 with
  | sc h=>exact .sc ih
  | @rd fl e len cells _ h3 h=>
   match fl,ha,h with
   | 1,_,h=>exact .sl (Rd.move h (fun b hb=>by rw[hw];exact hb.1) (fun _ _=>rfl)) ih
  | _=>exact absurd ha (by simp[AqH])
theorem Ax0 {P:Program} {Ad:Nat→Option FuncId} {G:Gl} {g:Nat} {args:List V} {v:Value} (hv:v.oneCell' =true) (hp':∀a,a∈args→AqH a)
 (h:∀id,Ad g=some id→∀w:World,(∀b,G b→b<w.heap.size∧w.heap[b]? =G.is b)→∀xs,Yr Ad w args xs→Calls P id xs.toArray w fun e w'=>e= .returned v∧Below w.heap.size w w'):Den P Ad G g args [] (.sc v) []:=by
 intro id hid F hF hG hb ht hn inv xs hx
 have hr:=Aa9 (F:=F) rfl hp' hx
 rw[hF]at hr
 refine(h id hid F.w0 (fun b hb=> ?_) xs hr).mono fun e w' ⟨he,hw⟩=> ?_
 ·have:=inv.glob b (by rw[hG];exact hb)
  exact⟨this.1,by rw[←hG];exact this.2.2⟩
 ·subst he
  refine⟨F.own0,⟨hw.size,hw.os,hw.tape,hw.output,fun b hb _=>hw.block b hb,fun b p hb=>⟨Nat.lt_of_lt_of_le (inv.ownb b p hb).1 hw.size,fun _=> ?_⟩,.sc hv,hn.symm,fun i o hi=> ?_⟩⟩
  ·rw[hb];simp
  ·simp at hi
end Go.Eng
namespace Go.Eng
open Go.Lib Go.RowKit Go.Sort
def iv (l:List Int):List Value:=l.map (Value.int .i64)
@[simp] theorem ABV (l:List Int):(iv l).length=l.length:=by simp[iv]
theorem AeV (l:List Int):Ez (iv l):=by
 intro v hv
 simp only[iv,List.mem_map]at hv
 obtain⟨x,_,rfl⟩:=hv
 rfl
structure Kept (F:Fr) (w':World):Prop where
 size:F.w0.heap.size≤w'.heap.size
 os:w'.os=F.w0.os
 tape:w'.tape=F.w0.tape
 output:w'.output=F.w0.output
 keep:∀b,b<F.w0.heap.size→F.own0 b=none→w'.heap[b]? =F.w0.heap[b]?
theorem Kept.refl (F:Fr):Kept F F.w0:=⟨Nat.le_refl _,rfl,rfl,rfl,fun _ _ _=>rfl⟩
theorem AbQ {P:Program} {Ad:Nat→Option FuncId} {G:Gl} {g:Nat} {args:List V} {given:List O} {l':List Int}
 (h:∀id,Ad g=some id→∀F:Fr,F.Ad=Ad→Inv F F.β0 F.own0 (hp given) F.w0→∀xs,Pw (VR F F.β0 F.own0 (hp given) F.w0) args xs→
  Calls P id xs.toArray F.w0 fun e w'=>∃a cap,e= .returned (.slice a l'.length cap)∧(l'.length≤cap∧cap≤9223372036854775807)∧(cap=0∨∃b o,a=some ⟨b,o,none⟩∧Has w' b o (iv l') cap∧(b<F.w0.heap.size→F.own0 b≠none))∧Kept F w'):
 Den P Ad G g args given (.sl 0 1 l'.length (T.ints l')) (given.map fun _=> .dead):=by
 intro id hid F hF hG hb ht hn inv xs hx
 refine(h id hid F hF inv xs hx).mono fun e w' ⟨a,cap,he,hl,hm,hk⟩=> ?_
 subst he
 have hcs:∀own (i:Nat) (v:V) (x:Value),(T.ints l')[i]? =some v→(iv l')[i]? =some x→Ow F.Ad w' own (fun _ b=>F.G b) 0 F.ngiven ([]++ [i]) v x:=by
  intro own i v x h1 h2
  by_cases hi:i<l'.length
  ·rw[T.ints_at hi]at h1
   simp only[iv,List.getElem?_map,hi,List.getElem?_eq_getElem,Option.map_some,Option.some.injEq]at h1 h2
   subst h1 h2
   exact .sc rfl
  ·rw[List.getElem?_eq_none (by simp;omega)]at h1;cases h1
 rcases hm with hm | ⟨b,o,rfl,hhas,hown⟩
 ·refine⟨fun _=>none,⟨hk.size,hk.os,hk.tape,hk.output,hk.keep,fun b p h=>(by cases h),.own hl (by simp) (by simp) (.inl (by omega)) (hcs _),by simp[hn],fun i o hi=> ?_⟩⟩
  simp only[List.getElem?_map,Option.map_eq_some_iff]at hi
  obtain⟨_,_,rfl⟩:=hi
  trivial
 ·refine⟨fun b'=>if b' =b then some (F.ngiven,[])else none,⟨hk.size,hk.os,hk.tape,hk.output,hk.keep,fun b' p h=> ?_,.own hl (by simp) (by simp) (.inr ⟨b,o,rfl,if_pos rfl,by rw[Nat.mul_one];exact hhas⟩) (hcs _),by simp[hn],fun i o' hi=> ?_⟩⟩
  ·by_cases e:b' =b
   ·subst e;exact⟨RY hhas,hown⟩
   ·rw[if_neg e]at h;cases h
  ·simp only[List.getElem?_map,Option.map_eq_some_iff]at hi
   obtain⟨_,_,rfl⟩:=hi
   trivial
end Go.Eng
namespace Go.Eng.T
open Go.Lib Go.RowKit
theorem AlJ {Ad:Nat→Option FuncId} {w:Go.World} {P:Nat→Prop} {l:List Int} {x:Value} (h:Rd Ad w P (.sl 1 1 l.length (ints l)) x):
 ∃a cap,x= .slice a l.length cap∧l.length≤cap∧(l=[]∨∃b o,a=some ⟨b,o,none⟩∧P b∧∀j,j<l.length→w.cell? ⟨b,o+j,none⟩=some (.int .i64 (l.getD j 0))):=by
 cases h with
 | @sl _ _ _ _ a cap vs hle hwd hvl hm hcs=>
  refine⟨a,cap,rfl,hle,?_⟩
  rcases hm with hm | ⟨b,o,rfl,hbk,hr⟩
  ·left
   cases l with
   | nil=>rfl
   | cons x r=>simp[ints]at hm
  ·right
   have hvlen:vs.length=l.length:=by rw[hvl];simp
   refine⟨b,o,rfl,hbk,fun j hj=> ?_⟩
   rw[hr.2 j (by omega)]
   have hv:vs[j]? =some vs[j]:=by simp
   rw[hv]
   have hrd:=hcs j (.sc (.int .i64 l[j])) vs[j] (by simp[ints,hj]) hv
   generalize vs[j]=y at hrd⊢
   cases hrd with
   | sc _=>simp[hj]
theorem AzC {P:Program} {Ad:Nat→Option FuncId} {G:Gl} {g k:Nat} (hid:Ad g=some k)
 (hc:∀(b off n c:Nat) (zs:List Int) (w:Go.World),0<n→n≤zs.length→n≤9223372036854775807→(∀j,j<zs.length→w.cell? ⟨b,off+j,none⟩=some (.int .i64 (zs.getD j 0)))→
  Calls P k #[.slice (some ⟨b,off,none⟩) n c] w fun e w'=>e= .returned (.int .i64 (Lib.maxOf (zs.take n)))∧w' =w):ACI (Den P Ad G g):=by
 intro xs h1 h2
 refine Ax0 (v:= .int .i64 (AAY xs)) rfl (fun a ha=> ?_) ?_
 ·simp only[List.mem_singleton]at ha;subst ha;trivial
 intro id hi w hw ys hx
 rw[hid]at hi
 cases hi
 cases hx with
 | sl h3 h4=>
  cases h4
  obtain⟨a,cap,rfl,hle,hm⟩:=AlJ h3
  rcases hm with rfl | ⟨b,o,rfl,hb,hcell⟩
  ·simp at h1
  ·refine(hc b o xs.length cap xs w h1 (Nat.le_refl _) (by omega) hcell).mono fun e w' ⟨he,hw'⟩=>⟨?_,by rw[hw'];exact Below.refl _ _⟩
   rw[he,List.take_length];rfl
theorem Ap7 {w:Go.World} {base:Nat} {t:TypeId} {v:Value} {l:List Int} (h:w.ownsRow base t 1 v l.length (iv l)):
 ∃a cap,v= .slice a l.length cap∧(l.length≤cap∧cap≤9223372036854775807)∧(cap=0∨∃b o,a=some ⟨b,o,none⟩∧Has w b o (iv l) cap∧base≤b):=by
 obtain⟨_,h | ⟨g,cap,cur,rfl,h1,h2,h3,h4,h5,h6⟩⟩:=h
 ·obtain⟨rfl,h⟩:=h
  exact⟨none,0,by rw[h],⟨by omega,by omega⟩,.inl rfl⟩
 ·refine⟨_,cap,rfl,⟨h3,by unfold maxLen at h4;omega⟩,.inr ⟨g,0,rfl,⟨AeV l,cur,t,h2,by omega,by simpa using h3,fun i hi=> ?_⟩,h1⟩⟩
  rw[Nat.zero_add,←h6,Nat.mul_one]
  simp only[ABV]at hi
  rw[List.getElem?_take,if_pos hi,Array.getElem?_toList]
theorem Ap6 {F:Fr} {w':Go.World} (h:Below F.w0.heap.size F.w0 w'):Kept F w':=⟨h.size,h.os,h.tape,h.output,fun b hb _=>h.block b hb⟩
theorem Atn {P:Program} {Ad:Nat→Option FuncId} {G:Gl} {g k:Nat} {t:TypeId} (hid:Ad g=some k)
 (hn:∀(n c:Nat) (w:Go.World),Calls P k #[.slice none n c] w fun e w'=>e= .returned (.slice none 0 0)∧w' =w)
 (hz:∀(a:Addr) (c:Nat) (w:Go.World),Calls P k #[.slice (some a) 0 c] w fun e w'=>∃v',e= .returned v'∧w'.ownsRow w.heap.size t 1 v' 0 []∧v'≠ .slice none 0 0∧Below w.heap.size w w')
 (hc:∀(b off n c:Nat) (zs:List Int) (w:Go.World),n≤zs.length→n*8≤140737488355328→(∀j,j<zs.length→w.cell? ⟨b,off+j,none⟩=some (.int .i64 (zs.getD j 0)))→
  Calls P k #[.slice (some ⟨b,off,none⟩) n c] w fun e w'=>∃v',e= .returned v'∧w'.ownsRow w.heap.size t 1 v' n ((zs.take n).map (Value.int .i64))∧v'≠ .slice none 0 0∧Below w.heap.size w w'):ArD (Den P Ad G g):=by
 intro l hl
 refine AbQ (given:=[]) (l':=l) fun id hi F hF inv xs hx=> ?_
 rw[hid]at hi
 cases hi
 have hr:=Aa9 (F:=F) rfl (fun a ha=>by simp only[List.mem_singleton]at ha;subst ha;trivial) hx
 cases hr with
 | sl h3 h4=>
  cases h4
  obtain⟨a,cap,rfl,hle,hm⟩:=AlJ h3
  have fin:∀ {v':Value} {w':Go.World},w'.ownsRow F.w0.heap.size t 1 v' l.length (iv l)→Below F.w0.heap.size F.w0 w'→
   ∃a cap,Ending.returned v' = .returned (.slice a l.length cap)∧(l.length≤cap∧cap≤9223372036854775807)∧(cap=0∨∃b o,a=some ⟨b,o,none⟩∧Has w' b o (iv l) cap∧(b<F.w0.heap.size→F.own0 b≠none))∧Kept F w':=by
   intro v' w' ho hb
   obtain⟨a,cap,rfl,h5,h6⟩:=Ap7 ho
   refine⟨a,cap,rfl,h5,?_,Ap6 hb⟩
   rcases h6 with h6 | ⟨b,o,h7,h8,h9⟩
   ·exact .inl h6
   ·exact .inr ⟨b,o,h7,h8,fun h=>absurd h (by omega)⟩
  rcases hm with rfl | ⟨b,o,rfl,hb,hcell⟩
  ·cases a with
   | none=>exact(hn _ _ _).mono fun e w' ⟨he,hw⟩=>⟨none,0,he,⟨by simp,by omega⟩,.inl rfl,by rw[hw];exact Kept.refl F⟩
   | some a=>exact(hz a cap F.w0).mono fun e w' ⟨v',he,hown,_,hbel⟩=>by subst he;exact fin hown hbel
  ·exact(hc b o l.length cap l F.w0 (Nat.le_refl _) (by omega) hcell).mono fun e w' ⟨v',he,hown,_,hbel⟩=>by
    subst he
    rw[List.take_length]at hown
    exact fin hown hbel
end Go.Eng.T
namespace Go.Eng
open Go.Lib Go.RowKit Go.Sort
theorem Yg (w:World) (b:Nat) (f:Array Value→Array Value):(mapBlock w b f).heap[b]? =(w.heap[b]?).map (onCells f):=by
 simp[mapBlock,Array.getElem?_modify]
theorem Zu (w:World) {b k:Nat} (f:Array Value→Array Value) (h:k≠b):(mapBlock w b f).heap[k]? =w.heap[k]? :=by
 simp[mapBlock,Array.getElem?_modify,Ne.symm h]
theorem Pd (w:World) (b:Nat) (f:Array Value→Array Value):(mapBlock w b f).heap.size=w.heap.size:=by simp[mapBlock]
theorem AsK {w w':World} {b o n:Nat} {vs vs':List Value} {f:Array Value→Array Value} (h:Has w b o vs n) (hw:w'.heap[b]? =(w.heap[b]?).map (onCells f)) (hs:∀c,(f c).size=c.size)
 (hf:∀c:Array Value,o+n≤c.size→(∀i,i<vs.length→c[o+i]? =vs[i]?)→∀i,i<vs'.length→(f c)[o+i]? =vs'[i]?) (ho:Ez vs') (hl:vs'.length≤n):Has w' b o vs' n:=by
 obtain⟨_,c,et,hb,h2,h3,h4⟩:=h
 exact⟨ho,f c,et,by rw[hw,hb];rfl,by rw[hs];exact h2,hl,hf c h2 h4⟩
end Go.Eng
namespace Go.Eng
open Go.Lib Go.RowKit Go.Sort
def Ju:Nat→List Value→Array Value→Array Value
 | _,[],c=>c
 | o,v::r,c=>Ju (o+1) r (c.setIfInBounds o v)
theorem ER:∀(vs:List Value) (o:Nat) (c:Array Value),(Ju o vs c).size=c.size
 | [],_,_=>rfl
 | v::r,o,c=>by rw[Ju,ER r];simp
theorem Gc:∀(vs:List Value) (o k:Nat) (c:Array Value),k<o∨o+vs.length≤k→(Ju o vs c)[k]? =c[k]?
 | [],_,_,_,_=>rfl
 | v::r,o,k,c,h=>by
  simp only[List.length_cons]at h
  rw[Ju,Gc r (o+1) k _ (by omega),Array.getElem?_setIfInBounds,if_neg (by omega)]
theorem Qb:∀(vs:List Value) (o i:Nat) (c:Array Value),i<vs.length→o+vs.length≤c.size→(Ju o vs c)[o+i]? =vs[i]?
 | v::r,o,0,c,_,hc=>by
  simp only[List.length_cons]at hc
  rw[Ju,Gc r (o+1) (o+0) _ (by omega),Array.getElem?_setIfInBounds,if_pos (by omega),if_pos (by omega)]
  rfl
 | v::r,o,i+1,c,hi,hc=>by
  simp only[List.length_cons]at hc hi
  rw[Ju,show o+(i+1)=o+1+i by omega,Qb r (o+1) i _ (by omega) (by simp;omega)]
  simp
theorem Dw (b:Nat):∀(vs:List Value) (o:Nat) (w:World),w.setCells b o vs=mapBlock w b (Ju o vs)
 | [],o,w=>(mapBlock_id w b _ fun _ _ _ _=>rfl).symm
 | v::r,o,w=>by
  rw[World.setCells,Dw b r,setCell_eq,mapBlock_mapBlock]
  rfl
def AAo (l:List Int) (i:Nat) (v:Int):List Int:=l.take i++v::l.drop i
theorem Ayh {l:List Int} {i j:Nat} {v:Int} (hi:i≤l.length):(AAo l i v)[j]? =if j<i then l[j]? else if j=i then some v else l[j-1]? :=by
 unfold AAo
 have hm:min i l.length=i:=by omega
 rw[List.getElem?_append]
 simp only[List.length_take,hm]
 split
 ·rename_i h;rw[List.getElem?_take,if_pos h]
 ·split
  ·rename_i h1 h2;subst h2;simp
  ·rename_i h1 h2
   obtain⟨d,rfl⟩:∃d,j=i+(d+1):=⟨j-i-1,by omega⟩
   rw[show i+(d+1)-i=d+1 by omega,List.getElem?_cons_succ,List.getElem?_drop]
   congr 1
theorem AqU {l:List Int} {j:Nat}:(iv l)[j]? =(l[j]?).map (Value.int .i64):=by simp[iv]
theorem ACO {l:List Int} {i j:Nat} {v:Int} (hi:i≤l.length):(iv (AAo l i v))[j]? =if j<i then(iv l)[j]? else if j=i then some (.int .i64 v)else(iv l)[j-1]? :=by
 rw[AqU,Ayh hi]
 split
 ·rw[AqU]
 ·split
  ·rfl
  ·rw[AqU]
theorem AmP {w:World} {b o n:Nat} {vs:List Value} (h:Has w b o vs n) {j:Nat} {v:Value} (hj:vs[j]? =some v):w.cell? ⟨b,o+j,none⟩=some v:=by
 have hl:=(List.getElem?_eq_some_iff.1 hj).1
 rw[(Dc h).2 j hl,hj]
theorem AoD {w:World} {b o n:Nat} {vs:List Value} (h:Has w b o vs n) {j:Nat} (hj:j<n):(w.cell? ⟨b,o+j,none⟩).isSome=true:=by
 obtain⟨_,c,et,hb,h2,_,_⟩:=h
 unfold World.cell?
 simp only[hb]
 have:o+j<c.size:=by omega
 simp[this]
theorem AaI {w:World} {b o n:Nat} {vs:List Value} (h:Has w b o vs n) (x:Nat):w.frozen? ⟨b,x,none⟩=false:=by
 obtain⟨_,c,et,hb,_⟩:=h
 unfold World.frozen?
 simp only[hb]
 simp
theorem AkG {w:World} {b o n:Nat} {vs:List Value} (h:Has w b o vs n):∃t k,w.shape? b=some (t,k)∧o+n≤k:=by
 obtain⟨_,c,et,hb,h2,_⟩:=h
 exact⟨et,c.size,by unfold World.shape?;simp only[hb],h2⟩
theorem alloc_at (w:World) (o:Obj):(w.alloc o).heap[w.heap.size]? =some o:=by
 show(w.heap.push o)[w.heap.size]? =some o
 rw[Array.getElem?_push,if_pos rfl]
theorem R3 (w:World) (o:Obj) {k:Nat} (h:k<w.heap.size):(w.alloc o).heap[k]? =w.heap[k]? :=by
 show(w.heap.push o)[k]? =w.heap[k]?
 rw[Array.getElem?_push,if_neg (by omega)]
theorem Mt (w:World) (o:Obj):(w.alloc o).heap.size=w.heap.size+1:=Array.size_push _
theorem Ab3 {l:List Int} {off i n:Nat} {v:Int} (hi:i≤l.length) (hn:l.length+1≤n) (c:Array Value) (hc:off+n≤c.size) (hl:∀j,j<i→c[off+j]? =(iv l)[j]?) (j:Nat) (hj:j<l.length+1):
 (Ju (off+i) (iv [v]) (Ju (off+(i+1)) ((iv l).drop i) c))[off+j]? =(iv (AAo l i v))[j]? :=by
 rw[ACO hi]
 by_cases h1:j<i
 ·rw[if_pos h1,Gc _ _ _ _ (.inl (by omega)),Gc _ _ _ _ (.inl (by omega)),hl j h1]
 ·rw[if_neg h1]
  by_cases h2:j=i
  ·subst h2
   rw[if_pos rfl]
   have:=Qb (iv [v]) (off+j) 0 (Ju (off+(j+1)) ((iv l).drop j) c) (by simp) (by rw[ER];simp;omega)
   simp only[Nat.add_zero]at this
   rw[this];rfl
  ·rw[if_neg h2,Gc _ _ _ _ (.inr (by simp;omega))]
   have:=Qb ((iv l).drop i) (off+(i+1)) (j-(i+1)) c (by simp;omega) (by simp;omega)
   rw[show off+(i+1)+(j-(i+1))=off+j by omega]at this
   rw[this,List.getElem?_drop]
   congr 1;omega
end Go.Eng
namespace Go.Eng
open Go.Lib Go.RowKit Go.Sort
theorem AsB {F:Fr} {given:List O} {k e len:Nat} {cs:List V} {x:Value} (inv:Inv F F.β0 F.own0 (hp given) F.w0) (hk:hp given k= .arr e 0 len cs) (h:VR F F.β0 F.own0 (hp given) F.w0 (.arr k) x):
 ∃a cap vs,x= .slice a len cap∧(len≤cap∧cap≤9223372036854775807)∧vs.length=cs.length∧cs.length=len*e∧
  (cap*e=0∨∃b o,a=some ⟨b,o,none⟩∧F.own0 b=some (k,[])∧Has F.w0 b o vs (cap*e))∧
  ∀(i:Nat) (v:V) (x:Value),cs[i]? =some v→vs[i]? =some x→Ow F.Ad F.w0 F.own0 (F.S F.w0 F.own0) 0 k [i] v x:=by
 have ho:=inv.objs k
 rw[hk]at ho
 obtain⟨vs,h1,h2,h3,h4,h5⟩:=ho
 cases h with
 | @arr _ e' t len' cs' he=>
  rw[hk]at he
  simp only[Ag,Option.some.injEq,Prod.mk.injEq]at he
  obtain⟨rfl,rfl,rfl,rfl⟩:=he
  exact⟨_,_,vs,rfl,h3,h1,h2,h4,h5⟩
 | goneA hd=>rw[hk]at hd;cases hd
def ACE (P:Program) (k:Nat):Prop:=∀(a:Option Addr) (n cap i vb vo vc:Nat) (vs ds:List Value) (w:World),i≤n→n≤4194304→(n≤cap∧cap≤9223372036854775807)→vs.length=n*2→ds.length=2→
 (cap=0∨∃b o,a=some ⟨b,o,none⟩∧Has w b o vs (cap*2)∧b≠vb)→Has w vb vo ds (vc*2)→1≤vc→
 Calls P k #[.slice a n cap,.int .i64 i,.slice (some ⟨vb,vo,none⟩) 1 vc] w fun e w'=>∃b' o' cap',e= .returned (.slice (some ⟨b',o',none⟩) (n+1) cap')∧(n+1≤cap'∧cap'≤9223372036854775807)∧
  Has w' b' o' (vs.take (i*2)++ds++vs.drop (i*2)) (cap'*2)∧(w.heap.size≤b'∨∃o,a=some ⟨b',o,none⟩∧cap≠0)∧
  w.heap.size≤w'.heap.size∧w'.os=w.os∧w'.tape=w.tape∧w'.output=w.output∧∀b,b<w.heap.size→b≠b'→w'.heap[b]? =w.heap[b]?
def UQ (own:Nat→Option (Nat×List Nat)) (b' i:Nat):Nat→Option (Nat×List Nat):=fun b=>
 if b=b' then some (2,[])else match own b with
 | some (0,j::q)=>some (2,(if j<i*2 then j else j+2)::q)
 | some (1,j::q)=>some (2,(i*2+j)::q)
 | _=>none
theorem Awd {P:Program} {Ad:Nat→Option FuncId} {G:Gl} {g k:Nat} (hid:Ad g=some k) (hC:ACE P k) {cs ds:List V} {n i:Nat} (hn:n≤4194304) (hi:i≤n) (hcs:cs.length=n*2) (hds:ds.length=2):
 Den P Ad G g [.arr 0,.sc (.int .i64 i),.arr 1] [.arr 2 0 n cs,.arr 2 0 1 ds] (.sl 0 2 (n+1) (cs.take (i*2)++ds++cs.drop (i*2))) [.dead,.dead]:=by
 intro id hid' F hF hG hb ht hgn inv xs hx
 rw[hid]at hid'
 cases hid'
 obtain⟨x0,r0,rfl,h1,h2⟩:=hx.Ik
 obtain⟨x1,r1,rfl,h3,h4⟩:=h2.Ik
 obtain⟨x2,r2,rfl,h5,h6⟩:=h4.Ik
 obtain rfl:=h6.Oq
 obtain⟨a,cap,vs,rfl,hcap,hv1,_,hm,hel⟩:=AsB (k:=0) inv rfl h1
 obtain⟨a2,cap2,ws,rfl,hcap2,hw1,_,hm2,hel2⟩:=AsB (k:=1) inv rfl h5
 cases h3
 obtain⟨vb,vo,rfl,hvown,hvhas⟩:∃vb vo,a2=some ⟨vb,vo,none⟩∧F.own0 vb=some (1,[])∧Has F.w0 vb vo ws (cap2*2):=by
  rcases hm2 with h | h
  ·omega
  ·exact h
 have hm':cap=0∨∃b o,a=some ⟨b,o,none⟩∧Has F.w0 b o vs (cap*2)∧b≠vb:=by
  rcases hm with h | ⟨b,o,e1,e2,e3⟩
  ·exact .inl (by omega)
  ·exact .inr ⟨b,o,e1,e3,fun e=>by rw[e,hvown]at e2;cases e2⟩
 refine(hC a n cap i vb vo cap2 vs ws F.w0 hi hn hcap (by omega) (by omega) hm' hvhas hcap2.1).mono fun e w' ⟨b',o',cap',he,hcap',hhas,hpl,hsz,hos,htp,hou,hkeep⟩=> ?_
 subst he
 have hb':b' <F.w0.heap.size→F.own0 b' =some (0,[]):=by
  intro hlt
  rcases hpl with h | ⟨o,e1,e0⟩
  ·omega
  ·rcases hm with h | ⟨b,o2,e2,e3,_⟩
   ·omega
   ·rw[e2]at e1;cases e1;exact e3
 have hne:∀b k j q,F.own0 b=some (k,j::q)→b≠b'∧b<F.w0.heap.size:=by
  intro b k j q h
  have hlt:=(inv.ownb b _ h).1
  refine⟨fun e=> ?_,hlt⟩
  subst e
  rw[hb' hlt]at h
  cases h
 refine⟨UQ F.own0 b' i,⟨hsz,hos,htp,hou,fun b h1 h2=> ?_,fun b p h=> ?_,?_,by rw[hgn];rfl,fun j o hj=> ?_⟩⟩
 ·refine hkeep b h1 (fun e=> ?_)
  subst e
  rw[hb' h1]at h2;cases h2
 ·unfold UQ at h
  split at h
  ·rename_i e;subst e
   exact⟨RY hhas,fun hlt=>by rw[hb' hlt];simp⟩
  ·split at h
   ·rename_i j q e;exact⟨Nat.lt_of_lt_of_le (inv.ownb b _ e).1 hsz,fun _=>by rw[e];simp⟩
   ·rename_i j q e;exact⟨Nat.lt_of_lt_of_le (inv.ownb b _ e).1 hsz,fun _=>by rw[e];simp⟩
   ·cases h
 ·have hng:F.ngiven=2:=by rw[hgn];rfl
  rw[hng]
  refine .own hcap' ?_ ?_ (.inr ⟨b',o',rfl,by unfold UQ;rw[if_pos rfl],hhas⟩) ?_
  ·simp[hcs,hds];omega
  ·simp[hcs,hds,hv1,hw1]
  ·intro j v x hv hx
   simp only[List.nil_append]
   have mv:∀(k j0:Nat),Ow F.Ad F.w0 F.own0 (F.S F.w0 F.own0) 0 k [j0] v x→(∀b q,F.own0 b=some (k,j0::q)→UQ F.own0 b' i b=some (2,j::q))→
    Ow F.Ad w' (UQ F.own0 b' i) (fun _ b=>F.G b) 0 2 [j] v x:=by
    intro k j0 h hl
    refine h.move (Nat.le_refl 0) (fun fl b h1 h2 h3=> ?_) (fun fl b h1 h2 h3=> ?_) (fun b q hb=> ?_)
    ·have:fl=3:=by
      match fl,h1,h2 with
      | 1,_,h2=>simp[lv]at h2
      | 2,_,h2=>simp[lv]at h2
      | 3,_,_=>rfl
      | m+4,_,h2=>simp[lv]at h2
     subst this
     exact h3
    ·have:fl=3:=by
      match fl,h1,h2 with
      | 1,_,h2=>simp[lv]at h2
      | 2,_,h2=>simp[lv]at h2
      | 3,_,_=>rfl
      | m+4,_,h2=>simp[lv]at h2
     subst this
     have hg:=inv.glob b h3
     refine hkeep b hg.1 (fun e=> ?_)
     subst e
     rw[hb' hg.1]at hg;cases hg.2.1
    ·have hb2:F.own0 b=some (k,j0::q):=hb
     have hn:=hne b k j0 q hb2
     exact⟨hl b q hb2,hkeep b hn.2 hn.1⟩
   have hlen1:(cs.take (i*2)).length=i*2:=by simp[hcs];omega
   have hlen2:(vs.take (i*2)).length=i*2:=by simp[hv1,hcs];omega
   by_cases g1:j<i*2
   ·rw[List.append_assoc,List.getElem?_append_left (by omega),List.getElem?_take,if_pos g1]at hv hx
    refine mv 0 j (hel j v x hv hx) (fun b q hb=> ?_)
    unfold UQ
    rw[if_neg (hne b _ _ q hb).1,hb]
    simp[g1]
   ·by_cases g2:j<i*2+2
    ·rw[List.append_assoc,List.getElem?_append_right (by omega),List.getElem?_append_left (by omega)]at hv hx
     rw[hlen1]at hv
     rw[hlen2]at hx
     refine mv 1 (j-i*2) (hel2 _ v x hv hx) (fun b q hb=> ?_)
     unfold UQ
     rw[if_neg (hne b _ _ q hb).1,hb]
     simp;omega
    ·rw[List.append_assoc,List.getElem?_append_right (by omega),List.getElem?_append_right (by omega),List.getElem?_drop]at hv hx
     rw[hlen1,hds]at hv
     rw[hlen2,hw1,hds]at hx
     have e:i*2+(j-i*2-2)=j-2:=by omega
     rw[e]at hv hx
     refine mv 0 (j-2) (hel _ v x hv hx) (fun b q hb=> ?_)
     unfold UQ
     rw[if_neg (hne b _ _ q hb).1,hb]
     have:¬j-2<i*2:=by omega
     simp[this];omega
 ·match j,hj with
  | 0,hj=>simp only[List.getElem?_cons_zero,Option.some.injEq]at hj;subst hj;trivial
  | 1,hj=>simp only[List.getElem?_cons_succ,List.getElem?_cons_zero,Option.some.injEq]at hj;subst hj;trivial
  | j+2,hj=>simp at hj
end Go.Eng
namespace Go.Eng.T
open Go.Lib Go.RowKit Go.Sort
theorem Ao2 {P:Program} {Ad:Nat→Option FuncId} {G:Gl} {g k:Nat} (hid:Ad g=some k) (hC:ACE P k):AkP (Den P Ad G g):=by
 intro l i x hl hi
 have h:=Awd (G:=G) (g:=g) hid hC (cs:=l.flatMap Bl) (ds:=Bl x) (n:=l.length) (i:=i) hl hi (O4 l) rfl
 have e1:l.flatMap Bl=(l.take i).flatMap Bl++(l.drop i).flatMap Bl:=by rw[←List.flatMap_append,List.take_append_drop]
 have h1:((l.take i).flatMap Bl).length=i*2:=by rw[O4];simp;omega
 have e2:(l.flatMap Bl).take (i*2)=(l.take i).flatMap Bl:=by rw[e1,List.take_left' h1]
 have e3:(l.flatMap Bl).drop (i*2)=(l.drop i).flatMap Bl:=by rw[e1,List.drop_left' h1]
 rw[e2,e3]at h
 have e4:(l.take i++x::l.drop i).flatMap Bl=(l.take i).flatMap Bl++Bl x++(l.drop i).flatMap Bl:=by simp
 rw[e4]
 exact h
theorem Atw {P:Program} {Ad:Nat→Option FuncId} {G:Gl} {g k:Nat} {t:TypeId} (hid:Ad g=some k)
 (h0:∀w,Calls P k #[.slice none 0 0,.int .i64 0] w fun e w'=>e= .returned (.slice none 0 0)∧w' =w)
 (h1:∀(n:Nat) (w:Go.World),0<n→n≤16777216→Calls P k #[.slice none 0 0,.int .i64 n] w fun e w'=>e= .returned (.slice (some ⟨w.heap.size,0,none⟩) 0 (grownCap w n 0 t))∧
  w' =w.drew.alloc (.cells (([]:List Value).toArray++Builtin.zeroCells #[.int .i64 0] n++Builtin.zeroCells #[.int .i64 0] (grownCap w n 0 t-n)) t)):AwJ (Den P Ad G g):=by
 intro n hn
 refine AbQ (given:=[]) (l':=[]) fun id hi F hF inv xs hx=> ?_
 rw[hid]at hi
 cases hi
 obtain⟨x0,r0,rfl,g1,g2⟩:=hx.Ik
 obtain⟨x1,r1,rfl,g3,g4⟩:=g2.Ik
 obtain rfl:=g4.Oq
 cases g1
 cases g3
 by_cases hz:n=0
 ·subst hz
  refine(h0 F.w0).mono fun e w' ⟨he,hw⟩=>⟨none,0,he,⟨by simp,by omega⟩,.inl rfl,?_⟩
  rw[hw];exact Kept.refl F
 ·refine(h1 n F.w0 (by omega) hn).mono fun e w' ⟨he,hw⟩=> ?_
  have hgc:=U2 F.w0 n 0 t
  have hgb:=TS F.w0 n 0 t (by omega)
  subst hw
  refine⟨_,_,he,⟨by simp,hgb⟩,.inr ⟨_,_,rfl,⟨AeV [],_,t,alloc_at F.w0.drew _,?_,by simp,fun i hi=>by simp at hi⟩,fun h=>absurd h (by omega)⟩,?_⟩
  ·simp[Builtin.zeroCells];omega
  ·exact⟨by rw[Mt];simp,rfl,rfl,rfl,fun b hb _=>R3 F.w0.drew _ hb⟩
theorem AgP {F:Fr} {w':Go.World} (h1:w'.heap.size=F.w0.heap.size+1) (h2:w'.os=F.w0.os) (h3:w'.tape=F.w0.tape) (h4:w'.output=F.w0.output) (h5:∀b,b<F.w0.heap.size→w'.heap[b]? =F.w0.heap[b]?):Kept F w':=
 ⟨by omega,h2,h3,h4,fun b hb _=>h5 b hb⟩
theorem AnE {P:Program} {Ad:Nat→Option FuncId} {G:Gl} {g k:Nat} {t:TypeId} (hid:Ad g=some k)
 (h0:∀(b o cap:Nat) (w:Go.World),Calls P k #[.slice (some ⟨b,o,none⟩) 1 cap,.int .i64 0] w fun e w'=>e= .returned (.slice (some ⟨w.heap.size,0,none⟩) 0 0)∧w' =w.alloc (.cells #[] t))
 (h1:∀(b o cap:Nat) (v:Int) (w:Go.World),w.cell? ⟨b,o,none⟩=some (.int .i64 v)→Calls P k #[.slice (some ⟨b,o,none⟩) 1 cap,.int .i64 1] w fun e w'=>e= .returned (.slice (some ⟨w.heap.size,0,none⟩) 1 1)∧w' =(w.alloc (.cells #[.int .i64 0] t)).setCells w.heap.size 0 [.int .i64 v])
 (h2:∀(b o cap:Nat) (v:Int) (w:Go.World),w.cell? ⟨b,o,none⟩=some (.int .i64 v)→Calls P k #[.slice (some ⟨b,o,none⟩) 1 cap,.int .i64 2] w fun e w'=>e= .returned (.slice (some ⟨w.heap.size,0,none⟩) 2 2)∧
  w' =(((w.alloc (.cells #[.int .i64 0,.int .i64 0] t)).setCells w.heap.size 0 [.int .i64 v]).drew).setCells w.heap.size 1 [.int .i64 v]):AmC (Den P Ad G g):=by
 intro v n hn
 have hll:(List.replicate n v).length=n:=List.length_replicate
 have key:Den P Ad G g [.sl 1 1 1 (ints [v]),I n] [] (.sl 0 1 (List.replicate n v).length (ints (List.replicate n v))) []:=by
  refine AbQ (given:=[]) (l':=List.replicate n v) fun id hi F hF inv xs hx=> ?_
  rw[hid]at hi
  cases hi
  obtain⟨x0,r0,rfl,g1,g2⟩:=hx.Ik
  obtain⟨x1,r1,rfl,g3,g4⟩:=g2.Ik
  obtain rfl:=g4.Oq
  cases g3
  cases g1 with
  | rd _ g1=>
  obtain⟨a,cap,rfl,hle,hm⟩:=AlJ (l:=[v]) g1
  rcases hm with hm | ⟨b,o,rfl,hb,hcell⟩
  ·cases hm
  have hc:=hcell 0 (by simp)
  simp only[Nat.add_zero,List.getD_cons_zero]at hc
  have off:∀(f:Array Value→Array Value) (W:Go.World) (ob:Obj),W.heap=(F.w0.alloc ob).heap→∀b,b<F.w0.heap.size→(mapBlock W F.w0.heap.size f).heap[b]? =F.w0.heap[b]? :=fun f W ob hW b hb=>by rw[Zu _ _ (by omega),hW];exact R3 F.w0 ob hb
  match n,hn with
  | 0,_=>
   refine(h0 b o cap F.w0).mono fun e w' ⟨he,hw⟩=>⟨_,0,he,⟨by simp,by omega⟩,.inl rfl,?_⟩
   rw[hw]
   exact AgP (Mt _ _) rfl rfl rfl (fun b hb=>R3 _ _ hb)
  | 1,_=>
   refine(h1 b o cap v F.w0 hc).mono fun e w' ⟨he,hw⟩=>⟨_,1,he,⟨by simp,by omega⟩,.inr ⟨_,_,rfl,?_,fun h=>absurd h (by omega)⟩,?_⟩
   ·rw[hw,Dw]
    refine⟨AeV _,Ju 0 [Value.int .i64 v] #[Value.int .i64 0],t,?_,?_,by simp,fun i hi=> ?_⟩
    ·rw[Yg,alloc_at];rfl
    ·rw[ER];simp
    ·simp at hi;subst hi;rfl
   ·rw[hw,Dw]
    exact AgP (by rw[Pd,Mt]) rfl rfl rfl (fun b hb=>off _ _ _ rfl b hb)
  | 2,_=>
   refine(h2 b o cap v F.w0 hc).mono fun e w' ⟨he,hw⟩=>⟨_,2,he,⟨by simp,by omega⟩,.inr ⟨_,_,rfl,?_,fun h=>absurd h (by omega)⟩,?_⟩
   ·rw[hw,Dw,Dw]
    refine⟨AeV _,Ju 1 [Value.int .i64 v] (Ju 0 [Value.int .i64 v] #[Value.int .i64 0,Value.int .i64 0]),t,?_,?_,by simp,fun i hi=> ?_⟩
    ·rw[Yg]
     simp only[World.drew]
     rw[Yg,alloc_at];rfl
    ·rw[ER,ER];simp
    ·simp at hi
     match i,hi with
     | 0,_=>rfl
     | 1,_=>rfl
   ·rw[hw,Dw,Dw]
    refine AgP ?_ rfl rfl rfl (fun b hb=> ?_)
    ·rw[Pd];simp only[World.drew];rw[Pd,Mt]
    ·rw[Zu _ _ (by omega)]
     simp only[World.drew]
     exact off _ _ _ rfl b hb
 rw[hll]at key
 exact key
end Go.Eng.T
namespace Go.Proofs
open Go.Shelf
def Tryz.Anb:Go.Shelf.Ren:=⟨fun | 113=>244 | n=>n,fun | 28=>24 | 3=>3 | 4=>4 | 9=>9 | 20=>20 | 0=>0 | n=>n,fun | n=>n⟩
theorem Tryz.AAA:Go.Proofs.Lays.n113 Tryz.prog Tryz.Anb:={
 mixed:=by kernel_rfl
 f113:=Tryz.func244.trans (congrArg some (by kernel_rfl))
 t0:=Tryz.underlying0
 a0:=Tryz.isAgg0
 z0:=Tryz.sizeOf0
 v0:=Tryz.zeroValue0
 t3:=Tryz.underlying3
 a3:=Tryz.isAgg3
 z3:=Tryz.sizeOf3
 v3:=Tryz.zeroValue3
 t4:=Tryz.underlying4
 a4:=Tryz.isAgg4
 z4:=Tryz.sizeOf4
 v4:=Tryz.zeroValue4
 t9:=Tryz.underlying9
 a9:=Tryz.isAgg9
 z9:=Tryz.sizeOf9
 v9:=Tryz.zeroValue9
 t20:=Tryz.underlying20
 a20:=Tryz.isAgg20
 z20:=Tryz.sizeOf20
 v20:=Tryz.zeroValue20
 t28:=Tryz.underlying24
 a28:=Tryz.isAgg24
 z28:=Tryz.sizeOf24
 v28:=Tryz.zeroValue24}
open Go.Lib in
theorem Tryz.slices_Max_int (b off n c:Nat) (zs:List Int) (w:World) (hn:0<n) (hz:n≤zs.length) (hbig:n≤9223372036854775807) (hc:∀j,j<zs.length→w.cell? ⟨b,off+j,none⟩=some (.int .i64 (zs.getD j 0))):
 Calls Tryz.prog 244 #[.slice (some ⟨b,off,none⟩) n c] w fun e w'=>e= .returned (.int .i64 (Lib.maxOf (zs.take n)))∧w' =w:=Any.slices_Max_int Tryz.AAA b off n c zs w hn hz hbig hc
def Tryz.Aiq:Go.Shelf.Ren:=⟨fun | 15=>196 | n=>n,fun | 22=>24 | 3=>3 | 4=>4 | n=>n,fun | n=>n⟩
theorem Tryz.Ab0:Go.Proofs.Lays2.n15 Tryz.prog Tryz.Aiq:={
 mixed:=by kernel_rfl
 f15:=Tryz.func196.trans (congrArg some (by kernel_rfl))
 t3:=Tryz.underlying3
 a3:=Tryz.isAgg3
 z3:=Tryz.sizeOf3
 v3:=Tryz.zeroValue3
 t4:=Tryz.underlying4
 a4:=Tryz.isAgg4
 z4:=Tryz.sizeOf4
 v4:=Tryz.zeroValue4
 t22:=Tryz.underlying24
 a22:=Tryz.isAgg24
 z22:=Tryz.sizeOf24
 v22:=Tryz.zeroValue24
 i3:=by kernel_rfl}
open Go.RowKit Go.Lib in
theorem Tryz.slices_Clone_int (b off n c:Nat) (zs:List Int) (w:World) (hz:n≤zs.length) (hbig:n*8≤140737488355328) (hc:∀j,j<zs.length→w.cell? ⟨b,off+j,none⟩=some (.int .i64 (zs.getD j 0))):
 Calls Tryz.prog 196 #[.slice (some ⟨b,off,none⟩) n c] w fun e w'=>∃v',e= .returned v'∧w'.ownsRow w.heap.size 3 1 v' n ((zs.take n).map (Value.int .i64))∧v'≠ .slice none 0 0∧Below w.heap.size w w':=Any.slices_Clone_int Tryz.Ab0 b off n c zs w hz hbig hc
open Go.RowKit Go.Lib in
theorem Tryz.slices_Clone_int_nil (n c:Nat) (w:World):
 Calls Tryz.prog 196 #[.slice none n c] w fun e w'=>e= .returned (.slice none 0 0)∧w' =w:=Any.slices_Clone_int_nil Tryz.Ab0 n c w
open Go.RowKit Go.Lib in
theorem Tryz.slices_Clone_int_zero (a:Addr) (c:Nat) (w:World):
 Calls Tryz.prog 196 #[.slice (some a) 0 c] w fun e w'=>∃v',e= .returned v'∧w'.ownsRow w.heap.size 3 1 v' 0 []∧v'≠ .slice none 0 0∧Below w.heap.size w w':=Any.slices_Clone_int_zero Tryz.Ab0 a c w
end Go.Proofs
namespace Go.Eng.Ins
open Go Go.Proofs Go.Shelf Go.RowKit Go.Lib Go.Sort Go.Eng
set_option maxRecDepth 100000
theorem inf:∃i:TypeInfo,Tryz.prog.info? 134=some i∧i.size=2∧i.bytes=32∧i.zero=some (.agg #[.int .i64 0,.slice none 0 0]):=by
 have h:(Tryz.prog.info? 134).isSome=true:=by kernel_rfl
 obtain⟨i,hi⟩:=Option.isSome_iff_exists.1 h
 have h1:(Tryz.prog.info? 134).map (·.size)=some 2:=by kernel_rfl
 have h2:(Tryz.prog.info? 134).map (·.bytes)=some 32:=by kernel_rfl
 have h3:(Tryz.prog.info? 134).bind (·.zero)=some (.agg #[.int .i64 0,.slice none 0 0]):=by kernel_rfl
 rw[hi]at h1 h2 h3
 simp only[Option.map_some,Option.some.injEq,Option.bind_some]at h1 h2 h3
 exact⟨i,hi,h1,h2,h3⟩
theorem Fg {P:Program} (w:World) (dT sT ty elem:TypeId) (s:Nat) (b o dLen dCap:Nat) (a:Addr) (sLen sCap:Nat) (cs:List Value)
 (hu:P.underlying dT=some (.slice elem)) (hs:(P.info? elem).map (·.size)=some s) (hn:cs.length=Nat.min sLen dLen*s)
 (hsrc:∀j v,cs[j]? =some v→w.cell? (a.add j)=some v) (hc:∀j,j<cs.length→(w.cell? ⟨b,o+j,none⟩).isSome=true) (hf:∀j,j<cs.length→w.frozen? ⟨b,o+j,none⟩=false) (h1:∀v∈cs,v.oneCell' =true):
 (Builtin.copy_ #[dT,sT] ty #[.slice (some ⟨b,o,none⟩) dLen dCap,.slice (some a) sLen sCap]).run P w= .ok (goInt (Nat.min sLen dLen)) (w.setCells b o cs):=by
 have hl:=run_loadCells_list (P:=P) w a cs hsrc
 have hst:=run_storeCells_cells (P:=P) b o cs 0 w (by simpa using hc) (by simpa using hf) h1
 cases hq:P.info? elem with
 | none=>simp[hq]at hs
 | some i=>
  have hi:i.size=s:=by simpa[hq]using hs
  rw[hn]at hl
  simp[Builtin.copy_,run_underlying hu,Builtin.lenOf,Builtin.firstCells,sizeOf,typeInfo,hq,hi,hl,hst]
set_option maxHeartbeats 4000000 in
theorem AuW (b off n c i vb voff vc:Nat) (cs vs:List Value) (w:World) (hi:i<n) (hroom:n+1≤c) (hc63:c≤9223372036854775807) (hvb:vb≠b)
 (hcl:cs.length=n*2) (hvl:vs.length=2)
 (hcs:∀j v,cs[j]? =some v→w.cell? ⟨b,off+j,none⟩=some v) (hsp:∀j,j<(n+1)*2→(w.cell? ⟨b,off+j,none⟩).isSome=true) (hfz:∀j,j<(n+1)*2→w.frozen? ⟨b,off+j,none⟩=false)
 (hvs:∀j v,vs[j]? =some v→w.cell? ⟨vb,voff+j,none⟩=some v) (h1c:∀v∈cs,v.oneCell' =true) (h1v:∀v∈vs,v.oneCell' =true)
 (tA tB:TypeId) (kA kB:Nat) (hsa:w.shape? vb=some (tA,kA)) (hsb:w.shape? b=some (tB,kB)) (hkB:kB≠0) (hfa:w.frozen? ⟨vb,voff,none⟩=false) (hfe:w.frozen? ⟨vb,kA,none⟩=false):
 Calls Tryz.prog 153 #[.slice (some ⟨b,off,none⟩) n c,.int .i64 i,.slice (some ⟨vb,voff,none⟩) 1 vc] w fun e w'=>
  e= .returned (.slice (some ⟨b,off,none⟩) (n+1) c)∧w' =(w.drew.setCells b (off+(i+1)*2) (cs.drop (i*2))).setCells b (off+i*2) vs:=by
 have hz1:¬((1:Int)=0):=by omega
 have hz2:¬((i:Int)=(n:Int)):=by omega
 obtain⟨i0,hi0,hs0,hb0,hz0⟩:=inf
 have hsz:(Tryz.prog.info? 134).map (·.size)=some 2:=by rw[hi0];simp[hs0]
 have hso:∀w,(Go.sizeOf 134).run Tryz.prog w= .ok 2 w:=fun w=>by simp[Go.sizeOf,typeInfo,hi0,hs0]
 have hov:∀lb cb,(callFunc 193 #[.slice (some ⟨vb,voff,none⟩) 1 vc,.slice (some ⟨b,off+(i+1)*2,none⟩) lb cb]).run Tryz.prog w= .ok (.value (.bool false)) w:=fun lb cb=>by
  rw[run_callFunc_extern Tryz.func193 (by kernel_rfl) (by kernel_rfl) (by kernel_rfl) (e:=Extern.SlicesOverlaps.overlaps #[91,91] #[4]) (by kernel_rfl),
   Lib.run_overlaps_apart w 91 4 134 Tryz.underlying91 2 hso ⟨vb,voff,none⟩ ⟨b,off+(i+1)*2,none⟩ 1 vc lb cb hvb tA tB kA kB hsa hsb hkB hfa hfe]
  rfl
 have hdl:(cs.drop (i*2)).length=(n-i)*2:=by rw[List.length_drop,hcl];omega
 have hw1:IntKind.i64.wrap ((i:Int)+1)=(i:Int)+1:=by rw[IntKind.wrap_i64];omega
 have hb1:(0:Int)≤(i:Int)+1:=by omega
 have hin:i≤n:=by omega
 have htn:((i:Int)+1).toNat=i+1:=by omega
 have hb2:¬(c=i+1):=by omega
 have hb3:(i:Int)≤(n:Int)+1:=by omega
 have hb4:¬(c=i):=by omega
 have hb5:(i:Int)≤((n+1:Nat):Int):=by omega
 have mixed:Tryz.prog.follows .mixedOrders=true:=by kernel_rfl
 have hcp1:∀ty dc sc,(Builtin.copy_ #[91,91] ty #[.slice (some ⟨b,off+(i+1)*2,none⟩) (n-i) dc,.slice (some ⟨b,off+i*2,none⟩) (n+1-i) sc]).run Tryz.prog w.drew= .ok (goInt ((n-i:Nat):Int)) (w.drew.setCells b (off+(i+1)*2) (cs.drop (i*2))):=fun ty dc sc=>by
  have hmin:Nat.min (n+1-i) (n-i)=n-i:=by simp only[Nat.min_def];split<;>omega
  have:=Fg (P:=Tryz.prog) w.drew 91 91 ty 134 2 b (off+(i+1)*2) (n-i) dc ⟨b,off+i*2,none⟩ (n+1-i) sc (cs.drop (i*2)) Tryz.underlying91 hsz (by rw[hdl,hmin])
   (fun j v hj=>by rw[Addr.add_lit,Nat.add_assoc];exact hcs (i*2+j) v (by rwa [List.getElem?_drop]at hj))
   (fun j hj=>by rw[Nat.add_assoc];exact hsp _ (by omega)) (fun j hj=>by rw[Nat.add_assoc];exact hfz _ (by omega)) (fun v hv=>h1c v (List.mem_of_mem_drop hv))
  rw[hmin]at this
  exact this
 obtain⟨W1,hW1⟩:∃W1,W1=w.drew.setCells b (off+(i+1)*2) (cs.drop (i*2)):=⟨_,rfl⟩
 have hsp1:∀k,k<(n+1)*2→(W1.cell? ⟨b,off+k,none⟩).isSome=true:=fun k hk=>by
  rw[hW1]
  exact isSome_setCells b _ _ _ (fun j hj=>by rw[Nat.add_assoc];exact hsp _ (by omega)) _ (hsp k hk)
 have hcp2:∀(W:World),(∀x,W.cell? x=W1.cell? x)→(∀x,W.frozen? x=W1.frozen? x)→∀ty dc,(Builtin.copy_ #[91,91] ty #[.slice (some ⟨b,off+i*2,none⟩) (n+1-i) dc,.slice (some ⟨vb,voff,none⟩) 1 vc]).run Tryz.prog W= .ok (goInt 1) (W.setCells b (off+i*2) vs):=fun W hWc hWf ty dc=>by
  have hmin:Nat.min 1 (n+1-i)=1:=by simp only[Nat.min_def];split<;>omega
  have:=Fg (P:=Tryz.prog) W 91 91 ty 134 2 b (off+i*2) (n+1-i) dc ⟨vb,voff,none⟩ 1 vc vs Tryz.underlying91 hsz (by rw[hvl,hmin])
   (fun j v hj=>by
    rw[Addr.add_lit,hWc,hW1,World.cell?_setCells_out b _ _ _ _ (fun h _=>absurd h hvb)]
    exact hvs j v hj)
   (fun j hj=>by rw[hWc,Nat.add_assoc];exact hsp1 _ (by omega)) (fun j hj=>by rw[hWf,hW1,World.frozen?_setCells,Nat.add_assoc];exact hfz _ (by omega)) h1v
  rw[hmin]at this
  exact this
 rw[←hW1]at hcp1
 go_enter Tryz.func153,Tryz.ntmps153
 go_wp2_with (simp only[hov])
 go_region_law_o (refine step_copy_runI rfl _ _ 91 91 rfl _ _ (by simp[Act.eval,Act.put]) (by simp[Act.eval,Act.put]) (hcp1 _ _ _) ?_)
 go_wp2_with (at_builtin;refine wpList_copy_runI _ rfl _ _ 91 91 rfl _ _ rfl rfl (hcp2 _ (fun _=>rfl) (fun _=>rfl) _ _) ?_)
 go_ret
 first | exact⟨rfl,rfl⟩ | exact⟨rfl,by rw[hW1]⟩
set_option maxHeartbeats 4000000 in
theorem Al7 (b off n c vb voff vc:Nat) (vs:List Value) (w:World) (hroom:n+1≤c) (hc63:c≤9223372036854775807) (hvl:vs.length=2)
 (hsp:∀j,j<2→(w.cell? ⟨b,off+n*2+j,none⟩).isSome=true) (hfz:∀j,j<2→w.frozen? ⟨b,off+n*2+j,none⟩=false)
 (hvs:∀j v,vs[j]? =some v→w.cell? ⟨vb,voff+j,none⟩=some v) (h1v:∀v∈vs,v.oneCell' =true):
 Calls Tryz.prog 153 #[.slice (some ⟨b,off,none⟩) n c,.int .i64 n,.slice (some ⟨vb,voff,none⟩) 1 vc] w fun e w'=>
  e= .returned (.slice (some ⟨b,off,none⟩) (n+1) c)∧w' =w.setCells b (off+n*2) vs:=by
 have hz1:¬((1:Int)=0):=by omega
 obtain⟨i0,hi0,hs0,hb0,hz0⟩:=inf
 have mixed:Tryz.prog.follows .mixedOrders=true:=by kernel_rfl
 have hsrc:Go.Src Tryz.prog i0.size 91 (.slice (some ⟨vb,voff,none⟩) 1 vc) 1 vs w:=Go.Src.ofSlice w Tryz.underlying91 ⟨vb,voff,none⟩ 1 vc vs (by omega) (fun j u hj=>by rw[Addr.add_lit];exact hvs j u hj) h1v
 have hrun:∀ty,(Builtin.append_ #[91,91] ty #[.slice (some ⟨b,off,none⟩) n c,.slice (some ⟨vb,voff,none⟩) 1 vc]).run Tryz.prog w= .ok (.slice (some ⟨b,off,none⟩) (n+1) c) (w.setCells b (off+n*2) vs):=fun ty=>by
  have:=run_append_room_src w 91 91 ty 134 i0 Tryz.underlying91 hi0 b off n c (.slice (some ⟨vb,voff,none⟩) 1 vc) 1 vs hsrc hroom (fun j hj=>by rw[hs0];exact hsp j (by omega)) (fun j hj=>by rw[hs0];exact hfz j (by omega))
  rw[hs0]at this
  exact this
 go_enter Tryz.func153,Tryz.ntmps153
 go_wp2_with (at_builtin;refine Lib.wpList_append_run _ rfl _ _ _ _ rfl _ _ rfl rfl _ _ (hrun _) ?_)
 go_ret
 exact⟨rfl,rfl⟩
set_option maxHeartbeats 4000000 in
theorem Ak3 (base:Option Addr) (n c vb voff vc:Nat) (cs vs:List Value) (w:World) (hnc:n≤c) (hroom:c<n+1) (hbig:(n+1)*32≤140737488355328)
 (hcl:cs.length=n*2) (hvl:vs.length=2) (hnil:base=none→n=0)
 (hcs:∀a,base=some a→∀j v,cs[j]? =some v→w.cell? (a.add j)=some v)
 (hvs:∀j v,vs[j]? =some v→w.cell? ⟨vb,voff+j,none⟩=some v) (h1v:∀v∈vs,v.oneCell' =true):
 Calls Tryz.prog 153 #[.slice base n c,.int .i64 n,.slice (some ⟨vb,voff,none⟩) 1 vc] w fun e w'=>
  e= .returned (.slice (some ⟨w.heap.size,0,none⟩) (n+1) (grownCap w (n+1) c 134))∧
  w' =w.drew.alloc (.cells ((cs++vs).toArray++Builtin.zeroCells #[.int .i64 0,.slice none 0 0] (grownCap w (n+1) c 134-(n+1))) 134):=by
 have hz1:¬((1:Int)=0):=by omega
 obtain⟨i0,hi0,hs0,hb0,hz0⟩:=inf
 have mixed:Tryz.prog.follows .mixedOrders=true:=by kernel_rfl
 have hsrc:Go.Src Tryz.prog i0.size 91 (.slice (some ⟨vb,voff,none⟩) 1 vc) 1 vs w:=Go.Src.ofSlice w Tryz.underlying91 ⟨vb,voff,none⟩ 1 vc vs (by omega) (fun j u hj=>by rw[Addr.add_lit];exact hvs j u hj) h1v
 have hold:(Builtin.firstCells i0.size n (.slice base n c)).run Tryz.prog w.drew= .ok cs.toArray w.drew:=by
  rw[hs0]
  cases base with
  | none=>
   have h0:=hnil rfl
   subst h0
   have hc0:cs=[]:=List.length_eq_zero_iff.1 (by simpa using hcl)
   rw[hc0]
   exact run_firstCells_none w.drew 2 0 0 c
  | some a=>exact run_firstCells_some w.drew 2 n a n c cs (by omega) (fun j v hj=>hcs a rfl j v hj)
 have hrun:∀ty,(Builtin.append_ #[91,91] ty #[.slice base n c,.slice (some ⟨vb,voff,none⟩) 1 vc]).run Tryz.prog w=
  .ok (.slice (some ⟨w.heap.size,0,none⟩) (n+1) (grownCap w (n+1) c 134)) (w.drew.alloc (.cells ((cs++vs).toArray++Builtin.zeroCells #[.int .i64 0,.slice none 0 0] (grownCap w (n+1) c 134-(n+1))) 134)):=fun ty=>
  run_append_grow_src w 91 91 ty 134 i0 _ Tryz.underlying91 hi0 hz0 base n c cs hold _ 1 vs hsrc hroom (by omega) (by rw[hb0];exact growslice_fits hroom hbig)
 go_enter Tryz.func153,Tryz.ntmps153
 cases base with
 | none=>
  have h0:=hnil rfl
  subst h0
  go_wp2_with (at_builtin;refine Lib.wpList_append_run _ rfl _ _ _ _ rfl _ _ rfl rfl _ _ (hrun _) ?_)
  go_ret
  exact⟨rfl,rfl⟩
 | some a=>
  obtain⟨ab,ao,asp⟩:=a
  go_wp2_with (at_builtin;refine Lib.wpList_append_run _ rfl _ _ _ _ rfl _ _ rfl rfl _ _ (hrun _) ?_)
  all_goals (go_ret;exact⟨rfl,rfl⟩)
set_option maxHeartbeats 4000000 in
theorem AyG (b off n c i vb voff vc:Nat) (cs vs:List Value) (w:World) (hi:i<n) (hnc:n≤c) (hroom:c<n+1) (hbig:(n+1)*32≤140737488355328)
 (hcl:cs.length=n*2) (hvl:vs.length=2)
 (hcs:∀j v,cs[j]? =some v→w.cell? ⟨b,off+j,none⟩=some v)
 (hvs:∀j v,vs[j]? =some v→w.cell? ⟨vb,voff+j,none⟩=some v) (h1c:∀v∈cs,v.oneCell' =true) (h1v:∀v∈vs,v.oneCell' =true):
 Calls Tryz.prog 153 #[.slice (some ⟨b,off,none⟩) n c,.int .i64 i,.slice (some ⟨vb,voff,none⟩) 1 vc] w fun e w'=>
  e= .returned (.slice (some ⟨w.heap.size,0,none⟩) (n+1) (grownCap w (n+1) c 134))∧
  w' =(((w.alloc (.cells ((cs.take (i*2)).toArray++Builtin.zeroCells #[.int .i64 0,.slice none 0 0] (n+1-i)++Builtin.zeroCells #[.int .i64 0,.slice none 0 0] (grownCap w (n+1) c 134-(n+1))) 134)).drew.setCells w.heap.size (i*2) vs).drew).setCells w.heap.size ((i+1)*2) (cs.drop (i*2)):=by
 have hz1:¬((1:Int)=0):=by omega
 have hz2:¬((i:Int)=(n:Int)):=by omega
 have hz3:(c:Int)<(n:Int)+1:=by omega
 obtain⟨i0,hi0,hs0,hb0,hz0⟩:=inf
 have mixed:Tryz.prog.follows .mixedOrders=true:=by kernel_rfl
 have hsz:(Tryz.prog.info? 134).map (·.size)=some 2:=by rw[hi0];simp[hs0]
 have hbw:b<w.heap.size:=block_lt_of_cell (hcs 0 _ (List.getElem?_eq_getElem (by omega)))
 have hvw:vb<w.heap.size:=block_lt_of_cell (hvs 0 _ (List.getElem?_eq_getElem (by omega)))
 have hkk:(n:Int)+1-(i:Int)=((n+1-i:Nat):Int):=by omega
 have hik:i+(n+1-i)=n+1:=by omega
 have hold:(Builtin.firstCells i0.size i (.slice (some ⟨b,off,none⟩) i c)).run Tryz.prog w.drew= .ok (cs.take (i*2)).toArray w.drew:=by
  rw[hs0]
  exact run_firstCells_some w.drew 2 i ⟨b,off,none⟩ i c (cs.take (i*2)) (by rw[List.length_take];omega) (fun j v hj=>by
   rw[Addr.add_lit]
   rw[List.getElem?_take]at hj
   split at hj
   ·exact hcs j v hj
   ·cases hj)
 have hrz:∀ty,(Builtin.append_ #[91,3] ty #[.slice (some ⟨b,off,none⟩) i c,.int .i64 ((n:Int)+1-(i:Int))]).run Tryz.prog w=
  .ok (.slice (some ⟨w.heap.size,0,none⟩) (n+1) (grownCap w (n+1) c 134)) (w.drew.alloc (.cells ((cs.take (i*2)).toArray++Builtin.zeroCells #[.int .i64 0,.slice none 0 0] (n+1-i)++Builtin.zeroCells #[.int .i64 0,.slice none 0 0] (grownCap w (n+1) c 134-(n+1))) 134)):=fun ty=>by
  have h:=Lib.run_append_grow_zeros w 91 3 ty 134 i0 _ .i64 .i64 Tryz.underlying91 Tryz.underlying3 hi0 hz0 (some ⟨b,off,none⟩) i c (cs.take (i*2)) hold (n+1-i) (by omega) (by omega) (by omega) (by omega) (by rw[hb0];omega) (by rw[hb0,hik];exact growslice_fits hroom hbig)
  rw[hik]at h
  rw[hkk]
  exact h
 obtain⟨G,hG⟩:∃G,G=grownCap w (n+1) c 134:=⟨_,rfl⟩
 obtain⟨ROW,hROW⟩:∃ROW:Array Value,ROW=(cs.take (i*2)).toArray++Builtin.zeroCells #[.int .i64 0,.slice none 0 0] (n+1-i)++Builtin.zeroCells #[.int .i64 0,.slice none 0 0] (G-(n+1)):=⟨_,rfl⟩
 rw[←hG]at hrz⊢
 rw[←hROW]at hrz⊢
 have hRl:(n+1)*2≤ROW.size:=by
  rw[hROW]
  simp[Builtin.zeroCells]
  omega
 obtain⟨W1,hW1⟩:∃W1,W1=w.drew.alloc (.cells ROW 134):=⟨_,rfl⟩
 rw[←hW1]at hrz
 have hN:∀j,j<(n+1)*2→(W1.cell? ⟨w.heap.size,j,none⟩).isSome=true:=fun j hj=>by
  rw[hW1,World.cell?_alloc_at (w:=w.drew) ROW _ w.heap.size j rfl,Array.getElem?_eq_getElem (by omega)];rfl
 have hNf:∀j,W1.frozen? ⟨w.heap.size,j,none⟩=false:=fun j=>by rw[hW1];exact World.frozen?_alloc_at (w:=w.drew) ROW _ w.heap.size j rfl
 have hOb:∀j v,w.cell? ⟨b,j,none⟩=some v→W1.cell? ⟨b,j,none⟩=some v:=fun j v h=>by rw[hW1,World.cell?_alloc_past (w:=w.drew) _ b j hbw];exact h
 have hOv:∀j v,w.cell? ⟨vb,j,none⟩=some v→W1.cell? ⟨vb,j,none⟩=some v:=fun j v h=>by rw[hW1,World.cell?_alloc_past (w:=w.drew) _ vb j hvw];exact h
 have hcpA:∀(W:World),(∀x,W.cell? x=W1.cell? x)→(∀x,W.frozen? x=W1.frozen? x)→∀ty dc,(Builtin.copy_ #[91,91] ty #[.slice (some ⟨w.heap.size,i*2,none⟩) (n+1-i) dc,.slice (some ⟨vb,voff,none⟩) 1 vc]).run Tryz.prog W= .ok (goInt 1) (W.setCells w.heap.size (i*2) vs):=fun W hWc hWf ty dc=>by
  have hmin:Nat.min 1 (n+1-i)=1:=by simp only[Nat.min_def];split<;>omega
  have:=Fg (P:=Tryz.prog) W 91 91 ty 134 2 w.heap.size (i*2) (n+1-i) dc ⟨vb,voff,none⟩ 1 vc vs Tryz.underlying91 hsz (by rw[hvl,hmin])
   (fun j v hj=>by rw[Addr.add_lit,hWc];exact hOv _ v (hvs j v hj))
   (fun j hj=>by rw[hWc];exact hN _ (by omega)) (fun j hj=>by rw[hWf];exact hNf _) h1v
  rw[hmin]at this
  exact this
 have hGn:n+1≤G:=by rw[hG];exact grownCap_ge w _ _ _
 have hG63:G≤9223372036854775807:=by
  have:=grownCap_le_maxLen w (n+1) c 134 (by unfold maxLen;omega)
  rw[←hG]at this
  unfold maxLen at this
  omega
 have hGi:¬(G=i):=by omega
 have hGim:¬(G=i+1):=by omega
 have hci:¬(c=i):=by omega
 have hbN:b≠w.heap.size:=by omega
 have hdl:(cs.drop (i*2)).length=(n-i)*2:=by rw[List.length_drop,hcl];omega
 have hcpB:∀(W:World),(∀x,W.cell? x=(W1.setCells w.heap.size (i*2) vs).cell? x)→(∀x,W.frozen? x=(W1.setCells w.heap.size (i*2) vs).frozen? x)→∀ty dc sc,(Builtin.copy_ #[91,91] ty #[.slice (some ⟨w.heap.size,(i+1)*2,none⟩) (n-i) dc,.slice (some ⟨b,off+i*2,none⟩) (n-i) sc]).run Tryz.prog W= .ok (goInt ((n-i:Nat):Int)) (W.setCells w.heap.size ((i+1)*2) (cs.drop (i*2))):=fun W hWc hWf ty dc sc=>by
  have hmin:Nat.min (n-i) (n-i)=n-i:=by simp only[Nat.min_def];split<;>omega
  have:=Fg (P:=Tryz.prog) W 91 91 ty 134 2 w.heap.size ((i+1)*2) (n-i) dc ⟨b,off+i*2,none⟩ (n-i) sc (cs.drop (i*2)) Tryz.underlying91 hsz (by rw[hdl,hmin])
   (fun j v hj=>by
    rw[Addr.add_lit,hWc,World.cell?_setCells_out _ _ _ _ _ (fun h _=>absurd h hbN),Nat.add_assoc]
    exact hOb _ v (hcs (i*2+j) v (by rwa [List.getElem?_drop]at hj)))
   (fun j hj=>by rw[hWc];exact isSome_setCells _ _ _ _ (fun t ht=>hN _ (by omega)) _ (hN _ (by omega)))
   (fun j hj=>by rw[hWf,World.frozen?_setCells];exact hNf _) (fun v hv=>h1c v (List.mem_of_mem_drop hv))
  rw[hmin]at this
  exact this
 subst hW1
 have hE1:∀x,((w.alloc (.cells ROW 134)).drew).cell? x=(w.drew.alloc (.cells ROW 134)).cell? x:=fun x=>rfl
 have hE2:∀x,((w.alloc (.cells ROW 134)).drew).frozen? x=(w.drew.alloc (.cells ROW 134)).frozen? x:=fun x=>rfl
 have hF1:∀x,(((w.alloc (.cells ROW 134)).drew.setCells w.heap.size (i*2) vs).drew).cell? x=((w.drew.alloc (.cells ROW 134)).setCells w.heap.size (i*2) vs).cell? x:=fun x=>rfl
 have hF2:∀x,(((w.alloc (.cells ROW 134)).drew.setCells w.heap.size (i*2) vs).drew).frozen? x=((w.drew.alloc (.cells ROW 134)).setCells w.heap.size (i*2) vs).frozen? x:=fun x=>rfl
 have hw1:IntKind.i64.wrap ((i:Int)+1)=(i:Int)+1:=by rw[IntKind.wrap_i64];omega
 have hb1:(0:Int)≤(i:Int)+1:=by omega
 have hin:i≤n:=by omega
 have htn:((i:Int)+1).toNat=i+1:=by omega
 have hb3:(i:Int)≤(n:Int):=by omega
 clear hkk hik hold hROW hG hRl
 go_enter Tryz.func153,Tryz.ntmps153
 go_wp2_with (first
  | (at_builtin;refine Lib.wpList_append_run _ rfl _ _ _ _ rfl _ _ rfl rfl _ _ (hrz _) ?_)
  | (at_builtin;refine wpList_copy_runI _ rfl _ _ 91 91 rfl _ _ rfl rfl (hcpA _ hE1 hE2 _ _) ?_)
  | (at_builtin;refine wpList_copy_runI _ rfl _ _ 91 91 rfl _ _ rfl rfl (hcpB _ (fun _=>rfl) (fun _=>rfl) _ _ _) ?_))
 go_region_law_o (refine step_copy_runI rfl _ _ 91 91 rfl (.slice (some ⟨w.heap.size,(i+1)*2,none⟩) (n-i) (G-(i+1))) (.slice (some ⟨b,off+i*2,none⟩) (n-i) (c-i)) (by simp[Act.eval,Act.put]) (by simp[Act.eval,Act.put]) (hcpB _ hF1 hF2 3 (G-(i+1)) (c-i)) ?_)
 go_wp2
 go_ret
 exact⟨rfl,rfl⟩
theorem Ab3 {l d:List Value} {off i n:Nat} (hi:i≤l.length) (hn:l.length+d.length≤n) (c:Array Value) (hc:off+n≤c.size) (hl:∀j,j<i→c[off+j]? =l[j]?) (j:Nat) (hj:j<l.length+d.length):
 (Ju (off+i) d (Ju (off+i+d.length) (l.drop i) c))[off+j]? =(l.take i++d++l.drop i)[j]? :=by
 have ht:(l.take i).length=i:=by simp;omega
 by_cases h1:j<i
 ·rw[Gc _ _ _ _ (.inl (by omega)),Gc _ _ _ _ (.inl (by omega)),hl j h1,List.append_assoc,List.getElem?_append_left (by omega),List.getElem?_take,if_pos h1]
 ·by_cases h2:j<i+d.length
  ·have:=Qb d (off+i) (j-i) (Ju (off+i+d.length) (l.drop i) c) (by omega) (by rw[ER];omega)
   rw[show off+i+(j-i)=off+j by omega]at this
   rw[this,List.append_assoc,List.getElem?_append_right (by omega),List.getElem?_append_left (by omega),ht]
  ·rw[Gc _ _ _ _ (.inr (by omega))]
   have:=Qb (l.drop i) (off+i+d.length) (j-i-d.length) c (by simp;omega) (by simp;omega)
   rw[show off+i+d.length+(j-i-d.length)=off+j by omega]at this
   rw[this,List.append_assoc,List.getElem?_append_right (by omega),List.getElem?_append_right (by omega),ht]
theorem Zo {l d:List Value} {i:Nat} (h1:Ez l) (h2:Ez d):Ez (l.take i++d++l.drop i):=by
 intro v hv
 rcases List.mem_append.1 hv with hv | hv
 ·rcases List.mem_append.1 hv with hv | hv
  ·exact h1 v (List.mem_of_mem_take hv)
  ·exact h2 v hv
 ·exact h1 v (List.mem_of_mem_drop hv)
theorem AFp:ACE Tryz.prog 153:=by
 intro a n cap i vb vo vc vs ds w hi hn hcap hvl hdl hm hV hvc
 have hds:∀j x,ds[j]? =some x→w.cell? ⟨vb,vo+j,none⟩=some x:=fun j x hj=>AmP hV hj
 have hdo:Ez ds:=hV.1
 have hgc:=U2 w (n+1) cap 134
 have hgb:=TS w (n+1) cap 134 (by omega)
 have hlen:(vs.take (i*2)++ds++vs.drop (i*2)).length=(n+1)*2:=by simp[hvl,hdl];omega
 have zc:∀k,(Builtin.zeroCells #[Value.int .i64 0,.slice none 0 0] k).size=k*2:=fun k=>by simp[Builtin.zeroCells]
 have endGrow:cap<n+1→i=n→Ez vs→(∀a0,a=some a0→∀j x,vs[j]? =some x→w.cell? (a0.add j)=some x)→(a=none→n=0)→_:=fun hc hin ho hcells hnil=>
  (Ak3 a n cap vb vo vc vs ds w hcap.1 hc (by omega) hvl hdl hnil hcells hds hdo).mono
   (R':=fun e w'=>∃b' o' cap',e= .returned (.slice (some ⟨b',o',none⟩) (n+1) cap')∧(n+1≤cap'∧cap'≤9223372036854775807)∧
    Has w' b' o' (vs.take (i*2)++ds++vs.drop (i*2)) (cap'*2)∧(w.heap.size≤b'∨∃o,a=some ⟨b',o,none⟩∧cap≠0)∧
    w.heap.size≤w'.heap.size∧w'.os=w.os∧w'.tape=w.tape∧w'.output=w.output∧∀b,b<w.heap.size→b≠b'→w'.heap[b]? =w.heap[b]?)
   fun e w' ⟨he,hw⟩=>by
    subst hw
    refine⟨_,_,_,he,⟨hgc,hgb⟩,⟨Zo ho hdo,_,134,alloc_at w.drew _,?_,by rw[hlen];exact Nat.mul_le_mul_right _ hgc,fun j hj=> ?_⟩,.inl (Nat.le_refl _),by rw[Mt];simp,rfl,rfl,rfl,fun b hb _=>R3 w.drew _ hb⟩
    ·simp[zc,hvl,hdl];omega
    ·rw[hlen]at hj
     have e1:vs.take (i*2)=vs:=List.take_of_length_le (by omega)
     have e2:vs.drop (i*2)=[]:=List.drop_eq_nil_of_le (by omega)
     rw[Nat.zero_add,e1,e2,List.append_nil,Array.getElem?_append,if_pos (by simp[hvl,hdl];omega)]
     simp
 rcases hm with hm | ⟨b,o,rfl,hhas,hbne⟩
 ·subst hm
  obtain rfl:n=0:=by omega
  obtain rfl:i=0:=by omega
  have hv0:vs=[]:=List.length_eq_zero_iff.1 (by omega)
  subst hv0
  exact endGrow (by omega) rfl (fun v hv=>by cases hv) (fun a0 _ j x hj=>by simp at hj) (fun _=>rfl)
 ·have ho:Ez vs:=hhas.1
  have hcs:∀j x,vs[j]? =some x→w.cell? ⟨b,o+j,none⟩=some x:=fun j x hj=>AmP hhas hj
  have hbl:=RY hhas
  have keep:∀(f:Array Value→Array Value) (W:World),W.heap=w.heap→∀b2,b2<w.heap.size→b2≠b→(mapBlock W b f).heap[b2]? =w.heap[b2]? :=fun f W hW b2 _ h2=>by rw[Zu _ _ h2,hW]
  by_cases hroom:n+1≤cap
  ·by_cases hin:i=n
   ·subst hin
    refine(Al7 b o i cap vb vo vc ds w hroom hcap.2 hdl (fun j hj=> ?_) (fun j _=>AaI hhas _) hds hdo).mono fun e w' ⟨he,hw⟩=> ?_
    ·have:=AoD hhas (j:=i*2+j) (by omega)
     rwa [←Nat.add_assoc]at this
    ·rw[Dw]at hw
     subst hw
     refine⟨b,o,cap,he,⟨hroom,hcap.2⟩,?_,.inr ⟨o,rfl,by omega⟩,by rw[Pd];exact Nat.le_refl _,rfl,rfl,rfl,fun b2 h1 h2=>keep _ w rfl b2 h1 h2⟩
     refine AsK hhas (Yg _ _ _) (ER _ _) (fun c h1 h2 j hj=> ?_) (Zo ho hdo) (by rw[hlen];omega)
     have:=Ab3 (l:=vs) (d:=ds) (off:=o) (i:=i*2) (n:=cap*2) (by omega) (by omega) c h1 (fun j hj=>h2 j (by omega)) j (by rw[hlen]at hj;omega)
     have e2:vs.drop (i*2)=[]:=List.drop_eq_nil_of_le (by omega)
     rw[e2]at this⊢
     exact this
   ·obtain⟨tA,kA,hsa,_⟩:=AkG hV
    obtain⟨tB,kB,hsb,hkB⟩:=AkG hhas
    refine(AuW b o n cap i vb vo vc vs ds w (by omega) hroom hcap.2 (Ne.symm hbne) hvl hdl hcs (fun j hj=>AoD hhas (by omega)) (fun j _=>AaI hhas _) hds ho hdo tA tB kA kB hsa hsb (by omega) (AaI hV _) (AaI hV _)).mono fun e w' ⟨he,hw⟩=> ?_
    rw[Dw,Dw,mapBlock_mapBlock]at hw
    subst hw
    refine⟨b,o,cap,he,⟨hroom,hcap.2⟩,?_,.inr ⟨o,rfl,by omega⟩,by rw[Pd];exact Nat.le_refl _,rfl,rfl,rfl,fun b2 h1 h2=>keep _ w.drew rfl b2 h1 h2⟩
    refine AsK hhas (Yg _ _ _) (fun c=>by rw[ER,ER]) (fun c h1 h2 j hj=> ?_) (Zo ho hdo) (by rw[hlen];omega)
    have:=Ab3 (l:=vs) (d:=ds) (off:=o) (i:=i*2) (n:=cap*2) (by omega) (by omega) c h1 (fun j hj=>h2 j (by omega)) j (by rw[hlen]at hj;omega)
    rw[hdl,show o+i*2+2=o+(i+1)*2 by omega]at this
    exact this
  ·by_cases hin:i=n
   ·rw[hin]
    rw[hin]at endGrow
    refine endGrow (by omega) rfl ho (fun a0 ha j x hj=> ?_) (fun h=>by cases h)
    cases ha
    rw[Addr.add_lit]
    exact hcs j x hj
   ·refine(AyG b o n cap i vb vo vc vs ds w (by omega) hcap.1 (by omega) (by omega) hvl hdl hcs hds ho hdo).mono fun e w' ⟨he,hw⟩=> ?_
    rw[Dw,Dw]at hw
    have hsz:w'.heap.size=w.heap.size+1:=by
     rw[hw,Pd];simp only[World.drew];rw[Pd,Mt]
    have hoff:∀b',b' <w.heap.size→w'.heap[b']? =w.heap[b']? :=by
     intro b' hb'
     rw[hw,Zu _ _ (by omega)]
     simp only[World.drew]
     rw[Zu _ _ (by omega)]
     exact R3 w _ hb'
    refine⟨w.heap.size,0,_,he,⟨hgc,hgb⟩,?_,.inl (Nat.le_refl _),by omega,by rw[hw];rfl,by rw[hw];rfl,by rw[hw];rfl,fun b' hb' _=>hoff b' hb'⟩
    obtain⟨R0,hR0⟩:∃R0:Array Value,R0=(vs.take (i*2)).toArray++Builtin.zeroCells #[.int .i64 0,.slice none 0 0] (n+1-i)++Builtin.zeroCells #[.int .i64 0,.slice none 0 0] (grownCap w (n+1) cap 134-(n+1)):=⟨_,rfl⟩
    have hR0s:R0.size=grownCap w (n+1) cap 134*2:=by rw[hR0];simp[zc,hvl];omega
    have hat:w'.heap[w.heap.size]? =some (.cells (Ju ((i+1)*2) (vs.drop (i*2)) (Ju (i*2) ds R0)) 134 (0,0)):=by
     rw[hw,Yg]
     simp only[World.drew]
     rw[Yg]
     simp only[]
     rw[alloc_at,←hR0]
     rfl
    refine⟨Zo ho hdo,_,134,hat,?_,by rw[hlen];exact Nat.mul_le_mul_right _ hgc,fun j hj=> ?_⟩
    ·rw[ER,ER,hR0s];omega
    ·rw[hlen]at hj
     have hg2:(n+1)*2≤grownCap w (n+1) cap 134*2:=Nat.mul_le_mul_right _ hgc
     have ht:(vs.take (i*2)).length=i*2:=by simp;omega
     rw[Nat.zero_add]
     by_cases q1:j<i*2
     ·rw[Gc _ _ _ _ (.inl (by omega)),Gc _ _ _ _ (.inl q1),hR0,List.append_assoc,List.getElem?_append_left (by omega),Array.getElem?_append,if_pos (by simp[zc,hvl];omega),Array.getElem?_append,if_pos (by simp;omega)]
      simp
     ·by_cases q2:j<i*2+2
      ·rw[Gc _ _ _ _ (.inl (by omega))]
       have:=Qb ds (i*2) (j-i*2) R0 (by omega) (by omega)
       rw[show i*2+(j-i*2)=j by omega]at this
       rw[this,List.append_assoc,List.getElem?_append_right (by omega),List.getElem?_append_left (by omega),ht]
      ·have:=Qb (vs.drop (i*2)) ((i+1)*2) (j-(i+1)*2) (Ju (i*2) ds R0) (by simp;omega) (by rw[ER];simp;omega)
       rw[show(i+1)*2+(j-(i+1)*2)=j by omega]at this
       rw[this,List.append_assoc,List.getElem?_append_right (by omega),List.getElem?_append_right (by omega),ht,hdl]
       congr 1;omega
end Go.Eng.Ins
