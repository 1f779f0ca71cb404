/- Own work: part 49 of the proof of FnStages. -/
import Derived.Test.YtdgpapmladligaaGreatEngAR
import Derived.Below
import Derived.Sort.Grow
import Derived.Deep.Draws
import Derived.Lib.LaidTab
import Derived.Sort.Row
import Derived.Laws.IdiomCopy
import Derived.Lib.SlicesCompact
import Derived.Laws.AppendOwn
import Derived.Lib.RowBridge
import Derived.Shelf.Bits.Mul64
import Derived.Shelf.Slices.Turned
import Derived.Shelf.Slices.Reverse
import Derived.Ground.Names2Prog
import Derived.Shelf.Slices.Clone
import Derived.Shelf.Slices.Cells
import Derived.Ground.SlgnProg
import Derived.Shelf.SlicesE.Clone
import Derived.Shelf.Spec.SlicesInsertGrow
import Derived.Test.YtdgpapmladligaaGreatProg
set_option linter.unusedSimpArgs false
set_option linter.unusedVariables false
namespace Go.Eng.T
set_option maxRecDepth 20000
set_option maxHeartbeats 1000000
structure Yf where
 bs:List Int
 i:Nat
 h:Int
def u8s (bs:List Int):List V:=bs.map fun b=> .sc (.int .u8 b)
abbrev Bz (c:Yf):List V:=[.sl 3 1 c.bs.length (u8s c.bs),.sc (.int .i64 c.i),.sc (.int .i64 c.h)]
def ED (c:Yf):Prop:=c.bs.length≤1048576∧(∀b,b∈c.bs→0≤b∧b≤255)∧c.i≤c.bs.length
def Ox (R:Rel) (args:List V) (c:Yf) {α:Type} (P:α→Prop) (res:α→V):Prop:=∃a c',P a∧ED c'∧R (.ptr 0 0::args) [.var (Bz c)] (res a) [.var (Bz c')]
theorem Gq {D:Dn} {f:Ch} {args:List V} {c:Yf} {α:Type} {P:α→Prop} {res:α→V} (h:∀Q:V→List O→Prop,(∀a c',P a→ED c'→Q (res a) [.var (Bz c')])→Amd D f (.ptr 0 0::args) [.var (Bz c)] Q):
 Ox (Body D f) args c P res:=by
 obtain⟨v,o,⟨a,c',h1,h2,rfl,rfl⟩,h3⟩:=Afo (P:=fun v o=>∃a c',P a∧ED c'∧v=res a∧o=[.var (Bz c')]) (fun Q hQ=>h Q (fun a c' h1 h2=>hQ _ _ ⟨a,c',h1,h2,rfl,rfl⟩))
 exact⟨a,c',h1,h2,h3⟩
@[simp high] theorem Ax7 {bs:List Int} {j:Nat} (h:j<bs.length):(u8s bs)[j]? =some (.sc (.int .u8 bs[j])):=by simp[u8s,h]
@[simp high] theorem AxY (bs:List Int):(u8s bs).length=bs.length:=by simp[u8s]
@[simp] theorem Aya (bs:List Int) (fl:Nat):(u8s bs).map (AA fl)=u8s bs:=by simp[u8s,AA]
abbrev Z6 (R:Rel):Prop:=∀c:Yf,ED c→Ox R [] c (fun x:Int=>0≤x∧x≤255) (fun x=>I x)
theorem Aq9 (n:Nat):∃x:Nat,x≤255∧IntKind.i64.wrap ((n&&&255 % 2 ^ IntKind.i64.bits:Nat):Int)=x:=by
 have e:(255 % 2 ^ IntKind.i64.bits:Nat)=255:=by decide
 rw[e]
 have h:n&&&255≤255:=Nat.and_le_right
 exact⟨n&&&255,h,Ab (by omega) (by omega)⟩
theorem Ap9 (D:Dn):Z6 (Body D Lm):=by
 intro c hc
 refine Gq (fun Q hQ=> ?_)
 have h1:=hc.1
 by_cases h:c.i<c.bs.length
 ·have hw:IntKind.i64.wrap ((c.i:Int)+1)=(c.i+1:Nat):=by rw[Ab (by omega) (by omega)];simp
  simp -implicitDefEqProofs [h,DV,Ae]
  generalize IntKind.i64.wrap (IntKind.i64.wrap (c.h*6364136223846793005)+1442695040888963407)=h'
  generalize Int.toNat _=n1
  obtain⟨x,hx,e⟩:=Aq9 n1
  rw[e,hw]
  exact hQ x ⟨c.bs,c.i+1,h'⟩ ⟨by omega,by omega⟩ ⟨hc.1,hc.2.1,h⟩
 ·simp -implicitDefEqProofs [h,DV,Ae]
  generalize IntKind.i64.wrap (IntKind.i64.wrap (c.h*6364136223846793005)+1442695040888963407)=h'
  generalize Int.toNat _=n1
  obtain⟨x,hx,e⟩:=Aq9 n1
  rw[e]
  exact hQ x ⟨c.bs,c.i,h'⟩ ⟨by omega,by omega⟩ ⟨hc.1,hc.2.1,hc.2.2⟩
abbrev Ea (R:Rel):Prop:=∀(c:Yf) (n:Int),ED c→n≤1000000000→Ox R [I n] c (fun x:Int=>0≤x∧(n≤0→x=0)∧(0<n→x<n)) (fun x=>I x)
theorem AuT {x n:Int} (h:0≤x) (hn:0<n):0≤x.tmod n∧x.tmod n<n:=⟨Int.tmod_nonneg n h,Int.tmod_lt_of_pos x hn⟩
theorem Aol (D:Dn) (hB:Z6 (D AfI)):Ea (Body D Kc):=by
 intro c n hc hn
 refine Gq (fun Q hQ=> ?_)
 by_cases h0:n≤0
 ·simp -implicitDefEqProofs [h0,DV,Ae]
  exact hQ 0 c ⟨by omega,fun _=>rfl,fun h=>by omega⟩ hc
 have hne:¬n=0:=by omega
 by_cases h1:n≤256
 ·simp -implicitDefEqProofs [h0,h1]
  obtain⟨x,c1,hx,hc1,px⟩:=hB c hc
  simp -implicitDefEqProofs [Bz]at px
  refine Aa (px) ?_
  simp -implicitDefEqProofs [h0,hne,DV,Ae]
  have:=AuT (n:=n) hx.1 (by omega)
  exact hQ _ c1 ⟨this.1,fun h=>absurd h h0,fun _=>this.2⟩ hc1
 ·simp -implicitDefEqProofs [h0,h1]
  obtain⟨x,c1,hx,hc1,px⟩:=hB c hc
  simp -implicitDefEqProofs [Bz]at px
  refine Aa (px) ?_
  simp -implicitDefEqProofs [h0]
  obtain⟨y,c2,hy,hc2,py⟩:=hB c1 hc1
  simp -implicitDefEqProofs [Bz]at py
  refine Aa (py) ?_
  simp -implicitDefEqProofs [h0]
  obtain⟨z,c3,hz,hc3,pz⟩:=hB c2 hc2
  simp -implicitDefEqProofs [Bz]at pz
  refine Aa (pz) ?_
  simp -implicitDefEqProofs [h0,hne,DV,Ae]
  have w1:IntKind.i64.wrap (x*65536)=x*65536:=Ab (by omega) (by omega)
  have w2:IntKind.i64.wrap (y*256)=y*256:=Ab (by omega) (by omega)
  have w3:IntKind.i64.wrap (x*65536+y*256)=x*65536+y*256:=Ab (by omega) (by omega)
  have w4:IntKind.i64.wrap (x*65536+y*256+z)=x*65536+y*256+z:=Ab (by omega) (by omega)
  rw[w1,w2,w3,w4]
  have:=AuT (x:=x*65536+y*256+z) (n:=n) (by omega) (by omega)
  exact hQ _ c3 ⟨this.1,fun h=>absurd h h0,fun _=>this.2⟩ hc3
abbrev VJ (R:Rel):Prop:=∀(c:Yf) (n:Int),ED c→n≤1000000000→Ox R [I n] c (fun _:Bool=>True) (fun b=>B b)
theorem Aqk (D:Dn) (hB:Ea (D BG)):VJ (Body D LF):=by
 intro c n hc hn
 refine Gq (fun Q hQ=> ?_)
 simp -implicitDefEqProofs
 obtain⟨x,c1,hx,hc1,px⟩:=hB c n hc hn
 simp -implicitDefEqProofs [Bz]at px
 refine Aa (px) ?_
 simp -implicitDefEqProofs [DV,Ae]
 exact hQ _ c1 trivial hc1
abbrev NU (R:Rel):Prop:=∀(c:Yf) (xs:List Int),ED c→0<xs.length→xs.length≤1000000→Ox R [.sl 1 1 xs.length (ints xs)] c (fun x:Int=>x∈xs) (fun x=>I x)
theorem Auh (D:Dn) (hB:Ea (D BG)):NU (Body D Ng):=by
 intro c xs hc h0 hl
 refine Gq (fun Q hQ=> ?_)
 simp -implicitDefEqProofs
 obtain⟨x,c1,hx,hc1,px⟩:=hB c xs.length hc (by omega)
 simp -implicitDefEqProofs [Bz]at px
 refine Aa (px) ?_
 obtain⟨n,rfl⟩:∃n:Nat,x=n:=⟨x.toNat,by omega⟩
 have hn:n<xs.length:=by have:=hx.2.2 (by omega);omega
 simp -implicitDefEqProofs [hn,DV,Ae]
 exact hQ _ c1 (List.getElem_mem hn) hc1
abbrev Af1 (R:Rel):Prop:=∀bs:List Int,bs.length≤1048576→(∀b,b∈bs→0≤b∧b≤255)→∃c:Yf,ED c∧R [.sl 3 1 bs.length (u8s bs)] [] (.rptr 0 (Bz c) 0) []
theorem Atw (D:Dn):Af1 (Body D KR):=by
 intro bs hl hb
 obtain⟨v,o,⟨c,h1,rfl,rfl⟩,h3⟩:=Afo (P:=fun v o=>∃c:Yf,ED c∧v= .rptr 0 (Bz c) 0∧o=[]) (D:=D) (f:=KR) (args:=[.sl 3 1 bs.length (u8s bs)]) (given:=[]) (fun Q hQ=>by
  simp -implicitDefEqProofs
  obtain⟨h0,hh0⟩:∃h0,h0=IntKind.i64.wrap (193017+(bs.length:Int)):=⟨_,rfl⟩
  rw[←hh0]
  refine Af (fun k s=>∃j h,j+k=min bs.length 4000∧s=⟨[.sl 3 1 bs.length (u8s bs),.undef,I h,I j,.undef],[.free]⟩) ?_ (min bs.length 4000) _ ⟨0,h0,by simp,by simp⟩
  intro k s ⟨j,h,hj,hs⟩
  subst hs
  by_cases hjn:j<bs.length
  ·by_cases hj4:j<4000
   ·have hw:IntKind.i64.wrap ((j:Int)+1)=(j+1:Nat):=by rw[Ab (by omega) (by omega)];simp
    have hj4':(j:Int)<4000:=by omega
    simp -implicitDefEqProofs [hjn,hj4,hj4']
    refine⟨k-1,by omega,j+1,by omega,?_⟩
    simp[hw]
   ·have hj4':¬(j:Int)<4000:=by omega
    simp -implicitDefEqProofs [hjn,hj4,hj4']
    exact hQ _ _ ⟨⟨bs,0,h⟩,⟨hl,hb,Nat.zero_le _⟩,rfl,rfl⟩
  ·simp -implicitDefEqProofs [hjn]
   exact hQ _ _ ⟨⟨bs,0,h⟩,⟨hl,hb,Nat.zero_le _⟩,rfl,rfl⟩)
 exact⟨c,h1,h3⟩
end Go.Eng.T
namespace Go.Eng.T
set_option maxRecDepth 20000
set_option maxHeartbeats 1000000
theorem ArF {l:List Int} (h:Up l) {i j:Nat} (hij:i<j) (hj:j<l.length):l[i]<l[j]:=List.pairwise_iff_getElem.1 h i j (by omega) hj hij
theorem Agf {l:List Int} (h:Up l) (h1:∀x,x∈l→1≤x∧x≤9) (h0:0<l.length):AP l=true:=by
 unfold AP
 simp only[Bool.and_eq_true,decide_eq_true_eq]
 refine⟨?_,h0⟩
 unfold Ij
 rw[List.all_eq_true]
 intro i hi
 have hi:=List.mem_range.1 hi
 rw[QA hi]
 have:=h1 _ (List.getElem_mem hi)
 simp only[Bool.and_eq_true,Bool.or_eq_true,decide_eq_true_eq]
 refine⟨⟨by omega,by omega⟩,?_⟩
 by_cases hz:i=0
 ·exact .inl hz
 ·right
  rw[QA (by omega:i-1<l.length)]
  exact ArF h (by omega) hi
theorem AnM {l:List Int} (h:Up l) (h1:∀x,x∈l→1≤x∧x≤100):Ht l l.length=true:=by
 unfold Ht
 rw[List.all_eq_true]
 intro i hi
 have hi:=List.mem_range.1 hi
 rw[getD_at hi]
 have:=h1 _ (List.getElem_mem hi)
 simp only[Bool.and_eq_true,Bool.or_eq_true,decide_eq_true_eq]
 refine⟨⟨by omega,by omega⟩,?_⟩
 by_cases hz:i=0
 ·exact .inl hz
 ·right
  rw[getD_at (by omega:i-1<l.length)]
  exact ArF h (by omega) hi
theorem AbU {l:List Int} {a b:Int} (h1:∀x,x∈l→a≤x∧x≤b):allIn l a b=true:=by
 unfold allIn
 rw[List.all_eq_true]
 intro x hx
 have:=h1 x hx
 simpa using this
theorem AlE {l:List Int} (h:Up l) (h1:∀x,x∈l→0≤x∧x≤255):Eo l=true:=by
 unfold Eo
 simp only[Bool.and_eq_true]
 refine⟨?_,AbU h1⟩
 rw[AeZ]
 intro i hi
 by_cases hz:i=0
 ·subst hz;exact RY l
 ·rw[PG hz hi (by omega)]
  simpa using ArF h (by omega) hi
def VP (l:List Int) (b:Int) (m:Nat):Prop:=Up l∧(∀x,x∈l→1≤x∧x≤b)∧l.length≤m
theorem AaO {l:List Int} {b:Int} {m:Nat} {v:Int} (h:VP l b m) (hv:1≤v∧v≤b):VP (EW l v) b (m+1):=by
 refine⟨Z9 v h.1,?_,Nat.le_trans (Oe l v) (by have:=h.2.2;omega)⟩
 intro x hx
 rcases(GY l v x).1 hx with hx | rfl
 ·exact h.2.1 x hx
 ·exact hv
theorem Vl {l:List Int} {b:Int} {m m':Nat} (h:VP l b m) (hm:m≤m'):VP l b m':=⟨h.1,h.2.1,by have:=h.2.2;omega⟩
theorem AkN (b:Int):VP [] b 0:=⟨List.Pairwise.nil,by simp,by simp⟩
theorem Aq8 {b v:Int} (hv:1≤v∧v≤b):VP [v] b 1:=⟨by simp,by simpa using hv,by simp⟩
theorem put_pos (l:List Int) (v:Int):0<(EW l v).length:=List.length_pos_of_mem ((GY l v v).2 (.inr rfl))
abbrev QK (R:Rel):Prop:=∀c:Yf,ED c→Ox R [] c (fun l:List Int=>VP l 6 4∧0<l.length) (fun l=> .sl 0 1 l.length (ints l))
theorem Aof (D:Dn) (hB:Ea (D BG)) (hP:Pm (D Iz)):QK (Body D Kg):=by
 intro c hc
 refine Gq (fun Q hQ=> ?_)
 simp -implicitDefEqProofs
 obtain⟨x,c1,hx,hc1,px⟩:=hB c 4 hc (by omega)
 simp -implicitDefEqProofs [Bz,ints]at px
 refine Aa (px) ?_
 have hx4:=hx.2.2 (by omega)
 have w1:IntKind.i64.wrap (1+x)=1+x:=Ab (by omega) (by omega)
 simp -implicitDefEqProofs [w1]
 obtain⟨y,c2,hy,hc2,py⟩:=hB c1 4 hc1 (by omega)
 simp -implicitDefEqProofs [Bz,ints]at py
 refine Aa (py) ?_
 have hy4:=hy.2.2 (by omega)
 obtain⟨n,rfl⟩:∃n:Nat,y=n:=⟨y.toNat,by omega⟩
 simp -implicitDefEqProofs
 obtain⟨LI,hLI⟩:∃LI:Nat→St→Prop,LI=fun k s=>∃j cc l o2,j+k=n∧ED cc∧VP l 6 (1+j)∧0<l.length∧s=⟨[.ptr 0 0,.undef,.arr 3,I k,.undef],[.var (Bz cc),.free,o2,.arr 1 0 l.length (ints l)]⟩:=⟨_,rfl⟩
 refine Af LI ?_ (n) _ (by rw[hLI];exact⟨0,c2,[1+x],.free,by simp,hc2,Aq8 (by omega),by simp,by simp[ints]⟩)
 intro k s hs
 rw[hLI]at hs
 obtain⟨j,cc,l,o2,hj,hcc,hl,hl0,hs⟩:=hs
 subst hs
 by_cases hk:0<k
 ·have hwk:IntKind.i64.wrap ((k:Int)-1)=(k-1:Nat):=by rw[Ab (by omega) (by omega)];omega
  simp -implicitDefEqProofs [hk]
  obtain⟨z,c3,hz,hc3,pz⟩:=hB cc 6 hcc (by omega)
  simp -implicitDefEqProofs [Bz,ints]at pz
  refine Aa (pz) ?_
  have hz4:=hz.2.2 (by omega)
  have w2:IntKind.i64.wrap (1+z)=1+z:=Ab (by omega) (by omega)
  simp -implicitDefEqProofs [w2]
  refine Aa (hP l (1+z) (by have:=hl.2.2;omega)) ?_
  simp -implicitDefEqProofs [hwk]
  refine⟨k-1,by omega,?_⟩
  rw[hLI]
  exact⟨j+1,c3,EW l (1+z),.free,by omega,hc3,AaO hl (by omega),put_pos _ _,rfl⟩
 ·have hk0:k=0:=by omega
  subst hk0
  simp -implicitDefEqProofs [DV,Ae]
  exact hQ l cc ⟨Vl hl (by omega),hl0⟩ hcc
abbrev Ve (R:Rel):Prop:=∀c:Yf,ED c→Ox R [] c (fun l:List Int=>l.length≤5) (fun l=> .sl 0 1 l.length (ints l))
theorem Aqo (D:Dn) (hB:Ea (D BG)) (hI:NU (D Gn)) (hP:QK (D SE)):Ve (Body D LA):=by
 intro c hc
 refine Gq (fun Q hQ=> ?_)
 simp -implicitDefEqProofs
 obtain⟨l,c1,hl,hc1,pl⟩:=hP c hc
 simp -implicitDefEqProofs [Bz,ints]at pl
 refine Aa (pl) ?_
 obtain⟨hv,hl0⟩:=hl
 have hl4:=hv.2.2
 simp -implicitDefEqProofs
 obtain⟨x,c2,hx,hc2,px⟩:=hB c1 9 hc1 (by omega)
 simp -implicitDefEqProofs [Bz,ints]at px
 refine Aa (px) ?_
 by_cases g0:x=0
 ·simp -implicitDefEqProofs [g0]
  obtain⟨y,c3,hy,hc3,py⟩:=hI c2 [0, -1,9,10] hc2 (by simp) (by simp)
  simp -implicitDefEqProofs [Bz,ints]at py
  refine Aa (py) ?_
  simp -implicitDefEqProofs [hl0,DV,Ae]
  have:=hQ (l.set 0 y) c3 (by simp;omega) hc3
  simpa[ints,List.map_set]using this
 by_cases g1:x=1
 ·have hb:(l.length+1)*8≤1099511627776:=by omega
  simp -implicitDefEqProofs [g1,hl0,hb,DV,Ae]
  have:=hQ (l++ [l[0]]) c2 (by simp;omega) hc2
  simpa[ints]using this
 by_cases g2:x=2
 ·simp -implicitDefEqProofs [g2,DV,Ae]
  exact hQ [] c2 (by simp) hc2
 simp -implicitDefEqProofs [g0,g1,g2,DV,Ae]
 exact hQ l c2 (by omega) hc2
abbrev Ql (R:Rel):Prop:=∀c:Yf,ED c→Ox R [] c (fun l:List Int=>VP l 200 4) (fun l=> .sl 0 1 l.length (ints l))
theorem Ax4 {x:Int} (h:x∈[1,2,3,10,40,(200:Int)]):1≤x∧x≤200:=by simp at h;omega
theorem Ant (D:Dn) (hB:Ea (D BG)) (hI:NU (D Gn)) (hP:Pm (D Iz)):Ql (Body D Ke):=by
 intro c hc
 refine Gq (fun Q hQ=> ?_)
 simp -implicitDefEqProofs
 obtain⟨y,c2,hy,hc2,py⟩:=hB c 5 hc (by omega)
 simp -implicitDefEqProofs [Bz,ints]at py
 refine Aa (py) ?_
 have hy4:=hy.2.2 (by omega)
 obtain⟨n,rfl⟩:∃n:Nat,y=n:=⟨y.toNat,by omega⟩
 simp -implicitDefEqProofs
 obtain⟨LI,hLI⟩:∃LI:Nat→St→Prop,LI=fun k s=>∃j cc l o2,j+k=n∧ED cc∧VP l 200 j∧s=⟨[.ptr 0 0,.undef,.arr 4,I k,.undef],[.var (Bz cc),.free,o2,.free,.arr 1 0 l.length (ints l)]⟩:=⟨_,rfl⟩
 refine Af LI ?_ (n) _ (by rw[hLI];exact⟨0,c2,[],.free,by simp,hc2,AkN _,by simp[ints]⟩)
 intro k s hs
 rw[hLI]at hs
 obtain⟨j,cc,l,o2,hj,hcc,hl,hs⟩:=hs
 subst hs
 by_cases hk:0<k
 ·have hwk:IntKind.i64.wrap ((k:Int)-1)=(k-1:Nat):=by rw[Ab (by omega) (by omega)];omega
  simp -implicitDefEqProofs [hk]
  obtain⟨z,c3,hz,hc3,pz⟩:=hI cc [1,2,3,10,40,200] hcc (by simp) (by simp)
  simp -implicitDefEqProofs [Bz,ints]at pz
  refine Aa (pz) ?_
  simp -implicitDefEqProofs
  refine Aa (hP l z (by have:=hl.2.2;omega)) ?_
  simp -implicitDefEqProofs [hwk]
  refine⟨k-1,by omega,?_⟩
  rw[hLI]
  exact⟨j+1,c3,EW l z,_,by omega,hc3,AaO hl (Ax4 hz),rfl⟩
 ·have hk0:k=0:=by omega
  subst hk0
  simp -implicitDefEqProofs [DV,Ae]
  exact hQ l cc (Vl hl (by omega)) hcc
end Go.Eng.T
namespace Go.Eng.T
set_option maxRecDepth 20000
set_option maxHeartbeats 1000000
def Aer (b:Fa):Prop:=FT b=true∧b.drops.length≤4∧b.strips.length≤4
theorem AbG {b:Fa} (h0:0≤b.limit∧b.limit≤9) (h1:VP b.drops 200 4) (h2:VP b.strips 200 4):Aer b:=by
 refine⟨?_,h1.2.2,h2.2.2⟩
 unfold FT
 rw[AbU (fun x hx=>by have:=h1.2.1 x hx;omega),AbU (fun x hx=>by have:=h2.2.1 x hx;omega)]
 have:=h1.2.2
 have:=h2.2.2
 simp only[Bool.and_eq_true,decide_eq_true_eq]
 exact⟨⟨⟨⟨⟨by omega,by omega⟩,by omega⟩,by omega⟩,trivial⟩,trivial⟩
abbrev QL (R:Rel):Prop:=∀c:Yf,ED c→Ox R [] c Aer (fun b=> .agg (Cm b))
theorem AnB (D:Dn) (hB:Ea (D BG)) (hT:Ql (D Tq)):QL (Body D Kl):=by
 intro c hc
 refine Gq (fun Q hQ=> ?_)
 have hn:=Vl (AkN 200) (show 0≤4 by omega)
 simp -implicitDefEqProofs
 obtain⟨x,c1,hx,hc1,px⟩:=hB c 7 hc (by omega)
 simp -implicitDefEqProofs [Bz,ints]at px
 refine Aa (px) ?_
 by_cases g0:x=0
 ·simp -implicitDefEqProofs [g0]
  obtain⟨y,c2,hy,hc2,py⟩:=hB c1 6 hc1 (by omega)
  simp -implicitDefEqProofs [Bz,ints]at py
  refine Aa (py) ?_
  have hy6:=hy.2.2 (by omega)
  have w1:IntKind.i64.wrap (1+y)=1+y:=Ab (by omega) (by omega)
  simp -implicitDefEqProofs [w1,DV,Ae]
  exact hQ ⟨1+y,[],[],false⟩ c2 (AbG (by dsimp only;omega) hn hn) hc2
 by_cases g1:x=1
 ·simp -implicitDefEqProofs [g1]
  obtain⟨t,c2,ht,hc2,pt⟩:=hT c1 hc1
  simp -implicitDefEqProofs [Bz,ints]at pt
  refine Aa (pt) ?_
  simp -implicitDefEqProofs [DV,Ae]
  exact hQ ⟨0,t,[],false⟩ c2 (AbG (by dsimp only;omega) ht hn) hc2
 by_cases g2:x=2
 ·simp -implicitDefEqProofs [g2]
  obtain⟨t,c2,ht,hc2,pt⟩:=hT c1 hc1
  simp -implicitDefEqProofs [Bz,ints]at pt
  refine Aa (pt) ?_
  simp -implicitDefEqProofs [DV,Ae]
  exact hQ ⟨0,[],t,false⟩ c2 (AbG (by dsimp only;omega) hn ht) hc2
 by_cases g3:x=3
 ·simp -implicitDefEqProofs [g3,DV,Ae]
  exact hQ ⟨0,[],[],true⟩ c1 (AbG (by dsimp only;omega) hn hn) hc1
 simp -implicitDefEqProofs [g0,g1,g2,g3,DV,Ae]
 exact hQ ⟨0,[],[],false⟩ c1 (AbG (by dsimp only;omega) hn hn) hc1
def Ahc (b:Fa):Prop:=b.drops.length≤7∧b.strips.length≤7
abbrev Aaf (R:Rel):Prop:=∀c:Yf,ED c→Ox R [] c Ahc (fun b=> .agg (Cm b))
theorem ArL (D:Dn) (hB:Ea (D BG)) (hI:NU (D Gn)) (hT:QL (D SN)):Aaf (Body D LG):=by
 intro c hc
 refine Gq (fun Q hQ=> ?_)
 simp -implicitDefEqProofs
 obtain⟨b,c1,hb,hc1,pb⟩:=hT c hc
 simp -implicitDefEqProofs [Bz,ints]at pb
 refine Aa (pb) ?_
 obtain⟨_,hd,hs⟩:=hb
 obtain⟨lim,drops,strips,lists⟩:=b
 dsimp only at hd hs
 simp -implicitDefEqProofs
 obtain⟨x,c2,hx,hc2,px⟩:=hB c1 12 hc1 (by omega)
 simp -implicitDefEqProofs [Bz,ints]at px
 refine Aa (px) ?_
 by_cases g0:x=0
 ·simp -implicitDefEqProofs [g0]
  obtain⟨y,c3,hy,hc3,py⟩:=hI c2 [-1,9,10] hc2 (by simp) (by simp)
  simp -implicitDefEqProofs [Bz,ints]at py
  refine Aa (py) ?_
  simp -implicitDefEqProofs [DV,Ae]
  exact hQ ⟨y,drops,strips,lists⟩ c3 ⟨by dsimp only;omega,by dsimp only;omega⟩ hc3
 by_cases g1:x=1
 ·simp -implicitDefEqProofs [g1]
  obtain⟨y,c3,hy,hc3,py⟩:=hI c2 [-1,255,256] hc2 (by simp) (by simp)
  simp -implicitDefEqProofs [Bz,ints]at py
  refine Aa (py) ?_
  simp -implicitDefEqProofs [DV,Ae]
  exact hQ ⟨lim,[y],strips,lists⟩ c3 ⟨by simp,by dsimp only;omega⟩ hc3
 by_cases g2:x=2
 ·simp -implicitDefEqProofs [g2,DV,Ae]
  exact hQ ⟨lim,drops,[1,2,3,4,5,6,7],lists⟩ c2 ⟨by dsimp only;omega,by simp⟩ hc2
 simp -implicitDefEqProofs [g0,g1,g2,DV,Ae]
 exact hQ ⟨lim,drops,strips,lists⟩ c2 ⟨by dsimp only;omega,by dsimp only;omega⟩ hc2
def Aa8 (l:List Fa) (m:Nat):Prop:=l.length≤m∧∀b,b∈l→Aer b
abbrev UW (R:Rel):Prop:=∀c:Yf,ED c→Ox R [] c (fun l:List Fa=>Aa8 l 3) (fun l=> .sl 0 4 l.length (l.flatMap Cm))
theorem ArQ {l:List Fa} {m:Nat} {b:Fa} (h:Aa8 l m) (hb:Aer b):Aa8 (l++ [b]) (m+1):=by
 refine⟨by have:=h.1;simp;omega,?_⟩
 intro x hx
 rcases List.mem_append.1 hx with hx | hx
 ·exact h.2 x hx
 ·simp at hx;subst hx;exact hb
theorem Aoy (D:Dn) (hB:Ea (D BG)) (hT:QL (D SN)):UW (Body D Kn):=by
 intro c hc
 refine Gq (fun Q hQ=> ?_)
 simp -implicitDefEqProofs
 obtain⟨y,c2,hy,hc2,py⟩:=hB c 4 hc (by omega)
 simp -implicitDefEqProofs [Bz,ints]at py
 refine Aa (py) ?_
 have hy4:=hy.2.2 (by omega)
 obtain⟨n,rfl⟩:∃n:Nat,y=n:=⟨y.toNat,by omega⟩
 simp -implicitDefEqProofs
 obtain⟨LI,hLI⟩:∃LI:Nat→St→Prop,LI=fun k s=>∃j cc l o2 o3 o4,j+k=n∧ED cc∧Aa8 l j∧s=⟨[.ptr 0 0,.undef,.arr 6,I k,.undef],[.var (Bz cc),.free,o2,o3,o4,.free,.arr 4 0 l.length (l.flatMap Cm)]⟩:=⟨_,rfl⟩
 refine Af LI ?_ (n) _ (by rw[hLI];exact⟨0,c2,[],.free,.free,.free,by simp,hc2,⟨by simp,by simp⟩,by simp⟩)
 intro k s hs
 rw[hLI]at hs
 obtain⟨j,cc,l,o2,o3,o4,hj,hcc,hl,hs⟩:=hs
 subst hs
 by_cases hk:0<k
 ·have hwk:IntKind.i64.wrap ((k:Int)-1)=(k-1:Nat):=by rw[Ab (by omega) (by omega)];omega
  have hll:=hl.1
  have hb1:(l.length+1)*64≤1099511627776:=by omega
  simp -implicitDefEqProofs [hk]
  obtain⟨b,c3,hb,hc3,pb⟩:=hT cc hcc
  simp -implicitDefEqProofs [Bz,ints]at pb
  refine Aa (pb) ?_
  simp -implicitDefEqProofs [hb1,hwk]
  refine⟨k-1,by omega,?_⟩
  rw[hLI]
  exact⟨j+1,c3,l++ [b],.dead,.dead,.dead,by omega,hc3,ArQ hl hb,by simp[Cm,ints]⟩
 ·have hk0:k=0:=by omega
  subst hk0
  simp -implicitDefEqProofs [DV,Ae]
  exact hQ l cc ⟨by have:=hl.1;omega,hl.2⟩ hcc
def Axy (s:List Int):Prop:=VP s 100 3∧0<s.length∧s.getD (s.length-1) 0=100
def Aqa (r:Dz):Prop:=Axy r.stages∧(1≤r.version∧r.version≤6)
abbrev QN (R:Rel):Prop:=∀c:Yf,ED c→Ox R [] c Aqa (fun r=> .agg (FC r))
theorem Axr {l:List Int} (h:VP l 90 2):Axy (l++ [100]):=by
 obtain⟨h1,h2,h3⟩:=h
 refine⟨⟨?_,?_,by simp;omega⟩,by simp,by simp⟩
 ·refine List.pairwise_append.2 ⟨h1,by simp,?_⟩
  intro x hx y hy
  simp at hy
  have:=h2 x hx
  omega
 ·intro x hx
  rcases List.mem_append.1 hx with hx | hx
  ·have:=h2 x hx;omega
  ·simp at hx;omega
theorem An0 (D:Dn) (hB:Ea (D BG)) (hP:Pm (D Iz)):QN (Body D Km):=by
 intro c hc
 refine Gq (fun Q hQ=> ?_)
 simp -implicitDefEqProofs
 obtain⟨x,c1,hx,hc1,px⟩:=hB c 6 hc (by omega)
 simp -implicitDefEqProofs [Bz,ints]at px
 refine Aa (px) ?_
 have hx6:=hx.2.2 (by omega)
 have w1:IntKind.i64.wrap (1+x)=1+x:=Ab (by omega) (by omega)
 simp -implicitDefEqProofs [w1]
 obtain⟨y,c2,hy,hc2,py⟩:=hB c1 3 hc1 (by omega)
 simp -implicitDefEqProofs [Bz,ints]at py
 refine Aa (py) ?_
 have hy3:=hy.2.2 (by omega)
 obtain⟨n,rfl⟩:∃n:Nat,y=n:=⟨y.toNat,by omega⟩
 simp -implicitDefEqProofs
 obtain⟨LI,hLI⟩:∃LI:Nat→St→Prop,LI=fun k s=>∃j cc l o3,j+k=n∧ED cc∧VP l 90 j∧s=⟨[.ptr 0 0,.ptr 1 0,.ptr 2 0,I k,.undef],[.var (Bz cc),.var [I 0,.nil 1,I 0,B false],.var [I (1+x),.arr 6,I 0,B false],o3,.free,.free,.arr 1 0 l.length (ints l)]⟩:=⟨_,rfl⟩
 refine Af LI ?_ (n) _ (by rw[hLI];exact⟨0,c2,[],.free,by simp,hc2,AkN _,by simp[ints]⟩)
 intro k s hs
 rw[hLI]at hs
 obtain⟨j,cc,l,o3,hj,hcc,hl,hs⟩:=hs
 subst hs
 by_cases hk:0<k
 ·have hwk:IntKind.i64.wrap ((k:Int)-1)=(k-1:Nat):=by rw[Ab (by omega) (by omega)];omega
  simp -implicitDefEqProofs [hk]
  obtain⟨z,c3,hz,hc3,pz⟩:=hB cc 90 hcc (by omega)
  simp -implicitDefEqProofs [Bz,ints]at pz
  refine Aa (pz) ?_
  have hz4:=hz.2.2 (by omega)
  have w2:IntKind.i64.wrap (1+z)=1+z:=Ab (by omega) (by omega)
  simp -implicitDefEqProofs [w2]
  refine Aa (hP l (1+z) (by have:=hl.2.2;omega)) ?_
  simp -implicitDefEqProofs [hwk]
  refine⟨k-1,by omega,?_⟩
  rw[hLI]
  exact⟨j+1,c3,EW l (1+z),_,by omega,hc3,AaO hl (by omega),rfl⟩
 ·have hk0:k=0:=by omega
  subst hk0
  have hll:=hl.2.2
  have hb1:(l.length+1)*8≤1099511627776:=by omega
  simp -implicitDefEqProofs [hb1]
  have hst:=Axr (Vl hl (by omega))
  obtain⟨z,c3,hz,hc3,pz⟩:=hB cc (l.length+1) hcc (by omega)
  simp -implicitDefEqProofs [Bz,ints]at pz
  refine Aa (pz) ?_
  simp -implicitDefEqProofs [DV,Ae]
  have:=hQ ⟨1+x,l++ [100],z,false⟩ c3 ⟨hst,by dsimp only;omega⟩ hc3
  simpa[ints,FC]using this
abbrev Aaa (R:Rel):Prop:=∀c:Yf,ED c→Ox R [] c (fun r:Dz=>r.stages.length≤3) (fun r=> .agg (FC r))
theorem Aqg (D:Dn) (hB:Ea (D BG)) (hI:NU (D Gn)) (hT:QN (D Tx)):Aaa (Body D Lu):=by
 intro c hc
 refine Gq (fun Q hQ=> ?_)
 simp -implicitDefEqProofs
 obtain⟨r,c1,hr,hc1,pr⟩:=hT c hc
 simp -implicitDefEqProofs [Bz,ints]at pr
 refine Aa (pr) ?_
 obtain⟨ver,st,pos,off⟩:=r
 obtain⟨⟨⟨_,_,hl⟩,hl0,_⟩,_⟩:=hr
 dsimp only at hl hl0
 simp -implicitDefEqProofs
 obtain⟨x,c2,hx,hc2,px⟩:=hB c1 10 hc1 (by omega)
 simp -implicitDefEqProofs [Bz,ints]at px
 refine Aa (px) ?_
 by_cases g0:x=0
 ·simp -implicitDefEqProofs [g0]
  obtain⟨y,c3,hy,hc3,py⟩:=hI c2 [0,9,10] hc2 (by simp) (by simp)
  simp -implicitDefEqProofs [Bz,ints]at py
  refine Aa (py) ?_
  simp -implicitDefEqProofs [DV,Ae]
  exact hQ ⟨y,st,pos,off⟩ c3 hl hc3
 by_cases g1:x=1
 ·simp -implicitDefEqProofs [g1]
  obtain⟨y,c3,hy,hc3,py⟩:=hI c2 [0,101,100] hc2 (by simp) (by simp)
  simp -implicitDefEqProofs [Bz,ints]at py
  refine Aa (py) ?_
  simp -implicitDefEqProofs [hl0,DV,Ae]
  have:=hQ ⟨ver,st.set 0 y,pos,off⟩ c3 (by simpa using hl) hc3
  simpa[ints,FC,List.map_set]using this
 by_cases g2:x=2
 ·simp -implicitDefEqProofs [g2]
  obtain⟨y,c3,hy,hc3,py⟩:=hI c2 [-1,st.length,9223372036854775807] hc2 (by simp) (by simp)
  simp -implicitDefEqProofs [Bz,ints]at py
  refine Aa (py) ?_
  simp -implicitDefEqProofs [DV,Ae]
  exact hQ ⟨ver,st,y,off⟩ c3 hl hc3
 by_cases g3:x=3
 ·simp -implicitDefEqProofs [g3,DV,Ae]
  exact hQ ⟨ver,st,pos,true⟩ c2 hl hc2
 by_cases g4:x=4
 ·simp -implicitDefEqProofs [g4,DV,Ae]
  exact hQ ⟨ver,[],pos,off⟩ c2 (by simp) hc2
 simp -implicitDefEqProofs [g0,g1,g2,g3,g4,DV,Ae]
 exact hQ ⟨ver,st,pos,off⟩ c2 hl hc2
end Go.Eng.T
namespace Go.Eng.T
set_option maxRecDepth 20000
set_option maxHeartbeats 1000000
def Al6 (l:List Int) (m:Nat):Prop:=Up l∧(∀x,x∈l→x∈[1,2,3,40,(200:Int)])∧l.length≤m
theorem At3 {l:List Int} {m:Nat} {v:Int} (h:Al6 l m) (hv:v∈[1,2,3,40,(200:Int)]):Al6 (EW l v) (m+1):=by
 refine⟨Z9 v h.1,?_,Nat.le_trans (Oe l v) (by have:=h.2.2;omega)⟩
 intro x hx
 rcases(GY l v x).1 hx with hx | rfl
 ·exact h.2.1 x hx
 ·exact hv
structure Alu (e:Ak):Prop where
 vers:VP e.versions 6 4
 pos:0<e.versions.length
 tags:Al6 e.tags 3
 path:Aa8 e.path 3
 cls:0≤e.cls∧e.cls≤5
theorem Axh {x:Int} (h:x∈[1,2,3,40,(200:Int)]):(0≤x∧x≤255)∧AX x=false:=by
 simp at h
 rcases h with rfl | rfl | rfl | rfl | rfl<;>exact⟨by omega,by decide⟩
theorem Av0 {e:Ak} (h:Alu e):Aq e=true:=by
 unfold Aq
 rw[Agf h.vers.1 (fun x hx=>by have:=h.vers.2.1 x hx;omega) h.pos,AlE h.tags.1 (fun x hx=>(Axh (h.tags.2.1 x hx)).1)]
 have h1:e.tags.any AX=false:=by
  rw[List.any_eq_false]
  intro x hx
  rw[(Axh (h.tags.2.1 x hx)).2]
  simp
 have h2:e.path.all FT=true:=List.all_eq_true.2 fun b hb=>(h.path.2 b hb).1
 rw[h1,h2]
 have:=h.tags.2.2
 have:=h.path.1
 have:=h.cls
 simp only[Bool.true_and,Bool.and_true,Bool.not_false,Bool.and_eq_true,decide_eq_true_eq]
 exact⟨by omega,by omega,by omega,by omega⟩
abbrev QM (R:Rel):Prop:=∀c:Yf,ED c→Ox R [] c Alu (fun e=> .agg (Ac e))
theorem Amy (D:Dn) (hB:Ea (D BG)) (hI:NU (D Gn)) (hV:QK (D SE)) (hP:UW (D Ads)) (hU:Pm (D Iz)):QM (Body D Ki):=by
 intro c hc
 refine Gq (fun Q hQ=> ?_)
 simp -implicitDefEqProofs
 obtain⟨vs,c1,hvs,hc1,pvs⟩:=hV c hc
 simp -implicitDefEqProofs [Bz,ints]at pvs
 refine Aa (pvs) ?_
 simp -implicitDefEqProofs
 obtain⟨pa,c2,hpa,hc2,ppa⟩:=hP c1 hc1
 simp -implicitDefEqProofs [Bz,ints]at ppa
 refine Aa (ppa) ?_
 simp -implicitDefEqProofs
 obtain⟨cl,c3,hcl,hc3,pcl⟩:=hB c2 6 hc2 (by omega)
 simp -implicitDefEqProofs [Bz,ints]at pcl
 refine Aa (pcl) ?_
 have hcl6:=hcl.2.2 (by omega)
 simp -implicitDefEqProofs
 obtain⟨y,c4,hy,hc4,py⟩:=hB c3 4 hc3 (by omega)
 simp -implicitDefEqProofs [Bz,ints]at py
 refine Aa (py) ?_
 have hy4:=hy.2.2 (by omega)
 obtain⟨n,rfl⟩:∃n:Nat,y=n:=⟨y.toNat,by omega⟩
 simp -implicitDefEqProofs
 obtain⟨LI,hLI⟩:∃LI:Nat→St→Prop,LI=fun k s=>∃j cc l o5,j+k=n∧ED cc∧Al6 l j∧s=⟨[.ptr 0 0,.ptr 1 0,.ptr 4 0,I k,.undef],[.var (Bz cc),.var [.nil 1,.nil 1,.nil 4,I 0],.arr 1 0 vs.length (ints vs),.arr 4 0 pa.length (pa.flatMap Cm),.var [.arr 2,.arr 7,.arr 3,I cl],o5,.free,.arr 1 0 l.length (ints l)]⟩:=⟨_,rfl⟩
 refine Af LI ?_ (n) _ (by rw[hLI];exact⟨0,c4,[],.free,by simp,hc4,⟨List.Pairwise.nil,by simp,by simp⟩,by simp[ints]⟩)
 intro k s hs
 rw[hLI]at hs
 obtain⟨j,cc,l,o5,hj,hcc,hl,hs⟩:=hs
 subst hs
 by_cases hk:0<k
 ·have hwk:IntKind.i64.wrap ((k:Int)-1)=(k-1:Nat):=by rw[Ab (by omega) (by omega)];omega
  simp -implicitDefEqProofs [hk]
  obtain⟨z,c5,hz,hc5,pz⟩:=hI cc [1,2,3,40,200] hcc (by simp) (by simp)
  simp -implicitDefEqProofs [Bz,ints]at pz
  refine Aa (pz) ?_
  simp -implicitDefEqProofs
  refine Aa (hU l z (by have:=hl.2.2;omega)) ?_
  simp -implicitDefEqProofs [hwk]
  refine⟨k-1,by omega,?_⟩
  rw[hLI]
  exact⟨j+1,c5,EW l z,_,by omega,hc5,At3 hl hz,rfl⟩
 ·have hk0:k=0:=by omega
  subst hk0
  simp -implicitDefEqProofs [DV,Ae]
  exact hQ ⟨vs,l,pa,cl⟩ cc ⟨hvs.1,hvs.2,⟨hl.1,hl.2.1,by have:=hl.2.2;dsimp only;omega⟩,hpa,by dsimp only;omega⟩ hcc
structure Au9 (e:Ak):Prop where
 vers:e.versions.length≤5
 tags:e.tags.length≤6
 path:e.path.length≤5
 box:∀b,b∈e.path→Ahc b
theorem Aw7 {b:Fa} (h:Aer b):Ahc b:=⟨by have:=h.2.1;omega,by have:=h.2.2;omega⟩
abbrev Aae (R:Rel):Prop:=∀c:Yf,ED c→Ox R [] c Au9 (fun e=> .agg (Ac e))
theorem ArU (D:Dn) (hB:Ea (D BG)) (hI:NU (D Gn)) (hE:QM (D Tn)) (hV:Ve (D U1)) (hX:Aaf (D AgC)):Aae (Body D LJ):=by
 intro c hc
 refine Gq (fun Q hQ=> ?_)
 simp -implicitDefEqProofs
 obtain⟨e,c1,he,hc1,pe⟩:=hE c hc
 simp -implicitDefEqProofs [Bz,ints]at pe
 refine Aa (pe) ?_
 obtain⟨vs,ts,pa,cl⟩:=e
 have q1:=he.vers.2.2
 have q2:=he.tags.2.2
 have q3:=he.path.1
 have q4:∀b,b∈pa→Ahc b:=fun b hb=>Aw7 (he.path.2 b hb)
 dsimp only at q1 q2 q3
 simp -implicitDefEqProofs
 obtain⟨x,c2,hx,hc2,px⟩:=hB c1 10 hc1 (by omega)
 simp -implicitDefEqProofs [Bz,ints]at px
 refine Aa (px) ?_
 by_cases g0:x=0
 ·simp -implicitDefEqProofs [g0]
  obtain⟨w,c3,hw,hc3,pw⟩:=hV c2 hc2
  simp -implicitDefEqProofs [Bz,ints]at pw
  refine Aa (pw) ?_
  simp -implicitDefEqProofs [DV,Ae]
  exact hQ ⟨w,ts,pa,cl⟩ c3 ⟨hw,by dsimp only;omega,by dsimp only;omega,q4⟩ hc3
 by_cases g1:x=1
 ·simp -implicitDefEqProofs [g1]
  obtain⟨y,c3,hy,hc3,py⟩:=hI c2 [-1,10,255,256] hc2 (by simp) (by simp)
  simp -implicitDefEqProofs [Bz,ints]at py
  refine Aa (py) ?_
  simp -implicitDefEqProofs [DV,Ae]
  exact hQ ⟨vs,[y],pa,cl⟩ c3 ⟨by dsimp only;omega,by simp,by dsimp only;omega,q4⟩ hc3
 by_cases g2:x=2
 ·simp -implicitDefEqProofs [g2,DV,Ae]
  exact hQ ⟨vs,[1,2,3,4,5,6],pa,cl⟩ c2 ⟨by dsimp only;omega,by simp,by dsimp only;omega,q4⟩ hc2
 by_cases g3:x=3
 ·simp -implicitDefEqProofs [g3]
  obtain⟨y,c3,hy,hc3,py⟩:=hI c2 [-1,5,6] hc2 (by simp) (by simp)
  simp -implicitDefEqProofs [Bz,ints]at py
  refine Aa (py) ?_
  simp -implicitDefEqProofs [DV,Ae]
  exact hQ ⟨vs,ts,pa,y⟩ c3 ⟨by dsimp only;omega,by dsimp only;omega,by dsimp only;omega,q4⟩ hc3
 by_cases g4:x=4
 ·simp -implicitDefEqProofs [g4]
  obtain⟨b,c3,hb,hc3,pb⟩:=hX c2 hc2
  simp -implicitDefEqProofs [Bz,ints]at pb
  refine Aa (pb) ?_
  have hb1:(pa.length+2)*64≤1099511627776:=by omega
  simp -implicitDefEqProofs [hb1,DV,Ae]
  have:=hQ ⟨vs,ts,pa++ [b,⟨0,[],[],false⟩],cl⟩ c3 ⟨by dsimp only;omega,by dsimp only;omega,by simp;omega,by
   intro b' hb'
   rcases List.mem_append.1 hb' with h | h
   ·exact q4 b' h
   ·simp at h
    rcases h with rfl | rfl
    ·exact hb
    ·exact⟨by simp,by simp⟩⟩ hc3
  simpa[Ac,Cm,ints]using this
 simp -implicitDefEqProofs [g0,g1,g2,g3,g4,DV,Ae]
 exact hQ ⟨vs,ts,pa,cl⟩ c2 ⟨by dsimp only;omega,by dsimp only;omega,by dsimp only;omega,q4⟩ hc2
end Go.Eng.T
namespace Go.Eng.T
set_option maxRecDepth 20000
set_option maxHeartbeats 1000000
end Go.Eng.T
namespace Go.Eng.T
set_option maxRecDepth 20000
set_option maxHeartbeats 2000000
theorem max_mem:∀ {l:List Int} {a x:Int},x∈l→x≤l.foldl (fun a v=>if v>a then v else a) a
 | y::l,a,x,h=>by
  have ge:∀(l:List Int) (a:Int),a≤l.foldl (fun a v=>if v>a then v else a) a:=by
   intro l
   induction l with
   | nil=>intro a;exact Int.le_refl a
   | cons z l ih=>
    intro a
    simp only[List.foldl_cons]
    refine Int.le_trans ?_ (ih _)
    split<;>omega
  simp only[List.foldl_cons]
  rcases List.mem_cons.1 h with rfl | h
  ·refine Int.le_trans ?_ (ge l _)
   split<;>omega
  ·exact max_mem h
theorem AnX {s l:List Int} (hs:AP s=true) (hl:AP l=true) (h1:1∈s) (h2:1∈l):reach s l=true:=by
 unfold reach AB
 rw[if_pos ⟨hs,hl⟩]
 have hm:(1:Int)∈common s l:=List.mem_filter.2 ⟨h1,by simpa using h2⟩
 have:=max_mem (a:=0) hm
 have:¬MN (common s l)=0:=by unfold MN;omega
 simp[this]
def TA (y:Int):List Int:=EW [1] (2+y)
theorem RH {y:Int} (h:0≤y∧y<2):VP (TA y) 6 2∧1∈TA y∧0<(TA y).length:=
 ⟨AaO (Aq8 (by omega)) (by omega),(GY _ _ _).2 (.inl (by simp)),put_pos _ _⟩
theorem Al8 {l:List Int} {m:Nat} (h:VP l 6 m) (h0:0<l.length):AP l=true:=Agf h.1 (fun x hx=>by have:=h.2.1 x hx;omega) h0
def AtG (e:Ak):Prop:=Alu e∧1∈e.versions
theorem Atd {e:Ak} (h:Alu e):Ad e≤40:=by
 have h1:=h.vers.2.2
 have h2:=h.tags.2.2
 have h3:∀(l:List Fa),(∀b,b∈l→Aer b)→Cg FI l≤9*l.length:=by
  intro l
  induction l with
  | nil=>intro _;simp[Cg]
  | cons b l ih=>
   intro hb
   have:=ih (fun x hx=>hb x (by simp[hx]))
   have hb0:=hb b (by simp)
   have e1:=hb0.2.1
   have e2:=hb0.2.2
   simp only[Cg,FI,List.length_cons,List.map_cons,List.sum_cons]at *
   omega
 have:=h3 e.path h.path.2
 have:=h.path.1
 unfold Ad
 omega
theorem Auf {l:List Ak} {m:Nat} (h:∀e,e∈l→Ad e≤m):Cg Ad l≤l.length*(m+1):=by
 induction l with
 | nil=>simp[Cg]
 | cons e l ih=>
  have:=ih (fun x hx=>h x (by simp[hx]))
  have:=h e (by simp)
  simp only[Cg,List.length_cons,List.map_cons,List.sum_cons,Nat.add_mul,Nat.mul_add,Nat.mul_one]at *
  omega
theorem Aqh {l:List Ak} {P:Ak→Prop} {e:Ak} (h:∀x,x∈l→P x) (he:P e):∀x,x∈l++ [e]→P x:=by
 intro x hx
 rcases List.mem_append.1 hx with hx | hx
 ·exact h x hx
 ·simp at hx;subst hx;exact he
abbrev zW:List V:=[.nil 1,.nil 1,I 0,.nil 4,I 0,.nil 1,I 0,B false,I 0,I 0,.nil 5,.nil 8,I 0,I 0,I 0]
structure Ak4 (w:World):Prop where
 ok:AU w=true
 sz:Ap w≤400
 ends:0<w.ends.length
 eok:∀e,e∈w.ends→AtG e
theorem AhC {y z:Int} {r:Dz} {t:List Int} {es:List Ak} (hy:0≤y∧y<2) (hz:0≤z∧z<2) (hr:Aqa r) (ht:VP t 200 4) (he:∀e,e∈es→AtG e) (hl:0<es.length∧es.length≤5)
 {s:List Int} (hs:s=EW (EW [1] (2+y)) (4+z)) {v:Int} (hv:v∈s):Ak4 (Cr s t es ⟨v,r.stages,0,r.off⟩):=by
 have hs1:VP s 6 3:=by rw[hs];exact AaO (RH hy).1 (by omega)
 have hs2:1∈s:=by rw[hs];exact(GY _ _ _).2 (.inl (RH hy).2.1)
 have hs3:0<s.length:=List.length_pos_of_mem hs2
 have hsv:=Al8 hs1 hs3
 obtain⟨⟨⟨q1,q2,q3⟩,q4,q5⟩,q6⟩:=hr
 have e1:ES (Cr s t es ⟨v,r.stages,0,r.off⟩).server (Hl (Cr s t es ⟨v,r.stages,0,r.off⟩))=true:=by
  show ES s _=true
  unfold ES
  rw[hsv,Bool.true_and,List.all_eq_true]
  intro l hl
  obtain⟨e,he',rfl⟩:=List.mem_map.1 hl
  have h1:=he e he'
  exact AnX hsv (Al8 h1.1.vers h1.1.pos) hs2 h1.2
 refine⟨?_,?_,hl.1,he⟩
 ·have e2:Eo t=true:=AlE ht.1 (fun x hx=>by have:=ht.2.1 x hx;omega)
  have e3:es.all Aq=true:=List.all_eq_true.2 fun e h=>Av0 (he e h).1
  have e4:AQ ⟨v,r.stages,0,r.off⟩=true:=by
   unfold AQ
   dsimp only
   have hvb:=hs1.2.1 v hv
   rw[AnM q1 q2,q5]
   simp only[Bool.true_and,Bool.and_eq_true,decide_eq_true_eq]
   exact⟨⟨⟨⟨by omega,by omega⟩,by omega,by omega⟩,by trivial⟩,by omega,by omega⟩
  unfold AU FU Fq DR
  rw[e1]
  simp only[Cr,e2,e3,e4,Bool.true_and,Bool.and_true]
  simp -implicitDefEqProofs only[Bool.and_eq_true]
  exact⟨rfl,decide_eq_true (by omega),⟨decide_eq_true hv,decide_eq_true ⟨by omega,by omega⟩,decide_eq_true ⟨by omega,by omega⟩⟩,rfl,rfl,decide_eq_true ⟨by omega,by omega⟩,decide_eq_true ⟨by simp,by simp⟩,decide_eq_true ⟨by omega,by omega⟩⟩
 ·rw[ApT]
  have h1:=hs1.2.2
  have h2:=ht.2.2
  have h3:=Auf (l:=es) (m:=40) (fun e h=>Atd (he e h).1)
  have h4:es.length*41≤5*41:=Nat.mul_le_mul_right _ hl.2
  simp only[Bh]
  omega
abbrev Ov (R:Rel):Prop:=∀c:Yf,ED c→Ox R [] c Ak4 (fun w=> .agg (CO w))
theorem Akf (D:Dn) (hB:Ea (D BG)) (hP:Pm (D Iz)) (hR:QN (D Tx)) (hE:QM (D Tn)) (hT:Ql (D Tq)) (hN:Rw (D AaK)):Ov (Body D Ju):=by
 intro c hc
 refine Gq (fun Q hQ=> ?_)
 simp -implicitDefEqProofs
 obtain⟨y,c1,hy,hc1,py⟩:=hB c 2 hc (by omega)
 simp -implicitDefEqProofs [Bz,ints]at py
 refine Aa (py) ?_
 have hy2:=hy.2.2 (by omega)
 have w1:IntKind.i64.wrap (2+y)=2+y:=Ab (by omega) (by omega)
 simp -implicitDefEqProofs [w1]
 have pp:=hP [1] (2+y) (by simp)
 simp -implicitDefEqProofs [ints]at pp
 refine Aa (pp) ?_
 simp -implicitDefEqProofs
 obtain⟨z,c2,hz,hc2,pz⟩:=hB c1 2 hc1 (by omega)
 simp -implicitDefEqProofs [Bz,ints]at pz
 refine Aa (pz) ?_
 have hz2:=hz.2.2 (by omega)
 have w2:IntKind.i64.wrap (4+z)=4+z:=Ab (by omega) (by omega)
 have hl2:=(RH (y:=y) ⟨by omega,by omega⟩).1.2.2
 unfold TA at hl2
 simp -implicitDefEqProofs [w2]
 have pp2:=hP (EW [1] (2+y)) (4+z) (by omega)
 simp -implicitDefEqProofs [ints]at pp2
 refine Aa (pp2) ?_
 obtain⟨sv,hs⟩:∃sv,sv=EW (EW [1] (2+y)) (4+z):=⟨_,rfl⟩
 have hsp:0<sv.length:=by rw[hs];exact put_pos _ _
 have hsl:sv.length≤3:=by rw[hs];exact Nat.le_trans (Oe _ _) (by omega)
 rw[←hs]
 simp -implicitDefEqProofs
 obtain⟨r,c3,hr,hc3,pr⟩:=hR c2 hc2
 simp -implicitDefEqProofs [Bz,ints]at pr
 refine Aa (pr) ?_
 have hws:IntKind.i64.wrap ((sv.length:Int)-1)=(sv.length-1:Nat):=by rw[Ab (by omega) (by omega)];omega
 have hs1:sv.length-1<sv.length:=by omega
 simp -implicitDefEqProofs [hws,hs1]
 obtain⟨x,c4,hx,hc4,px⟩:=hB c3 4 hc3 (by omega)
 simp -implicitDefEqProofs [Bz,ints]at px
 refine Aa (px) ?_
 have hx4:=hx.2.2 (by omega)
 have w3:IntKind.i64.wrap (2+x)=2+x:=Ab (by omega) (by omega)
 obtain⟨n,hn⟩:∃n:Nat,2+x=n:=⟨(2+x).toNat,by omega⟩
 simp -implicitDefEqProofs [w3,hn]
 have hv:sv[sv.length-1]∈sv:=List.getElem_mem hs1
 have w5:IntKind.i64.wrap (n:Int)=n:=Ab (by omega) (by omega)
 generalize sv[sv.length-1]=v at hv
 obtain⟨LI,hLI⟩:∃LI:Nat→St→Prop,LI=fun k s=>∃j cc es o8 o9 o10 o11 o12 o13 o14,j+k=n∧ED cc∧(es:List Ak).length=j∧(∀e,e∈es→AtG e)∧s=⟨[.ptr 0 0,.ptr 1 0,.arr 4,.ptr 6 0,.arr 24,I k,.undef,.undef,.undef],[.var (Bz cc),.var zW,.arr 1 0 1 [I 1],.arr 1 0 (EW [1] (2+y)).length (ints (EW [1] (2+y))),.arr 1 0 sv.length (ints sv),.arr 1 0 r.stages.length (ints r.stages),.var [I v,.arr 5,I 0,B r.off],.free,o8,o9,o10,o11,o12,o13,o14,.free,.free,.free,.free,.free,.free,.free,.free,.free,.arr 4 0 es.length (es.flatMap Ac)]⟩:=⟨_,rfl⟩
 refine Af LI ?_ (n) _ (by rw[hLI];exact⟨0,c4,[],.free,.free,.free,.free,.free,.free,.free,by simp,hc4,rfl,by simp,by simp[ints,w5]⟩)
 intro k s hs
 rw[hLI]at hs
 obtain⟨j,cc,es,o8,o9,o10,o11,o12,o13,o14,hj,hcc,hel,hes,hs⟩:=hs
 subst hs
 by_cases hk:0<k
 ·have hwk:IntKind.i64.wrap ((k:Int)-1)=(k-1:Nat):=by rw[Ab (by omega) (by omega)];omega
  have hb1:(es.length+1)*80≤1099511627776:=by omega
  simp -implicitDefEqProofs [hk]
  obtain⟨e,c5,he,hc5,pe⟩:=hE cc hcc
  simp -implicitDefEqProofs [Bz,ints]at pe
  refine Aa (pe) ?_
  simp -implicitDefEqProofs
  obtain⟨u,c6,hu,hc6,pu⟩:=hB c5 2 hc5 (by omega)
  simp -implicitDefEqProofs [Bz,ints]at pu
  refine Aa (pu) ?_
  have hu2:=hu.2.2 (by omega)
  have w4:IntKind.i64.wrap (2+u)=2+u:=Ab (by omega) (by omega)
  simp -implicitDefEqProofs [w4]
  have pp3:=hP [1] (2+u) (by simp)
  simp -implicitDefEqProofs [ints]at pp3
  refine Aa (pp3) ?_
  simp -implicitDefEqProofs [hb1,hwk]
  have ho:=RH (y:=u) ⟨by omega,by omega⟩
  have he1:AtG ⟨TA u,e.tags,e.path,e.cls⟩:=⟨⟨Vl ho.1 (by omega),ho.2.2,he.tags,he.path,he.cls⟩,ho.2.1⟩
  refine⟨k-1,by omega,?_⟩
  rw[hLI]
  exact⟨j+1,c6,es++ [⟨TA u,e.tags,e.path,e.cls⟩],_,_,_,_,_,_,_,by omega,hc6,by simp[hel],Aqh hes he1,by simp[Ac,ints,TA];exact⟨rfl,rfl,rfl,rfl,rfl,rfl,rfl⟩⟩
 ·have hk0:k=0:=by omega
  subst hk0
  simp -implicitDefEqProofs
  obtain⟨t,c7,ht,hc7,pt⟩:=hT cc hcc
  simp -implicitDefEqProofs [Bz,ints]at pt
  refine Aa (pt) ?_
  have hw:=AhC (y:=y) (z:=z) (r:=r) (t:=t) (es:=es) ⟨by omega,by omega⟩ ⟨by omega,by omega⟩ hr ht hes ⟨by omega,by omega⟩ hs hv
  have hnw:=hN sv t es ⟨v,r.stages,0,r.off⟩ (by have:=hw.sz;omega)
  have hne:Kt sv t es ⟨v,r.stages,0,r.off⟩=(Cr sv t es ⟨v,r.stages,0,r.off⟩,true):=by unfold Kt;rw[if_pos hw.ok]
  rw[hne]at hnw
  simp -implicitDefEqProofs
  simp -implicitDefEqProofs [Bz,ints,Cr]at hnw
  refine Aa (hnw) ?_
  simp -implicitDefEqProofs [DV,Ae]
  exact hQ _ c7 hw hc7
end Go.Eng.T
namespace Go.Eng.T
set_option maxRecDepth 20000
set_option maxHeartbeats 2000000
theorem Z0 (p:Int→Bool) (l:List Ext):(kept p l).length≤l.length:=List.length_filter_le _ _
theorem AjQ (b:Fa) (h:Hello):(Cn b h).1.exts.length≤h.exts.length:=by
 unfold Cn
 split
 ·exact Z0 _ _
 ·simp[Bd]
theorem AeH:∀(path:List Fa) (h:Hello),(H8 path h).1.exts.length≤h.exts.length
 | [],h=>Nat.le_refl _
 | b::r,h=>by
  unfold H8
  split
  ·exact Nat.le_trans (AeH r _) (AjQ b h)
  ·simp[Bd]
theorem AhJ (path:List Fa) (h:Hello):(Bq path h).1.exts.length≤h.exts.length:=by
 unfold Bq
 split
 ·exact AeH path h
 ·simp[Bd]
theorem Atx (h:Hello) (path:List Fa):(fallback h path).1.exts.length≤h.exts.length:=by
 unfold fallback Fz
 split
 ·dsimp only;exact Z0 _ _
 ·simp[Bd]
theorem At4 (h:Hello) (path:List Fa):(DI h path).1.exts.length≤h.exts.length:=by
 unfold DI
 split
 ·split
  ·exact Nat.le_refl _
  ·split
   ·exact Atx h path
   ·simp[Bd]
 ·simp[Bd]
theorem AnW (vs tags:List Int) (h:Hello):(Bv vs tags h).1.exts.length≤h.exts.length:=by
 unfold Bv
 split
 ·dsimp only[XK,Lv];exact Nat.le_trans (Z0 _ _) (Z0 _ _)
 ·simp
theorem AmT (h seen:Hello) (vs tags:List Int) (key:Int):(AfO h seen vs tags key).tags.length≤seen.exts.length:=by
 unfold AfO
 split
 ·rw[Vd];exact AnW vs tags seen
 ·simp[Gs]
theorem AtA (h:Hello) (path:List Fa) (vs tags:List Int) (key:Int):(Q6 h path vs tags key).tags.length≤h.exts.length:=by
 unfold Q6
 split
 ·exact Nat.le_trans (AmT _ _ _ _ _) (AhJ path h)
 ·simp[Gs]
theorem Asj (h x:Hello):(RU h x).length≤h.versions.length+h.exts.length:=by
 unfold RU
 have h1:=O5 h.versions x.versions
 have h2:=List.length_filter_le (Ahq (Bl x.exts)) (Bl h.exts)
 rw[Vd]at h2
 simp only[List.length_append,List.length_map]
 omega
theorem AuF (h:Hello) (path:List Fa) (vs tags:List Int) (key:Int):Bo (Aoz h path vs tags key)≤h.versions.length+2*h.exts.length:=by
 unfold Aoz
 have h1:=At4 h path
 split
 ·have h2:=AtA (DI h path).1 path vs tags key
  have h3:=Asj h (DI h path).1
  simp only[Bo,TF]
  omega
 ·simp[Bo,TF,Gs]
theorem Anu (l:List Ext) (seed:Int):(EN l seed).length≤l.length+1:=by
 unfold EN
 split
 ·simp;omega
 ·omega
theorem Aar (e:Ak) (vs tags:List Int) (key seed:Int):Bo (Lr e vs tags key seed)≤e.versions.length+12:=by
 unfold Lr
 split
 ·rename_i he
  refine Nat.le_trans (AuF _ _ _ _ _) ?_
  unfold Ko
  rw[if_pos he]
  have h1:=Uz he
  have h2:=Anu (bare e.tags) seed
  rw[NW]at h2
  dsimp only
  omega
 ·simp[KI,Bo,TF,Gs]
theorem ArN {l:List Fa} (h:∀b,b∈l→Ahc b):Cg FI l≤15*l.length:=by
 induction l with
 | nil=>simp[Cg]
 | cons b l ih=>
  have:=ih (fun x hx=>h x (by simp[hx]))
  have hb0:=h b (by simp)
  have e1:=hb0.1
  have e2:=hb0.2
  simp only[Cg,FI,List.length_cons,List.map_cons,List.sum_cons]at *
  omega
theorem Arn {e:Ak} (h:Au9 e):Ad e≤100:=by
 have h1:=h.vers
 have h2:=h.tags
 have h3:=ArN h.box
 have h4:=h.path
 unfold Ad
 omega
theorem Ap6 {α:Type} {f:α→Nat} (l:List α) (e:α):Cg f (l.set 0 e)≤Cg f l+f e:=by
 cases l with
 | nil=>simp[Cg]
 | cons a l=>simp[Cg];omega
def WSm (w:World):Prop:=Ap w≤2000
abbrev ZQ (R:Rel):Prop:=∀c:Yf,ED c→Ox R [] c WSm (fun w=> .agg (CO w))
theorem Ar8 (D:Dn) (hB:Ea (D BG)) (hI:NU (D Gn)) (hW:Ov (D QX)) (hV:Ve (D U1)) (hE:Aae (D Agx)) (hR:Aaa (D Afz)) (hD:Qv (D Ta)):ZQ (Body D LK):=by
 intro c hc
 refine Gq (fun Q hQ=> ?_)
 simp -implicitDefEqProofs
 obtain⟨w,c1,hw,hc1,pw⟩:=hW c hc
 simp -implicitDefEqProofs [Bz,ints]at pw
 refine Aa (pw) ?_
 have hsz:=hw.sz
 have he0:=hw.ends
 obtain⟨sv,tg,key,es,⟨rv,rs,rp,ro⟩,least,pct,stg,log,now,hurt,rch⟩:=w
 have hk:es.length≤Cg Ad es:=by unfold Cg;omega
 simp only[Ap,Bh]at hsz
 dsimp only at he0
 simp -implicitDefEqProofs
 obtain⟨x,c2,hx,hc2,px⟩:=hB c1 14 hc1 (by omega)
 simp -implicitDefEqProofs [Bz,ints]at px
 refine Aa (px) ?_
 by_cases g0:x=0
 ·simp -implicitDefEqProofs [g0]
  obtain⟨u,c3,hu,hc3,pu⟩:=hV c2 hc2
  simp -implicitDefEqProofs [Bz,ints]at pu
  refine Aa (pu) ?_
  simp -implicitDefEqProofs [DV,Ae]
  exact hQ ⟨u,tg,key,es,⟨rv,rs,rp,ro⟩,least,pct,stg,log,now,hurt,rch⟩ c3 (by simp only[WSm,Ap,Bh];omega) hc3
 by_cases g1:x=1
 ·simp -implicitDefEqProofs [g1]
  obtain⟨u,c3,hu,hc3,pu⟩:=hI c2 [-1,255,256] hc2 (by simp) (by simp)
  simp -implicitDefEqProofs [Bz,ints]at pu
  refine Aa (pu) ?_
  simp -implicitDefEqProofs [DV,Ae]
  exact hQ ⟨sv,[u],key,es,⟨rv,rs,rp,ro⟩,least,pct,stg,log,now,hurt,rch⟩ c3 (by simp only[WSm,Ap,Bh,List.length_cons,List.length_nil];omega) hc3
 by_cases g2:x=2
 ·simp -implicitDefEqProofs [g2]
  obtain⟨u,c3,hu,hc3,pu⟩:=hI c2 [0,5] hc2 (by simp) (by simp)
  simp -implicitDefEqProofs [Bz,ints]at pu
  refine Aa (pu) ?_
  simp -implicitDefEqProofs [DV,Ae]
  exact hQ ⟨sv,tg,u,es,⟨rv,rs,rp,ro⟩,least,pct,stg,log,now,hurt,rch⟩ c3 (by simp only[WSm,Ap,Bh];omega) hc3
 by_cases g4:x=4
 ·simp -implicitDefEqProofs [g4]
  obtain⟨u,c3,hu,hc3,pu⟩:=hR c2 hc2
  simp -implicitDefEqProofs [Bz,ints]at pu
  refine Aa (pu) ?_
  simp -implicitDefEqProofs [DV,Ae]
  exact hQ ⟨sv,tg,key,es,u,least,pct,stg,log,now,hurt,rch⟩ c3 (by simp only[WSm,Ap,Bh];omega) hc3
 by_cases g5:x=5
 ·simp -implicitDefEqProofs [g5]
  obtain⟨u,c3,hu,hc3,pu⟩:=hI c2 [0,100,101] hc2 (by simp) (by simp)
  simp -implicitDefEqProofs [Bz,ints]at pu
  refine Aa (pu) ?_
  simp -implicitDefEqProofs [DV,Ae]
  exact hQ ⟨sv,tg,key,es,⟨rv,rs,rp,ro⟩,u,pct,stg,log,now,hurt,rch⟩ c3 (by simp only[WSm,Ap,Bh];omega) hc3
 by_cases g6:x=6
 ·simp -implicitDefEqProofs [g6]
  obtain⟨u,c3,hu,hc3,pu⟩:=hI c2 [-1,100,101] hc2 (by simp) (by simp)
  simp -implicitDefEqProofs [Bz,ints]at pu
  refine Aa (pu) ?_
  simp -implicitDefEqProofs [DV,Ae]
  exact hQ ⟨sv,tg,key,es,⟨rv,rs,rp,ro⟩,least,u,stg,log,now,hurt,rch⟩ c3 (by simp only[WSm,Ap,Bh];omega) hc3
 by_cases g7:x=7
 ·simp -implicitDefEqProofs [g7]
  obtain⟨u,c3,hu,hc3,pu⟩:=hI c2 [-1,10000,10001] hc2 (by simp) (by simp)
  simp -implicitDefEqProofs [Bz,ints]at pu
  refine Aa (pu) ?_
  simp -implicitDefEqProofs [DV,Ae]
  exact hQ ⟨sv,tg,key,es,⟨rv,rs,rp,ro⟩,least,pct,stg,log,u,hurt,rch⟩ c3 (by simp only[WSm,Ap,Bh];omega) hc3
 by_cases g8:x=8
 ·simp -implicitDefEqProofs [g8]
  obtain⟨u,c3,hu,hc3,pu⟩:=hI c2 [-1,0,1] hc2 (by simp) (by simp)
  simp -implicitDefEqProofs [Bz,ints]at pu
  refine Aa (pu) ?_
  simp -implicitDefEqProofs [DV,Ae]
  exact hQ ⟨sv,tg,key,es,⟨rv,rs,rp,ro⟩,least,pct,stg,log,now,u,rch⟩ c3 (by simp only[WSm,Ap,Bh];omega) hc3
 by_cases g3:x=3
 ·have hlt:3<es.length*4:=by omega
  simp -implicitDefEqProofs [g3,he0]
  obtain⟨e,c3,he,hc3,pe⟩:=hE c2 hc2
  simp -implicitDefEqProofs [Bz,ints]at pe
  refine Aa (pe) ?_
  have hes:=Arn he
  have hput:=AcV he0 e.versions e.tags e.path e.cls rfl rfl rfl
  simp only[Nat.zero_mul,ints]at hput
  simp -implicitDefEqProofs [he0,hlt,hput,DV,Ae]
  have hset:=Ap6 (f:=Ad) es e
  have:=hQ ⟨sv,tg,key,es.set 0 e,⟨rv,rs,rp,ro⟩,least,pct,stg,log,now,hurt,rch⟩ c3 (by simp only[WSm,Ap,Bh];omega) hc3
  simpa[CO,ints]using this
 by_cases g9:x=9
 ·have hg:Ev (es.flatMap Ac) 0 4=some (Ac es[0]):=by have:=Afy he0;simpa using this
  have hb:=size_at (f:=Ad) he0
  simp -implicitDefEqProofs [g9,he0,hg]
  have hd:=Aar es[0] sv tg 77 1
  have hv0:es[0].versions.length≤Ad es[0]:=by unfold Ad;omega
  refine Aa (hD es[0] sv tg 77 1 (by omega) (by omega) (by omega)) ?_
  generalize Lr es[0] sv tg 77 1=d at hd
  simp -implicitDefEqProofs [DV,Ae]
  have:=hQ ⟨sv,tg,key,es,⟨rv,rs,rp,ro⟩,least,pct,stg,[⟨0,1,false,d⟩],now,hurt,rch⟩ c2 (by
   simp only[WSm,Ap,Bh,Cg,Et,List.length_cons,List.length_nil,List.map_cons,List.map_nil,List.sum_cons,List.sum_nil]at *
   omega) hc2
  simpa[CO,Aj,ints]using this
 simp -implicitDefEqProofs [g0,g1,g2,g3,g4,g5,g6,g7,g8,g9,DV,Ae]
 exact hQ ⟨sv,tg,key,es,⟨rv,rs,rp,ro⟩,least,pct,stg,log,now,hurt,rch⟩ c2 (by simp only[WSm,Ap,Bh];omega) hc2
end Go.Eng.T
namespace Go.Eng.T
set_option maxRecDepth 20000
set_option maxHeartbeats 2000000
def Axa (bs:List Int):Prop:=bs.length≤1048576∧∀b,b∈bs→0≤b∧b≤255
def AlG (R:Rel) (bs:List Int) {α:Type} (P:α→Prop) (res:α→V):Prop:=∃a,P a∧R [.sl 3 1 bs.length (u8s bs)] [] (res a) []
theorem At6 {D:Dn} {f:Ch} {bs:List Int} {α:Type} {P:α→Prop} {res:α→V} (h:∀Q:V→List O→Prop,(∀a,P a→Q (res a) [])→Amd D f [.sl 3 1 bs.length (u8s bs)] [] Q):AlG (Body D f) bs P res:=by
 obtain⟨v,o,⟨a,h1,rfl,rfl⟩,h3⟩:=Afo (P:=fun v o=>∃a,P a∧v=res a∧o=[]) (fun Q hQ=>h Q (fun a h1=>hQ _ _ ⟨a,h1,rfl,rfl⟩))
 exact⟨a,h1,h3⟩
end Go.Eng.T
namespace Go.Eng.T
set_option maxRecDepth 20000
set_option maxHeartbeats 2000000
abbrev AtL (R:Rel):Prop:=∀bs:List Int,bs.length≤maxLen→R [.sl 3 1 bs.length (u8s bs)] [] (B (decide (1048576<bs.length))) []
theorem Axt (D:Dn):AtL (Body D XP):=by
 intro bs h
 unfold maxLen at h
 by_cases h1:1048576<bs.length
 ·have h1':(1048576:Int)<bs.length:=by omega
  simp -implicitDefEqProofs [h1,h1']
 ·have h1':¬(1048576:Int)<bs.length:=by omega
  simp -implicitDefEqProofs [h1,h1']
def AtS (bs:List Int):Prop:=bs.length≤maxLen∧∀b,b∈bs→0≤b∧b≤255
end Go.Eng.T
namespace Go.Eng.T
set_option maxRecDepth 20000
set_option maxHeartbeats 2000000
theorem An9 (w:World) (i:Int):Bo (TH w i)≤Cg Ad w.ends+12:=by
 unfold TH
 have z:Bo KI=0:=by simp[Bo,TF,KI,Gs]
 split
 ·split
  ·rename_i e he
   have h1:=Aar e w.server w.tags w.key (16*clip w.now+i)
   obtain⟨hj,rfl⟩:=List.getElem?_eq_some_iff.1 he
   have h2:=size_at (f:=Ad) hj
   have h3:w.ends[i.toNat].versions.length≤Ad w.ends[i.toNat]:=by unfold Ad;omega
   omega
  ·rw[z];omega
 ·rw[z];omega
theorem AaP {α:Type} {f:α→Nat}:∀(l:List α) (j:Nat) (hj:j<l.length) (e:α),f e≤f l[j]+1→Cg f (l.set j e)≤Cg f l+1
 | a::l,0,_,e,h=>by
  simp only[List.getElem_cons_zero]at h
  simp[Cg];omega
 | a::l,j+1,hj,e,h=>by
  have:=AaP l j (by simpa using hj) e (by simpa using h)
  simp only[Cg,List.set_cons_succ,List.length_cons,List.map_cons,List.sum_cons]at *
  omega
abbrev Rp (R:Rel):Prop:=∀c:Yf,ED c→Ox R [] c (fun w:World=>Ap w≤8000) (fun w=> .agg (CO w))
theorem Aj6 (D:Dn) (hB:Ea (D BG)) (hO:VJ (D V3)) (hW:Ov (D QX)) (hP:Pm (D Iz)) (hD:Z8 (D Afg)):Rp (Body D Jf):=by
 intro c hc
 refine Gq (fun Q hQ=> ?_)
 simp -implicitDefEqProofs
 obtain⟨w,c1,hw,hc1,pw⟩:=hW c hc
 simp -implicitDefEqProofs [Bz,ints]at pw
 refine Aa (pw) ?_
 have hsz:=hw.sz
 have hok:=hw.ok
 obtain⟨sv,tg,key,es0,⟨rv,rs,rp,ro⟩,least,pct,stg0,log,now0,hurt,rch0⟩:=w
 have hk0:es0.length≤Cg Ad es0:=G7
 simp only[Ap,Bh]at hsz
 have hrs:0<rs.length:=by
  unfold AU Fq AQ at hok
  simp only[Bool.and_eq_true,decide_eq_true_eq]at hok
  have:=hok.2.2.2.1.1.2.1.1.2
  have:=this.1
  omega
 simp -implicitDefEqProofs
 obtain⟨nw,c2,hnw,hc2,pnw⟩:=hB c1 9 hc1 (by omega)
 simp -implicitDefEqProofs [Bz,ints]at pnw
 refine Aa (pnw) ?_
 simp -implicitDefEqProofs
 obtain⟨LI,hLI⟩:∃LI:Nat→St→Prop,LI=fun k s=>∃j cc es o9,j+k=es0.length∧(es:List Ak).length=es0.length∧Cg Ad es≤Cg Ad es0+j∧ED cc∧s=⟨[.ptr 0 0,.ptr 1 0,.ptr 8 0,I j,.undef,.undef,.undef,.undef],[.var (Bz cc),.var zW,.arr 1 0 sv.length (ints sv),.arr 1 0 tg.length (ints tg),.arr 4 0 es.length (es.flatMap Ac),.arr 1 0 rs.length (ints rs),.free,.arr 8 0 log.length (log.flatMap Aj),.var [.arr 2,.arr 3,I key,.arr 4,I rv,.arr 5,I rp,B ro,I least,I pct,.arr 14,.arr 7,I nw,I hurt,I rch0],o9,.free,.free,.free,.free,.arr 5 0 stg0.length (stg0.flatMap Am)]⟩:=⟨_,rfl⟩
 refine Af LI ?_ (es0.length) _ (by rw[hLI];exact⟨0,c2,es0,.free,by simp,rfl,by omega,hc2,by simp[ints]⟩)
 intro k s hs
 rw[hLI]at hs
 obtain⟨j,cc,es,o9,hj,hel,hes,hcc,hs⟩:=hs
 subst hs
 by_cases hjn:j<es0.length
 ·have hw:IntKind.i64.wrap ((j:Int)+1)=(j+1:Nat):=by rw[Ab (by omega) (by omega)];simp
  have hje:j<es.length:=by omega
  have hv:=size_at (f:=Ad) hje
  have hvl:es[j].versions.length≤Ad es[j]:=by unfold Ad;omega
  simp -implicitDefEqProofs [hje]
  obtain⟨q,c3,hq,hc3,pq⟩:=hO cc 2 hcc (by omega)
  simp -implicitDefEqProofs [Bz,ints]at pq
  refine Aa (pq) ?_
  by_cases g:q=true
  ·simp -implicitDefEqProofs [g,hje]
   have pp:=hP es[j].versions rv (by omega)
   have hpl:=Oe es[j].versions rv
   generalize EW es[j].versions rv=pv at pp hpl
   refine Aa (pp) ?_
   simp -implicitDefEqProofs [hje]
   have hset:=AaP (f:=Ad) es j hje ⟨pv,es[j].tags,es[j].path,es[j].cls⟩ (by unfold Ad;dsimp only;omega)
   refine⟨k-1,by omega,?_⟩
   rw[hLI]
   exact⟨j+1,c3,es.set j ⟨pv,es[j].tags,es[j].path,es[j].cls⟩,_,by omega,by simp[hel],by omega,hc3,by simp[hw];rfl⟩
  ·simp -implicitDefEqProofs [g]
   refine⟨k-1,by omega,?_⟩
   rw[hLI]
   exact⟨j+1,c3,es,_,by omega,hel,by omega,hc3,by simp[hw];rfl⟩
 have hjn':¬j<es.length:=by omega
 have hesb:Cg Ad es≤Cg Ad es0+es0.length:=by omega
 simp -implicitDefEqProofs [hjn']
 obtain⟨x,c3,hx,hc3,px⟩:=(hB cc rs.length hcc (by omega))
 simp -implicitDefEqProofs [Bz,ints]at px
 refine Aa (px) ?_
 have hxs:=hx.2.2 (by omega)
 have w1:IntKind.i64.wrap (x+1)=x+1:=Ab (by omega) (by omega)
 simp -implicitDefEqProofs [w1]
 obtain⟨y,c4,hy,hc4,py⟩:=hB c3 7 hc3 (by omega)
 simp -implicitDefEqProofs [Bz,ints]at py
 refine Aa (py) ?_
 have hy7:=hy.2.2 (by omega)
 obtain⟨n,rfl⟩:∃n:Nat,y=n:=⟨y.toNat,by omega⟩
 simp -implicitDefEqProofs
 obtain⟨LI,hLI⟩:∃LI:Nat→St→Prop,LI=fun k s=>∃j cd stg o9 o10 o11 o12,j+k=n∧Cg Bo stg≤Cg Bo stg0+j*(Cg Ad es0+es0.length+13)∧ED cd∧s=⟨[.ptr 0 0,.ptr 1 0,.ptr 8 0,.undef,I k,.undef,.undef,.undef],[.var (Bz cd),.var zW,.arr 1 0 sv.length (ints sv),.arr 1 0 tg.length (ints tg),.arr 4 0 es.length (es.flatMap Ac),.arr 1 0 rs.length (ints rs),.free,.arr 8 0 log.length (log.flatMap Aj),.var [.arr 2,.arr 3,I key,.arr 4,I rv,.arr 5,I x,B ro,I least,I pct,.arr 14,.arr 7,I nw,I hurt,I (x+1)],o9,o10,o11,o12,.free,.arr 5 0 stg.length (stg.flatMap Am)]⟩:=⟨_,rfl⟩
 refine Af LI ?_ (n) _ (by rw[hLI];exact⟨0,c4,stg0,o9,.free,.free,.free,by simp,by omega,hc4,by simp[ints]⟩)
 intro k s hs
 rw[hLI]at hs
 obtain⟨j,cd,stg,o9,o10,o11,o12,hj,hst,hcd,hs⟩:=hs
 subst hs
 by_cases hk:0<k
 ·have hwk:IntKind.i64.wrap ((k:Int)-1)=(k-1:Nat):=by rw[Ab (by omega) (by omega)];omega
  have hjm:j*(Cg Ad es0+es0.length+13)≤6*(Cg Ad es0+es0.length+13):=Nat.mul_le_mul_right _ (by omega)
  have hsl:stg.length≤Cg Bo stg:=G7
  have hb1:(stg.length+1)*72≤1099511627776:=by omega
  simp -implicitDefEqProofs [hk]
  obtain⟨z,c5,hz,hc5,pz⟩:=(hB cd es.length hcd (by omega))
  simp -implicitDefEqProofs [Bz,ints]at pz
  refine Aa (pz) ?_
  have hwz:Ap ⟨sv,tg,key,es,⟨rv,rs,x,ro⟩,least,pct,stg,log,nw,hurt,x+1⟩≤4194304:=by simp only[Ap,Bh];omega
  have hd:=hD ⟨sv,tg,key,es,⟨rv,rs,x,ro⟩,least,pct,stg,log,nw,hurt,x+1⟩ z hwz
  have hdl:=An9 ⟨sv,tg,key,es,⟨rv,rs,x,ro⟩,least,pct,stg,log,nw,hurt,x+1⟩ z
  generalize TH ⟨sv,tg,key,es,⟨rv,rs,x,ro⟩,least,pct,stg,log,nw,hurt,x+1⟩ z=d at hd hdl
  dsimp only at hdl
  simp -implicitDefEqProofs
  simp -implicitDefEqProofs [ints]at hd
  refine Aa (hd) ?_
  simp -implicitDefEqProofs [hb1,hwk]
  have hadd:Cg Bo (stg++ [d])≤Cg Bo stg0+(j+1)*(Cg Ad es0+es0.length+13):=by
   have:Cg Bo (stg++ [d])=Cg Bo stg+Bo d+1:=by simp[Cg];omega
   rw[this,Nat.add_mul]
   omega
  refine⟨k-1,by omega,?_⟩
  rw[hLI]
  exact⟨j+1,c5,stg++ [d],_,_,_,_,by omega,hadd,hc5,by simp[Am,ints];exact⟨rfl,rfl,rfl,rfl⟩⟩
 ·have hk0:k=0:=by omega
  subst hk0
  have hjm:j*(Cg Ad es0+es0.length+13)≤6*(Cg Ad es0+es0.length+13):=Nat.mul_le_mul_right _ (by omega)
  simp -implicitDefEqProofs [DV,Ae]
  exact hQ ⟨sv,tg,key,es,⟨rv,rs,x,ro⟩,least,pct,stg,log,nw,hurt,x+1⟩ cd (by simp only[Ap,Bh];omega) hcd
abbrev Ho (R:Rel):Prop:=∀bs:List Int,Axa bs→AlG R bs (fun w:World=>Ap w≤8000) (fun w=> .agg (CO w))
theorem WH (D:Dn) (hN:Af1 (D AgV)) (hO:VJ (D V3)) (hA:ZQ (D AgA)) (hW:Rp (D AbR)):Ho (Body D Fh):=by
 intro bs hb
 refine At6 (fun Q hQ=> ?_)
 simp -implicitDefEqProofs
 obtain⟨c0,hc0,pc0⟩:=hN bs hb.1 hb.2
 simp -implicitDefEqProofs [Bz,ints]at pc0
 refine Aa (pc0) ?_
 simp -implicitDefEqProofs
 obtain⟨q,c1,hq,hc1,pq⟩:=hO c0 4 hc0 (by omega)
 simp -implicitDefEqProofs [Bz,ints]at pq
 refine Aa (pq) ?_
 by_cases g:q=true
 ·simp -implicitDefEqProofs [g]
  obtain⟨w,c2,hw,hc2,pw⟩:=hA c1 hc1
  simp -implicitDefEqProofs [Bz,ints]at pw
  refine Aa (pw) ?_
  unfold WSm at hw
  simp -implicitDefEqProofs
  exact hQ w (by omega)
 ·simp -implicitDefEqProofs [g]
  obtain⟨w,c2,hw,hc2,pw⟩:=hW c1 hc1
  simp -implicitDefEqProofs [Bz,ints]at pw
  refine Aa (pw) ?_
  simp -implicitDefEqProofs
  exact hQ w hw
end Go.Eng.T
namespace Go.Eng.T
set_option maxRecDepth 20000
theorem ArC {l:List Int} (h:0<MN l):∃x,x∈l∧0<x:=by
 by_cases hx:∃x,x∈l∧0<x
 ·exact hx
 ·exfalso
  have h1:∀y,y∈l→y<1:=fun y hy=>by
   by_cases h2:0<y
   ·exact absurd ⟨y,hy,h2⟩ hx
   ·omega
  have:=Ae5 (x:=1) l 0 h1 (by omega)
  unfold MN at h
  omega
theorem Aot {s l l':List Int} (h:0<AB s l) (hl:AP l' =true) (hs:∀x,x∈l→x∈l'):0<AB s l':=by
 unfold AB at h⊢
 split at h
 ·rename_i hc
  rw[if_pos ⟨hc.1,hl⟩]
  obtain⟨x,hx,h0⟩:=ArC h
  unfold common at hx⊢
  have hx':=List.mem_filter.1 hx
  have hm:x∈s.filter fun v=>decide (v∈l'):=List.mem_filter.2 ⟨hx'.1,by simpa using hs x (by simpa using hx'.2)⟩
  have:=max_mem (a:=0) hm
  unfold MN
  omega
 ·omega
theorem Ame (s l:List Int):0≤AB s l:=by
 unfold AB
 split
 ·unfold MN
  have ge:∀(l:List Int) (a:Int),a≤l.foldl (fun a v=>if v>a then v else a) a:=by
   intro l
   induction l with
   | nil=>intro a;exact Int.le_refl a
   | cons z l ih=>
    intro a
    simp only[List.foldl_cons]
    refine Int.le_trans ?_ (ih _)
    split<;>omega
  exact ge _ 0
 ·omega
theorem RF {s l:List Int}:reach s l=true↔0<AB s l:=by
 unfold reach
 have:=Ame s l
 simp
 omega
theorem Ag9 {l:List Int} {v:Int} (h:AP l=true) (hv:1≤v∧v≤9):AP (EW l v)=true:=by
 refine Agf (Z9 v (Xc h)) (fun x hx=> ?_) (put_pos l v)
 rcases(GY l v x).1 hx with hx | rfl
 ·have:=Af4 h x hx;exact⟨this.1,this.2⟩
 ·exact hv
theorem O6 {l:List Int} {s:List Int} (h:0<AB s l):AP l=true:=by
 unfold AB at h
 split at h
 ·rename_i hc;exact hc.2
 ·omega
theorem Tp {e:Ak} (h:Aq e=true) {l:List Int} (hl:AP l=true):Aq ⟨l,e.tags,e.path,e.cls⟩=true:=by
 unfold Aq at h⊢
 simp only[Bool.and_eq_true]at h⊢
 exact⟨hl,h.2⟩
structure Awq (w:World):Prop where
 reach:AP w.server=true∧∀e,e∈w.ends→reach w.server e.versions=true
 tags:Eo w.tags=true∧Je w.key=true
 few:w.ends.length≤6
 ends:∀e,e∈w.ends→Aq e=true
 b:Fq w=true
 c:DR w=true
theorem Rv {w:World}:AU w=true↔Awq w:=by
 unfold AU FU ES
 simp only[Bool.and_eq_true,decide_eq_true_eq,List.all_eq_true]
 constructor
 ·rintro ⟨⟨⟨h1,h2⟩,h3,h4⟩,h5,h6,h7,h8⟩
  exact⟨⟨h1,fun e he=>h2 _ (List.mem_map.2 ⟨e,he,rfl⟩)⟩,⟨h3,h4⟩,h5,h6,h7,h8⟩
 ·rintro ⟨⟨h1,h2⟩,⟨h3,h4⟩,h5,h6,h7,h8⟩
  exact⟨⟨⟨h1,fun l hl=>by obtain⟨e,he,rfl⟩:=List.mem_map.1 hl;exact h2 e he⟩,h3,h4⟩,h5,h6,h7,h8⟩
theorem Aic {w:World} (h:AU w=true):AU (leave w)=true:=by
 have p:=Rv.1 h
 refine Rv.2 ⟨⟨p.reach.1,?_⟩,p.tags,by simp[leave];exact p.few,?_,p.b,?_⟩
 ·intro e he
  obtain⟨e0,h0,rfl⟩:=List.mem_map.1 he
  unfold Eb
  split
  ·rename_i hb;exact RF.2 hb
  ·exact p.reach.2 e0 h0
 ·intro e he
  obtain⟨e0,h0,rfl⟩:=List.mem_map.1 he
  unfold Eb
  split
  ·rename_i hb;exact Tp (p.ends e0 h0) (O6 hb)
  ·exact p.ends e0 h0
 ·have hc:=p.c
  unfold DR at hc⊢
  simp only[leave,Bool.and_eq_true]at hc⊢
  exact⟨by simp,hc.2⟩
theorem Ab5 {r:Dz} (h:AQ r=true):PY r.version 1 9∧PY r.pos 0 ((r.stages.length:Int)-1)∧(∀x,x∈r.stages→1≤x∧x≤100):=by
 unfold AQ at h
 simp only[Bool.and_eq_true,decide_eq_true_eq]at h
 obtain⟨h1,⟨⟨h2,h3⟩,h4⟩,h5⟩:=h
 refine⟨h2,h5,fun x hx=> ?_⟩
 obtain⟨i,hi,rfl⟩:=List.getElem_of_mem hx
 have:=Ag3 h1 hi
 rw[getD_at hi]at this
 exact⟨this.1,this.2⟩
theorem AiX {w:World} (h:AU w=true):AU (enter w)=true:=by
 by_cases hc:Jj w=true
 rotate_left
 ·unfold enter;rw[if_neg hc];exact h
 have p:=Rv.1 h
 have hr:AQ w.rollout=true:=by
  unfold Jj at hc
  simp only[Bool.and_eq_true]at hc
  exact hc.1
 have rf:=Ab5 hr
 have e:enter w={w with ends:=w.ends.mapIdx (DJ w),stage:=[],reached:=max w.reached (w.rollout.pos+1)}:=by unfold enter;rw[if_pos hc]
 have hm:∀e1,e1∈(enter w).ends→∃e0,e0∈w.ends∧(e1=e0∨e1=⟨EW e0.versions w.rollout.version,e0.tags,e0.path,e0.cls⟩):=by
  intro e1 h1
  rw[e]at h1
  dsimp only at h1
  obtain⟨i,hi,rfl⟩:=List.getElem_of_mem h1
  rw[List.getElem_mapIdx]
  have hi':i<w.ends.length:=by simpa using hi
  refine⟨w.ends[i],List.getElem_mem hi',?_⟩
  unfold DJ
  split
  ·exact .inr rfl
  ·exact .inl rfl
 refine Rv.2 ⟨⟨by rw[e];exact p.reach.1,?_⟩,by rw[e];exact p.tags,by rw[e];simp;exact p.few,?_,by rw[e];exact p.b,?_⟩
 ·intro e1 h1
  obtain⟨e0,h0,h2⟩:=hm e1 h1
  have hs:(enter w).server=w.server:=by rw[e]
  rw[hs]
  rcases h2 with rfl | rfl
  ·exact p.reach.2 _ h0
  ·have:=RF.1 (p.reach.2 e0 h0)
   exact RF.2 (Aot this (Ag9 (O6 this) ⟨rf.1.1,rf.1.2⟩) (fun x hx=>(GY _ _ _).2 (.inl hx)))
 ·intro e1 h1
  obtain⟨e0,h0,h2⟩:=hm e1 h1
  rcases h2 with rfl | rfl
  ·exact p.ends _ h0
  ·have:=RF.1 (p.reach.2 e0 h0)
   exact Tp (p.ends e0 h0) (Ag9 (O6 this) ⟨rf.1.1,rf.1.2⟩)
 ·have hc:=p.c
  unfold DR at hc⊢
  rw[e]
  simp only[Bool.and_eq_true,decide_eq_true_eq]at hc⊢
  obtain⟨_,h2,h3,h4,h5⟩:=hc
  refine⟨by simp,h2,h3,h4,?_⟩
  have:=rf.2.1.1
  have:=rf.2.1.2
  have:=h5.1
  have:=h5.2
  constructor<;>omega
theorem Amt {w:World} {e:Ak} (he:e∈(leave w).ends) (hv:w.rollout.version∈e.versions):AB w.server (Az e.versions w.rollout.version)=0∧e∈w.ends:=by
 obtain⟨e0,h0,rfl⟩:=List.mem_map.1 he
 unfold Eb at hv⊢
 split
 ·rename_i hb
  rw[if_pos hb]at hv
  unfold Az at hv
  have:=(List.mem_filter.1 hv).2
  simp at this
 ·rename_i hb
  have:=Ame w.server (Az e0.versions w.rollout.version)
  exact⟨by omega,h0⟩
theorem Ak9 {p:Nat→Bool} {c:Int} (h0:0≤c):∀n,(∀i,i<n→p i=decide ((i:Int)<c))→(TQ p n:Int)=min (n:Int) c
 | 0,_=>by simp[TQ];omega
 | n+1,h=>by
  have ih:=Ak9 h0 n (fun i hi=>h i (by omega))
  have hn:=h n (by omega)
  unfold TQ
  by_cases hc:(n:Int)<c
  ·rw[hn]
   simp only[hc,decide_true,if_true]
   omega
  ·rw[hn]
   simp only[hc,decide_false]
   simp only[Bool.false_eq_true,if_false]
   omega
theorem AjL {r:Dz} {n:Nat} (hn:n≤10000):0≤countIn r n∧countIn r n≤n:=by
 unfold countIn
 split
 ·rename_i h
  have rf:=Ab5 h.1
  have hp0:=rf.2.1.1
  have hp1:=rf.2.1.2
  have hj:r.pos.toNat<r.stages.length:=by omega
  have hs:=rf.2.2 _ (List.getElem_mem hj)
  rw[getD_at hj]
  generalize r.stages[r.pos.toNat]=st at hs
  unfold Nc
  split
  ·have h1:(n:Int)*st≤n*100:=Int.mul_le_mul_of_nonneg_left hs.2 (by omega)
   have h2:0≤(n:Int)*st:=Int.mul_nonneg (by omega) (by omega)
   rw[Int.tdiv_eq_ediv_of_nonneg (by omega)]
   omega
  ·omega
 ·omega
theorem AhS {w:World} (hc:Jj w=true) (hn:w.ends.length≤10000):(TQ (Sz (enter w)) w.ends.length:Int)=countIn w.rollout w.ends.length:=by
 have hb:=AjL (r:=w.rollout) hn
 have e:enter w={w with ends:=w.ends.mapIdx (DJ w),stage:=[],reached:=max w.reached (w.rollout.pos+1)}:=by unfold enter;rw[if_pos hc]
 have hl:(enter w).ends.length=w.ends.length:=by rw[e];simp
 have hro:(enter w).rollout=w.rollout:=by rw[e]
 rw[Ak9 hb.1 _ (fun i hi=> ?_)]
 ·omega
 ·unfold Sz Pv
  rw[hl,hro]
  have hi':i<(enter w).ends.length:=by omega
  have h1:PY (i:Int) 0 ((w.ends.length:Int)-1):=⟨by omega,by omega⟩
  simp only[h1,decide_true,Bool.true_and,Int.toNat_natCast,List.getElem?_eq_getElem hi']
  have hg:(enter w).ends[i]=DJ w i w.ends[i]:=by simp only[e,List.getElem_mapIdx]
  rw[hg]
  by_cases h2:(i:Int)<countIn w.rollout w.ends.length
  ·have h3:isIn w.rollout i w.ends.length=true:=by unfold isIn;simp[h2];omega
   have h4:w.rollout.version∈(DJ w i w.ends[i]).versions:=by
    unfold DJ
    rw[if_pos h3]
    exact(GY _ _ _).2 (.inr rfl)
   simp[h2,h3,h4]
   omega
  ·have h3:isIn w.rollout i w.ends.length=false:=by unfold isIn;simp[h2]
   simp[h2,h3]
end Go.Eng.T
namespace Go.Eng.T
theorem AnN:∀(n:Nat) (k:Int),nums n k++ [k+n]=nums (n+1) k
 | 0,k=>by simp[nums]
 | n+1,k=>by
  have:=AnN n (k+1)
  simp only[nums,List.cons_append]
  rw[show k+((n+1:Nat):Int)=k+1+(n:Int)by omega,this]
  rfl
end Go.Eng.T
namespace Go.Eng.T
end Go.Eng.T
namespace Go.Eng.T
set_option maxRecDepth 20000
end Go.Eng.T
namespace Go.Eng.T
set_option maxRecDepth 20000
end Go.Eng.T
namespace Go.Eng.T
abbrev Ax6 (R:Rel):Prop:=∀(x:Fa) (l:Int),0≤l→l≤4194304→KP x→R [arg (Cm x),I l] [] (I (szl (FI x) l)) []
abbrev Ayb (R:Rel):Prop:=∀x:Fa,FI x≤4194304→R [arg (Cm x)] [] (.agg (Cm x)) []
abbrev Ax8 (R:Rel):Prop:=∀x y:Fa,FI x≤2 ^ 40→FI y≤2 ^ 40→R [arg (Cm x),arg (Cm y)] [] (B (decide (x=y))) []
abbrev Axw (R:Rel):Prop:=∀(x:Event) (l:Int),0≤l→l≤4194304→Aux x→R [arg (BV x),I l] [] (I (szl (ZU x) l)) []
abbrev Axi (R:Rel):Prop:=∀x:Event,ZU x≤4194304→R [arg (BV x)] [] (.agg (BV x)) []
abbrev Axl (R:Rel):Prop:=∀x y:Event,ZU x≤2 ^ 40→ZU y≤2 ^ 40→R [arg (BV x),arg (BV y)] [] (B (decide (x=y))) []
end Go.Eng.T
namespace Go.Eng.T
abbrev AuS (R:Rel):Prop:=∀(x:Ak) (l:Int),0≤l→l≤4194304→Ud x→R [arg (Ac x),I l] [] (I (szl (Ad x) l)) []
abbrev Au5 (R:Rel):Prop:=∀x:Ak,Ad x≤4194304→R [arg (Ac x)] [] (.agg (Ac x)) []
end Go.Eng.T
namespace Go.Eng.T
abbrev AwY (R:Rel):Prop:=∀(x:Dm) (l:Int),0≤l→l≤4194304→Ahm x→R [arg (Am x),I l] [] (I (szl (Bo x) l)) []
abbrev AwP (R:Rel):Prop:=∀x:Dm,Bo x≤4194304→R [arg (Am x)] [] (.agg (Am x)) []
abbrev Aw4 (R:Rel):Prop:=∀x y:Dm,Bo x≤2 ^ 40→Bo y≤2 ^ 40→R [arg (Am x),arg (Am y)] [] (B (decide (x=y))) []
end Go.Eng.T
namespace Go.Eng.T
abbrev AwV (R:Rel):Prop:=∀(x:Dx) (l:Int),0≤l→l≤4194304→ArS x→R [arg (Aj x),I l] [] (I (szl (Et x) l)) []
abbrev Aww (R:Rel):Prop:=∀x:Dx,Et x≤4194304→R [arg (Aj x)] [] (.agg (Aj x)) []
abbrev AwT (R:Rel):Prop:=∀x y:Dx,Et x≤2 ^ 40→Et y≤2 ^ 40→R [arg (Aj x),arg (Aj y)] [] (B (decide (x=y))) []
end Go.Eng.T
namespace Go.Eng.T
abbrev Avc (R:Rel):Prop:=∀x y:Ak,Ad x≤2 ^ 40→Ad y≤2 ^ 40→R [arg (Ac x),arg (Ac y)] [] (B (decide (x=y))) []
end Go.Eng.T
namespace Go.Eng.T
set_option maxRecDepth 20000
end Go.Eng.T
namespace Go.Eng.T
set_option maxRecDepth 20000
set_option maxHeartbeats 4000000
end Go.Eng.T
namespace Go.Eng.T
set_option maxRecDepth 20000
set_option maxHeartbeats 2000000
end Go.Eng.T
namespace Go.Eng.T
set_option maxRecDepth 20000
set_option maxHeartbeats 2000000
theorem Jp {α:Type} {p:α→Bool}:∀(xs:List α) (i:Nat) (x:Int),x∈Dw p xs i↔∃(j:Nat) (h:j<xs.length),x=((i+j:Nat):Int)∧p xs[j]=true
 | [],i,x=>by simp[Dw]
 | a::r,i,x=>by
  have ih:=Jp (p:=p) r (i+1) x
  constructor
  ·intro h
   have h':(p a=true∧x=(i:Int))∨x∈Dw p r (i+1):=by
    unfold Dw at h
    split at h
    ·rename_i hp
     rcases List.mem_cons.1 h with h | h
     ·exact .inl ⟨hp,h⟩
     ·exact .inr h
    ·exact .inr h
   rcases h' with⟨h1,h2⟩ | h1
   ·exact⟨0,by simp,by simpa using h2,by simpa using h1⟩
   ·obtain⟨j,hj,h2,h3⟩:=ih.1 h1
    exact⟨j+1,by simpa using hj,by rw[h2];congr 1;omega,by simpa using h3⟩
  ·rintro ⟨j,hj,h2,h3⟩
   unfold Dw
   cases j with
   | zero=>
    have hp:p a=true:=by simpa using h3
    rw[if_pos hp]
    exact List.mem_cons.2 (.inl (by simpa using h2))
   | succ j=>
    have:x∈Dw p r (i+1):=ih.2 ⟨j,by simpa using hj,by rw[h2];congr 1;omega,by simpa using h3⟩
    split
    ·exact List.mem_cons_of_mem _ this
    ·exact this
theorem AeI {α β:Type} {p:α→Bool} {q:β→Bool}:∀(xs:List α) (ys:List β) (i:Nat),xs.length=ys.length→(∀(j:Nat) (h:j<xs.length) (h':j<ys.length),p xs[j]=true→q ys[j]=true)→(Dw p xs i).length≤(Dw q ys i).length
 | [],_,i,_,_=>by simp[Dw]
 | a::r,[],i,hl,_=>by simp at hl
 | a::r,b::t,i,hl,h=>by
  have ih:=AeI (p:=p) (q:=q) r t (i+1) (by simpa using hl) (fun j h1 h2 h3=>h (j+1) (by simpa using h1) (by simpa using h2) h3)
  have h0:=h 0 (by simp) (by simp)
  unfold Dw
  by_cases hp:p a=true
  ·have hq:q b=true:=by simpa using h0 (by simpa using hp)
   rw[if_pos hp,if_pos hq]
   simp only[List.length_cons];omega
  ·rw[if_neg hp]
   split
   ·simp only[List.length_cons];omega
   ·exact ih
abbrev containsS (R:Rel):Prop:=∀(xs:List Int) (v:Int),xs.length≤maxLen→R [.sl 1 1 xs.length (ints xs),I v] [] (B (decide (v∈xs))) []
theorem AvT {xs:List Int} {v:Int} {j:Nat} (h:xs.length≤j) (hp:¬v∈xs.take j):¬v∈xs:=by rwa [List.take_of_length_le h]at hp
theorem Aj1 (D:Dn):containsS (Body D Mx):=by
 intro xs v hl
 unfold maxLen at hl
 simp -implicitDefEqProofs
 refine Af (fun k s=>∃j,j+k=xs.length∧¬v∈xs.take j∧s=⟨[.sl 1 1 xs.length (ints xs),I v,.undef,I j,.undef,.undef],[]⟩) ?_ (xs.length) _ ⟨0,by simp,by simp,by simp⟩
 intro k s ⟨j,hj,hp,hs⟩
 subst hs
 by_cases hjn:j<xs.length
 ·have hw:IntKind.i64.wrap ((j:Int)+1)=(j+1:Nat):=by rw[Ab (by omega) (by omega)];simp
  by_cases he:xs[j]=v
  ·have hm:v∈xs:=by rw[←he];exact List.getElem_mem hjn
   simp -implicitDefEqProofs [hjn,he,hm]
  ·have hst:¬v∈xs.take (j+1):=by
    have e:xs.take (j+1)=xs.take j++ [xs[j]]:=by simp
    rw[e]
    intro h
    rcases List.mem_append.1 h with h | h
    ·exact hp h
    ·simp at h;exact he h.symm
   simp -implicitDefEqProofs [hjn,he]
   exact⟨k-1,by omega,j+1,by omega,hst,by simp[hw]⟩
 ·have hm:=AvT (by omega) hp
  simp -implicitDefEqProofs [hjn,hm]
theorem AnJ (D:Dn) (hH:containsS (D Ra)):VL (Body D T9):=by
 intro a b ha hb
 have hres:leftOf a b=a.filter (fun v=> !decide (v∈b)):=rfl
 rw[hres]
 generalize hp:(fun v=> !decide (v∈b))=p
 simp -implicitDefEqProofs
 refine Af (fun k s=>∃j o1 o2,j+k=a.length∧s=⟨[.sl 1 1 a.length (ints a),.sl 1 1 b.length (ints b),.undef,.arr 3,I j,.undef,.undef],[.free,o1,o2,.arr 1 0 ((a.take j).filter p).length (ints ((a.take j).filter p))]⟩) ?_ (a.length) _ ⟨0,.free,.free,by simp,by simp⟩
 intro k s ⟨j,o1,o2,hj,hs⟩
 subst hs
 by_cases hjn:j<a.length
 ·have hw:IntKind.i64.wrap ((j:Int)+1)=(j+1:Nat):=by rw[Ab (by omega) (by omega)];simp
  have hst:=Iq (p:=p) hjn
  have hfl:=Kw (p:=p) (xs:=a) (j:=j)
  have hb1:(((a.take j).filter p).length+1)*8≤1099511627776:=by omega
  have hpv:p a[j]= !decide (a[j]∈b):=by rw[←hp]
  simp -implicitDefEqProofs [hjn]
  refine Aa (hH b a[j] (by unfold maxLen;omega)) ?_
  by_cases h2:a[j]∈b
  ·have h3:¬p a[j]=true:=by rw[hpv];simpa using h2
   rw[if_neg h3,List.append_nil]at hst
   simp -implicitDefEqProofs [h2]
   exact⟨k-1,by omega,j+1,by omega,by simp[hw],by rw[hst],by rw[hst]⟩
  ·have h3:p a[j]=true:=by rw[hpv];simpa using h2
   rw[if_pos h3]at hst
   simp -implicitDefEqProofs [h2,hjn,hb1]
   exact⟨k-1,by omega,j+1,by omega,by simp[hw],by rw[hst];simp,by rw[hst]⟩
 ·have e2:=KJ (p:=p) (xs:=a) (j:=j) (by omega)
  simp -implicitDefEqProofs [hjn,e2]
abbrev ZR (R:Rel):Prop:=∀a b:List Int,a.length≤maxLen→b.length≤maxLen→(∀x,x∈a→x∈b)→R [.sl 1 1 a.length (ints a),.sl 1 1 b.length (ints b)] [] (B true) []
theorem Ash (D:Dn) (hH:containsS (D Ra)):ZR (Body D O9):=by
 intro a b ha hb hab
 unfold maxLen at ha
 simp -implicitDefEqProofs
 refine Af (fun k s=>∃j,j+k=a.length∧s=⟨[.sl 1 1 a.length (ints a),.sl 1 1 b.length (ints b),.undef,I j,.undef,.undef],[]⟩) ?_ (a.length) _ ⟨0,by simp,by simp⟩
 intro k s ⟨j,hj,hs⟩
 subst hs
 by_cases hjn:j<a.length
 ·have hw:IntKind.i64.wrap ((j:Int)+1)=(j+1:Nat):=by rw[Ab (by omega) (by omega)];simp
  have hm:=hab a[j] (List.getElem_mem hjn)
  simp -implicitDefEqProofs [hjn]
  refine Aa (hH b a[j] hb) ?_
  simp -implicitDefEqProofs [hm]
  exact⟨k-1,by omega,j+1,by omega,by simp[hw]⟩
 ·simp -implicitDefEqProofs [hjn]
theorem AnY (w:World):(enter w).ends.length=w.ends.length:=by
 unfold enter
 split
 ·simp
 ·rfl
theorem Ami {w:World} {v:Int} {j:Nat} (h:j<w.ends.length) (h':j<(enter w).ends.length) (hv:Ef v w.ends[j]=true):Ef v (enter w).ends[j]=true:=by
 unfold enter
 split
 ·simp only[List.getElem_mapIdx]
  unfold DJ Ef at *
  split
  ·simp only[decide_eq_true_eq]at *
   exact(GY _ _ _).2 (.inl hv)
  ·exact hv
 ·exact hv
theorem AeB (w:World):(leave w).ends.length=w.ends.length:=by simp[leave]
theorem Ara {w:World} {v:Int} (hv:v=w.rollout.version):∀x,x∈Dw (Ef v) (leave w).ends 0→x∈Dw (Ef v) w.ends 0:=by
 intro x hx
 obtain⟨j,hj,h1,h2⟩:=(Jp _ _ _).1 hx
 have hj':j<w.ends.length:=by rw[AeB]at hj;exact hj
 refine(Jp _ _ _).2 ⟨j,hj',h1,?_⟩
 have e:(leave w).ends[j]=Eb w w.ends[j]:=by simp[leave]
 rw[e]at h2
 unfold Eb at h2
 split at h2
 ·unfold Ef Az at h2
  simp only[decide_eq_true_eq]at h2
  have:=(List.mem_filter.1 h2).2
  rw[hv]at this
  simp at this
 ·exact h2
end Go.Eng.T
namespace Go.Eng.T
set_option maxRecDepth 20000
set_option maxHeartbeats 2000000
abbrev Xd (R:Rel):Prop:=∀bs:List Int,AtS bs→R [.sl 3 1 bs.length (u8s bs)] [] (B true) []
theorem AkW (D:Dn) (hBig:AtL (D Aoa)) (hDr:Ho (D Qp)) (hEn:M5 (D XR)) (hLv:Kq (D UI)) (hIW:Jo (D Ad4)) (hSW:Jo (D SF))
 (hIR:ET (D Hf)) (hOn:MW (D Xj)) (hCI:QF (D SL)) (hHv:Ni (D XO)) (hBC:Em (D JB))
 (hLf:VL (D Ajm)) (hWi:ZR (D AfD)):Xd (Body D Ma):=by
 intro bs hb
 simp -implicitDefEqProofs
 refine Aa (hBig bs hb.1) ?_
 by_cases hbig:1048576<bs.length
 ·simp -implicitDefEqProofs [hbig]
 have hB:Axa bs:=⟨by omega,hb.2⟩
 simp -implicitDefEqProofs [hbig]
 obtain⟨w,hsz,pw⟩:=hDr bs hB
 refine Aa (pw) ?_
 have hx1:=AqJ w
 have hx2:w.ends.length≤8000:=by have:=G7 (f:=Ad) (xs:=w.ends);unfold Ap at hsz;omega
 have hy1:=AqS w
 simp -implicitDefEqProofs
 refine Aa (hEn w (by omega)) ?_
 simp -implicitDefEqProofs
 refine Aa (hLv w (by omega)) ?_
 have hxw:AU w=true→AU (enter w)=true:=AiX
 have hyw:AU w=true→AU (leave w)=true:=Aic
 have hcnt:Jj w=true→(TQ (Sz (enter w)) w.ends.length:Int)=countIn w.rollout w.ends.length:=fun h=>AhS h (by omega)
 have hel:=AnY w
 have hll:=AeB w
 have hro:(enter w).rollout=w.rollout:=by unfold enter;split<;>rfl
 have hlr:(leave w).rollout=w.rollout:=rfl
 have hls:(leave w).server=w.server:=rfl
 have hlh:=fun e he hv=>Amt (w:=w) (e:=e) he hv
 have hli:=Ara (w:=w) (v:=w.rollout.version) rfl
 have heh:(Dw (Ef w.rollout.version) w.ends 0).length≤(Dw (Ef w.rollout.version) (enter w).ends 0).length:=AeI _ _ 0 hel.symm (fun j h h' hp=>Ami h h' hp)
 have hcE:Jj w=(AQ w.rollout&& !w.rollout.off):=rfl
 generalize enter w=x at *
 generalize leave w=y at *
 simp -implicitDefEqProofs
 refine Aa (hIW w (by omega)) ?_
 simp -implicitDefEqProofs
 refine Aa (hSW w (by omega)) ?_
 simp -implicitDefEqProofs
 refine Aa (hIW w (by omega)) ?_
 by_cases hw:AU w=true
 rotate_left
 ·simp -implicitDefEqProofs [hw]
  refine Aa (hIR w.rollout (by unfold Ap Bh at hsz;omega)) ?_
  by_cases r1:AQ w.rollout=true
  rotate_left
  ·simp -implicitDefEqProofs [r1]
   have hws:=Fb (w:=w) (by omega)
   refine Aa (hHv y w.rollout.version (by omega)) ?_
   obtain⟨hs,hhs⟩:∃hs,hs=Dw (Ef w.rollout.version) y.ends 0:=⟨_,rfl⟩
   have hhl:hs.length≤y.ends.length:=by rw[hhs];exact Fp _ _
   have hmem:∀x,x∈hs→∃(j:Nat) (h:j<y.ends.length),x=(j:Int)∧AB w.server (Az y.ends[j].versions w.rollout.version)=0:=by
    intro x hx
    rw[hhs]at hx
    obtain⟨j,hj,h1,h2⟩:=(Jp _ _ _).1 hx
    refine⟨j,hj,by simpa using h1,(hlh _ (List.getElem_mem hj) (by simpa[Ef]using h2)).1⟩
   rw[←hhs]at hli⊢
   simp -implicitDefEqProofs
   refine Af (fun k s=>∃j o22 o23,j+k=hs.length∧s=⟨[.undef,.undef,.ptr 6 0,.ptr 13 0,.ptr 20 0,.arr 21,I j,.undef,.undef,.undef,.undef,.undef,.undef],[.arr 1 0 w.server.length (ints w.server),.arr 1 0 w.tags.length (ints w.tags),.arr 4 0 w.ends.length (w.ends.flatMap Ac),.arr 1 0 w.rollout.stages.length (ints w.rollout.stages),.arr 5 0 w.stage.length (w.stage.flatMap Am),.arr 8 0 w.log.length (w.log.flatMap Aj),.var [.arr 0,.arr 1,I w.key,.arr 2,I w.rollout.version,.arr 3,I w.rollout.pos,B w.rollout.off,I w.least,I w.percent,.arr 4,.arr 5,I w.now,I w.hurt,I w.reached],.arr 1 0 x.server.length (ints x.server),.arr 1 0 x.tags.length (ints x.tags),.arr 4 0 x.ends.length (x.ends.flatMap Ac),.arr 1 0 x.rollout.stages.length (ints x.rollout.stages),.arr 5 0 x.stage.length (x.stage.flatMap Am),.arr 8 0 x.log.length (x.log.flatMap Aj),.var [.arr 7,.arr 8,I x.key,.arr 9,I x.rollout.version,.arr 10,I x.rollout.pos,B x.rollout.off,I x.least,I x.percent,.arr 11,.arr 12,I x.now,I x.hurt,I x.reached],.arr 1 0 y.server.length (ints y.server),.arr 1 0 y.tags.length (ints y.tags),.arr 4 0 y.ends.length (y.ends.flatMap Ac),.arr 1 0 y.rollout.stages.length (ints y.rollout.stages),.arr 5 0 y.stage.length (y.stage.flatMap Am),.arr 8 0 y.log.length (y.log.flatMap Aj),.var [.arr 14,.arr 15,I y.key,.arr 16,I y.rollout.version,.arr 17,I y.rollout.pos,B y.rollout.off,I y.least,I y.percent,.arr 18,.arr 19,I y.now,I y.hurt,I y.reached],.arr 1 0 hs.length (ints hs),o22,o23,.free,.free,.free]⟩) ?_ (hs.length) _ ⟨0,.free,.free,by simp,by simp_all⟩
   intro k s ⟨j,o22,o23,hj,hs⟩
   subst hs
   by_cases hjn:j<hs.length
   ·have hw0:IntKind.i64.wrap ((j:Int)+1)=(j+1:Nat):=by rw[Ab (by omega) (by omega)];simp
    obtain⟨i,hi,e1,e2⟩:=hmem hs[j] (List.getElem_mem hjn)
    simp -implicitDefEqProofs [hjn,e1,hi]
    have hvy:=Ir (Gz (w:=y) (by omega) hi)
    have pl:=hLf y.ends[i].versions [w.rollout.version] hvy (by simp)
    have el:leftOf y.ends[i].versions [w.rollout.version]=Az y.ends[i].versions w.rollout.version:=by
     unfold leftOf Az
     congr 1
     funext t
     simp
    have hwl:(Az y.ends[i].versions w.rollout.version).length≤y.ends[i].versions.length:=List.length_filter_le _ _
    rw[el]at pl
    generalize Az y.ends[i].versions w.rollout.version=wv at pl e2 hwl
    simp -implicitDefEqProofs [ints]at pl
    refine Aa (pl) ?_
    simp -implicitDefEqProofs
    refine Aa (hBC w.server wv hws.1 (by omega)) ?_
    rw[e2]
    simp -implicitDefEqProofs
    exact⟨k-1,by omega,j+1,by omega,by simp[hw0]⟩
   simp -implicitDefEqProofs [hjn]
   refine Aa (hHv w w.rollout.version (by omega)) ?_
   simp -implicitDefEqProofs
   refine Aa (hWi hs (Dw (Ef w.rollout.version) w.ends 0) (by unfold maxLen;omega) (by have:=Fp (p:=Ef w.rollout.version) w.ends 0;unfold maxLen;omega) hli) ?_
   simp -implicitDefEqProofs
   refine Aa (hHv x w.rollout.version (by omega)) ?_
   simp -implicitDefEqProofs
   refine Aa (hHv w w.rollout.version (by omega)) ?_
   have heh':((Dw (Ef w.rollout.version) w.ends 0).length:Int)≤(Dw (Ef w.rollout.version) x.ends 0).length:=by omega
   simp -implicitDefEqProofs [heh,heh']
  by_cases r2:w.rollout.off=true
  ·simp -implicitDefEqProofs [r1,r2]
   have hws:=Fb (w:=w) (by omega)
   refine Aa (hHv y w.rollout.version (by omega)) ?_
   obtain⟨hs,hhs⟩:∃hs,hs=Dw (Ef w.rollout.version) y.ends 0:=⟨_,rfl⟩
   have hhl:hs.length≤y.ends.length:=by rw[hhs];exact Fp _ _
   have hmem:∀x,x∈hs→∃(j:Nat) (h:j<y.ends.length),x=(j:Int)∧AB w.server (Az y.ends[j].versions w.rollout.version)=0:=by
    intro x hx
    rw[hhs]at hx
    obtain⟨j,hj,h1,h2⟩:=(Jp _ _ _).1 hx
    refine⟨j,hj,by simpa using h1,(hlh _ (List.getElem_mem hj) (by simpa[Ef]using h2)).1⟩
   rw[←hhs]at hli⊢
   simp -implicitDefEqProofs
   refine Af (fun k s=>∃j o22 o23,j+k=hs.length∧s=⟨[.undef,.undef,.ptr 6 0,.ptr 13 0,.ptr 20 0,.arr 21,I j,.undef,.undef,.undef,.undef,.undef,.undef],[.arr 1 0 w.server.length (ints w.server),.arr 1 0 w.tags.length (ints w.tags),.arr 4 0 w.ends.length (w.ends.flatMap Ac),.arr 1 0 w.rollout.stages.length (ints w.rollout.stages),.arr 5 0 w.stage.length (w.stage.flatMap Am),.arr 8 0 w.log.length (w.log.flatMap Aj),.var [.arr 0,.arr 1,I w.key,.arr 2,I w.rollout.version,.arr 3,I w.rollout.pos,B w.rollout.off,I w.least,I w.percent,.arr 4,.arr 5,I w.now,I w.hurt,I w.reached],.arr 1 0 x.server.length (ints x.server),.arr 1 0 x.tags.length (ints x.tags),.arr 4 0 x.ends.length (x.ends.flatMap Ac),.arr 1 0 x.rollout.stages.length (ints x.rollout.stages),.arr 5 0 x.stage.length (x.stage.flatMap Am),.arr 8 0 x.log.length (x.log.flatMap Aj),.var [.arr 7,.arr 8,I x.key,.arr 9,I x.rollout.version,.arr 10,I x.rollout.pos,B x.rollout.off,I x.least,I x.percent,.arr 11,.arr 12,I x.now,I x.hurt,I x.reached],.arr 1 0 y.server.length (ints y.server),.arr 1 0 y.tags.length (ints y.tags),.arr 4 0 y.ends.length (y.ends.flatMap Ac),.arr 1 0 y.rollout.stages.length (ints y.rollout.stages),.arr 5 0 y.stage.length (y.stage.flatMap Am),.arr 8 0 y.log.length (y.log.flatMap Aj),.var [.arr 14,.arr 15,I y.key,.arr 16,I y.rollout.version,.arr 17,I y.rollout.pos,B y.rollout.off,I y.least,I y.percent,.arr 18,.arr 19,I y.now,I y.hurt,I y.reached],.arr 1 0 hs.length (ints hs),o22,o23,.free,.free,.free]⟩) ?_ (hs.length) _ ⟨0,.free,.free,by simp,by simp_all⟩
   intro k s ⟨j,o22,o23,hj,hs⟩
   subst hs
   by_cases hjn:j<hs.length
   ·have hw0:IntKind.i64.wrap ((j:Int)+1)=(j+1:Nat):=by rw[Ab (by omega) (by omega)];simp
    obtain⟨i,hi,e1,e2⟩:=hmem hs[j] (List.getElem_mem hjn)
    simp -implicitDefEqProofs [hjn,e1,hi]
    have hvy:=Ir (Gz (w:=y) (by omega) hi)
    have pl:=hLf y.ends[i].versions [w.rollout.version] hvy (by simp)
    have el:leftOf y.ends[i].versions [w.rollout.version]=Az y.ends[i].versions w.rollout.version:=by
     unfold leftOf Az
     congr 1
     funext t
     simp
    have hwl:(Az y.ends[i].versions w.rollout.version).length≤y.ends[i].versions.length:=List.length_filter_le _ _
    rw[el]at pl
    generalize Az y.ends[i].versions w.rollout.version=wv at pl e2 hwl
    simp -implicitDefEqProofs [ints]at pl
    refine Aa (pl) ?_
    simp -implicitDefEqProofs
    refine Aa (hBC w.server wv hws.1 (by omega)) ?_
    rw[e2]
    simp -implicitDefEqProofs
    exact⟨k-1,by omega,j+1,by omega,by simp[hw0]⟩
   simp -implicitDefEqProofs [hjn]
   refine Aa (hHv w w.rollout.version (by omega)) ?_
   simp -implicitDefEqProofs
   refine Aa (hWi hs (Dw (Ef w.rollout.version) w.ends 0) (by unfold maxLen;omega) (by have:=Fp (p:=Ef w.rollout.version) w.ends 0;unfold maxLen;omega) hli) ?_
   simp -implicitDefEqProofs
   refine Aa (hHv x w.rollout.version (by omega)) ?_
   simp -implicitDefEqProofs
   refine Aa (hHv w w.rollout.version (by omega)) ?_
   have heh':((Dw (Ef w.rollout.version) w.ends 0).length:Int)≤(Dw (Ef w.rollout.version) x.ends 0).length:=by omega
   simp -implicitDefEqProofs [heh,heh']
  simp -implicitDefEqProofs [r1,r2]
  refine Aa (hOn x (by omega)) ?_
  simp -implicitDefEqProofs
  have pc:=hCI w.rollout w.ends.length (by unfold Ap Bh at hsz;omega)
  simp -implicitDefEqProofs [r2]at pc
  refine Aa (pc) ?_
  have hc:=hcnt (by rw[hcE,r1];simpa using r2)
  rw[hel,hc]
  simp -implicitDefEqProofs
  have hws:=Fb (w:=w) (by omega)
  refine Aa (hHv y w.rollout.version (by omega)) ?_
  obtain⟨hs,hhs⟩:∃hs,hs=Dw (Ef w.rollout.version) y.ends 0:=⟨_,rfl⟩
  have hhl:hs.length≤y.ends.length:=by rw[hhs];exact Fp _ _
  have hmem:∀x,x∈hs→∃(j:Nat) (h:j<y.ends.length),x=(j:Int)∧AB w.server (Az y.ends[j].versions w.rollout.version)=0:=by
   intro x hx
   rw[hhs]at hx
   obtain⟨j,hj,h1,h2⟩:=(Jp _ _ _).1 hx
   refine⟨j,hj,by simpa using h1,(hlh _ (List.getElem_mem hj) (by simpa[Ef]using h2)).1⟩
  rw[←hhs]at hli⊢
  simp -implicitDefEqProofs
  refine Af (fun k s=>∃j o22 o23,j+k=hs.length∧s=⟨[.undef,.undef,.ptr 6 0,.ptr 13 0,.ptr 20 0,.arr 21,I j,.undef,.undef,.undef,.undef,.undef,.undef],[.arr 1 0 w.server.length (ints w.server),.arr 1 0 w.tags.length (ints w.tags),.arr 4 0 w.ends.length (w.ends.flatMap Ac),.arr 1 0 w.rollout.stages.length (ints w.rollout.stages),.arr 5 0 w.stage.length (w.stage.flatMap Am),.arr 8 0 w.log.length (w.log.flatMap Aj),.var [.arr 0,.arr 1,I w.key,.arr 2,I w.rollout.version,.arr 3,I w.rollout.pos,B w.rollout.off,I w.least,I w.percent,.arr 4,.arr 5,I w.now,I w.hurt,I w.reached],.arr 1 0 x.server.length (ints x.server),.arr 1 0 x.tags.length (ints x.tags),.arr 4 0 x.ends.length (x.ends.flatMap Ac),.arr 1 0 x.rollout.stages.length (ints x.rollout.stages),.arr 5 0 x.stage.length (x.stage.flatMap Am),.arr 8 0 x.log.length (x.log.flatMap Aj),.var [.arr 7,.arr 8,I x.key,.arr 9,I x.rollout.version,.arr 10,I x.rollout.pos,B x.rollout.off,I x.least,I x.percent,.arr 11,.arr 12,I x.now,I x.hurt,I x.reached],.arr 1 0 y.server.length (ints y.server),.arr 1 0 y.tags.length (ints y.tags),.arr 4 0 y.ends.length (y.ends.flatMap Ac),.arr 1 0 y.rollout.stages.length (ints y.rollout.stages),.arr 5 0 y.stage.length (y.stage.flatMap Am),.arr 8 0 y.log.length (y.log.flatMap Aj),.var [.arr 14,.arr 15,I y.key,.arr 16,I y.rollout.version,.arr 17,I y.rollout.pos,B y.rollout.off,I y.least,I y.percent,.arr 18,.arr 19,I y.now,I y.hurt,I y.reached],.arr 1 0 hs.length (ints hs),o22,o23,.free,.free,.free]⟩) ?_ (hs.length) _ ⟨0,.free,.free,by simp,by simp_all⟩
  intro k s ⟨j,o22,o23,hj,hs⟩
  subst hs
  by_cases hjn:j<hs.length
  ·have hw0:IntKind.i64.wrap ((j:Int)+1)=(j+1:Nat):=by rw[Ab (by omega) (by omega)];simp
   obtain⟨i,hi,e1,e2⟩:=hmem hs[j] (List.getElem_mem hjn)
   simp -implicitDefEqProofs [hjn,e1,hi]
   have hvy:=Ir (Gz (w:=y) (by omega) hi)
   have pl:=hLf y.ends[i].versions [w.rollout.version] hvy (by simp)
   have el:leftOf y.ends[i].versions [w.rollout.version]=Az y.ends[i].versions w.rollout.version:=by
    unfold leftOf Az
    congr 1
    funext t
    simp
   have hwl:(Az y.ends[i].versions w.rollout.version).length≤y.ends[i].versions.length:=List.length_filter_le _ _
   rw[el]at pl
   generalize Az y.ends[i].versions w.rollout.version=wv at pl e2 hwl
   simp -implicitDefEqProofs [ints]at pl
   refine Aa (pl) ?_
   simp -implicitDefEqProofs
   refine Aa (hBC w.server wv hws.1 (by omega)) ?_
   rw[e2]
   simp -implicitDefEqProofs
   exact⟨k-1,by omega,j+1,by omega,by simp[hw0]⟩
  simp -implicitDefEqProofs [hjn]
  refine Aa (hHv w w.rollout.version (by omega)) ?_
  simp -implicitDefEqProofs
  refine Aa (hWi hs (Dw (Ef w.rollout.version) w.ends 0) (by unfold maxLen;omega) (by have:=Fp (p:=Ef w.rollout.version) w.ends 0;unfold maxLen;omega) hli) ?_
  simp -implicitDefEqProofs
  refine Aa (hHv x w.rollout.version (by omega)) ?_
  simp -implicitDefEqProofs
  refine Aa (hHv w w.rollout.version (by omega)) ?_
  have heh':((Dw (Ef w.rollout.version) w.ends 0).length:Int)≤(Dw (Ef w.rollout.version) x.ends 0).length:=by omega
  simp -implicitDefEqProofs [heh,heh']
 simp -implicitDefEqProofs [hw]
 refine Aa (hIW x (by omega)) ?_
 simp -implicitDefEqProofs [hxw hw]
 refine Aa (hIW y (by omega)) ?_
 simp -implicitDefEqProofs [hyw hw]
 refine Aa (hIR w.rollout (by unfold Ap Bh at hsz;omega)) ?_
 by_cases r1:AQ w.rollout=true
 rotate_left
 ·simp -implicitDefEqProofs [r1]
  have hws:=Fb (w:=w) (by omega)
  refine Aa (hHv y w.rollout.version (by omega)) ?_
  obtain⟨hs,hhs⟩:∃hs,hs=Dw (Ef w.rollout.version) y.ends 0:=⟨_,rfl⟩
  have hhl:hs.length≤y.ends.length:=by rw[hhs];exact Fp _ _
  have hmem:∀x,x∈hs→∃(j:Nat) (h:j<y.ends.length),x=(j:Int)∧AB w.server (Az y.ends[j].versions w.rollout.version)=0:=by
   intro x hx
   rw[hhs]at hx
   obtain⟨j,hj,h1,h2⟩:=(Jp _ _ _).1 hx
   refine⟨j,hj,by simpa using h1,(hlh _ (List.getElem_mem hj) (by simpa[Ef]using h2)).1⟩
  rw[←hhs]at hli⊢
  simp -implicitDefEqProofs
  refine Af (fun k s=>∃j o22 o23,j+k=hs.length∧s=⟨[.undef,.undef,.ptr 6 0,.ptr 13 0,.ptr 20 0,.arr 21,I j,.undef,.undef,.undef,.undef,.undef,.undef],[.arr 1 0 w.server.length (ints w.server),.arr 1 0 w.tags.length (ints w.tags),.arr 4 0 w.ends.length (w.ends.flatMap Ac),.arr 1 0 w.rollout.stages.length (ints w.rollout.stages),.arr 5 0 w.stage.length (w.stage.flatMap Am),.arr 8 0 w.log.length (w.log.flatMap Aj),.var [.arr 0,.arr 1,I w.key,.arr 2,I w.rollout.version,.arr 3,I w.rollout.pos,B w.rollout.off,I w.least,I w.percent,.arr 4,.arr 5,I w.now,I w.hurt,I w.reached],.arr 1 0 x.server.length (ints x.server),.arr 1 0 x.tags.length (ints x.tags),.arr 4 0 x.ends.length (x.ends.flatMap Ac),.arr 1 0 x.rollout.stages.length (ints x.rollout.stages),.arr 5 0 x.stage.length (x.stage.flatMap Am),.arr 8 0 x.log.length (x.log.flatMap Aj),.var [.arr 7,.arr 8,I x.key,.arr 9,I x.rollout.version,.arr 10,I x.rollout.pos,B x.rollout.off,I x.least,I x.percent,.arr 11,.arr 12,I x.now,I x.hurt,I x.reached],.arr 1 0 y.server.length (ints y.server),.arr 1 0 y.tags.length (ints y.tags),.arr 4 0 y.ends.length (y.ends.flatMap Ac),.arr 1 0 y.rollout.stages.length (ints y.rollout.stages),.arr 5 0 y.stage.length (y.stage.flatMap Am),.arr 8 0 y.log.length (y.log.flatMap Aj),.var [.arr 14,.arr 15,I y.key,.arr 16,I y.rollout.version,.arr 17,I y.rollout.pos,B y.rollout.off,I y.least,I y.percent,.arr 18,.arr 19,I y.now,I y.hurt,I y.reached],.arr 1 0 hs.length (ints hs),o22,o23,.free,.free,.free]⟩) ?_ (hs.length) _ ⟨0,.free,.free,by simp,by simp_all⟩
  intro k s ⟨j,o22,o23,hj,hs⟩
  subst hs
  by_cases hjn:j<hs.length
  ·have hw0:IntKind.i64.wrap ((j:Int)+1)=(j+1:Nat):=by rw[Ab (by omega) (by omega)];simp
   obtain⟨i,hi,e1,e2⟩:=hmem hs[j] (List.getElem_mem hjn)
   simp -implicitDefEqProofs [hjn,e1,hi]
   have hvy:=Ir (Gz (w:=y) (by omega) hi)
   have pl:=hLf y.ends[i].versions [w.rollout.version] hvy (by simp)
   have el:leftOf y.ends[i].versions [w.rollout.version]=Az y.ends[i].versions w.rollout.version:=by
    unfold leftOf Az
    congr 1
    funext t
    simp
   have hwl:(Az y.ends[i].versions w.rollout.version).length≤y.ends[i].versions.length:=List.length_filter_le _ _
   rw[el]at pl
   generalize Az y.ends[i].versions w.rollout.version=wv at pl e2 hwl
   simp -implicitDefEqProofs [ints]at pl
   refine Aa (pl) ?_
   simp -implicitDefEqProofs
   refine Aa (hBC w.server wv hws.1 (by omega)) ?_
   rw[e2]
   simp -implicitDefEqProofs
   exact⟨k-1,by omega,j+1,by omega,by simp[hw0]⟩
  simp -implicitDefEqProofs [hjn]
  refine Aa (hHv w w.rollout.version (by omega)) ?_
  simp -implicitDefEqProofs
  refine Aa (hWi hs (Dw (Ef w.rollout.version) w.ends 0) (by unfold maxLen;omega) (by have:=Fp (p:=Ef w.rollout.version) w.ends 0;unfold maxLen;omega) hli) ?_
  simp -implicitDefEqProofs
  refine Aa (hHv x w.rollout.version (by omega)) ?_
  simp -implicitDefEqProofs
  refine Aa (hHv w w.rollout.version (by omega)) ?_
  have heh':((Dw (Ef w.rollout.version) w.ends 0).length:Int)≤(Dw (Ef w.rollout.version) x.ends 0).length:=by omega
  simp -implicitDefEqProofs [heh,heh']
 by_cases r2:w.rollout.off=true
 ·simp -implicitDefEqProofs [r1,r2]
  have hws:=Fb (w:=w) (by omega)
  refine Aa (hHv y w.rollout.version (by omega)) ?_
  obtain⟨hs,hhs⟩:∃hs,hs=Dw (Ef w.rollout.version) y.ends 0:=⟨_,rfl⟩
  have hhl:hs.length≤y.ends.length:=by rw[hhs];exact Fp _ _
  have hmem:∀x,x∈hs→∃(j:Nat) (h:j<y.ends.length),x=(j:Int)∧AB w.server (Az y.ends[j].versions w.rollout.version)=0:=by
   intro x hx
   rw[hhs]at hx
   obtain⟨j,hj,h1,h2⟩:=(Jp _ _ _).1 hx
   refine⟨j,hj,by simpa using h1,(hlh _ (List.getElem_mem hj) (by simpa[Ef]using h2)).1⟩
  rw[←hhs]at hli⊢
  simp -implicitDefEqProofs
  refine Af (fun k s=>∃j o22 o23,j+k=hs.length∧s=⟨[.undef,.undef,.ptr 6 0,.ptr 13 0,.ptr 20 0,.arr 21,I j,.undef,.undef,.undef,.undef,.undef,.undef],[.arr 1 0 w.server.length (ints w.server),.arr 1 0 w.tags.length (ints w.tags),.arr 4 0 w.ends.length (w.ends.flatMap Ac),.arr 1 0 w.rollout.stages.length (ints w.rollout.stages),.arr 5 0 w.stage.length (w.stage.flatMap Am),.arr 8 0 w.log.length (w.log.flatMap Aj),.var [.arr 0,.arr 1,I w.key,.arr 2,I w.rollout.version,.arr 3,I w.rollout.pos,B w.rollout.off,I w.least,I w.percent,.arr 4,.arr 5,I w.now,I w.hurt,I w.reached],.arr 1 0 x.server.length (ints x.server),.arr 1 0 x.tags.length (ints x.tags),.arr 4 0 x.ends.length (x.ends.flatMap Ac),.arr 1 0 x.rollout.stages.length (ints x.rollout.stages),.arr 5 0 x.stage.length (x.stage.flatMap Am),.arr 8 0 x.log.length (x.log.flatMap Aj),.var [.arr 7,.arr 8,I x.key,.arr 9,I x.rollout.version,.arr 10,I x.rollout.pos,B x.rollout.off,I x.least,I x.percent,.arr 11,.arr 12,I x.now,I x.hurt,I x.reached],.arr 1 0 y.server.length (ints y.server),.arr 1 0 y.tags.length (ints y.tags),.arr 4 0 y.ends.length (y.ends.flatMap Ac),.arr 1 0 y.rollout.stages.length (ints y.rollout.stages),.arr 5 0 y.stage.length (y.stage.flatMap Am),.arr 8 0 y.log.length (y.log.flatMap Aj),.var [.arr 14,.arr 15,I y.key,.arr 16,I y.rollout.version,.arr 17,I y.rollout.pos,B y.rollout.off,I y.least,I y.percent,.arr 18,.arr 19,I y.now,I y.hurt,I y.reached],.arr 1 0 hs.length (ints hs),o22,o23,.free,.free,.free]⟩) ?_ (hs.length) _ ⟨0,.free,.free,by simp,by simp_all⟩
  intro k s ⟨j,o22,o23,hj,hs⟩
  subst hs
  by_cases hjn:j<hs.length
  ·have hw0:IntKind.i64.wrap ((j:Int)+1)=(j+1:Nat):=by rw[Ab (by omega) (by omega)];simp
   obtain⟨i,hi,e1,e2⟩:=hmem hs[j] (List.getElem_mem hjn)
   simp -implicitDefEqProofs [hjn,e1,hi]
   have hvy:=Ir (Gz (w:=y) (by omega) hi)
   have pl:=hLf y.ends[i].versions [w.rollout.version] hvy (by simp)
   have el:leftOf y.ends[i].versions [w.rollout.version]=Az y.ends[i].versions w.rollout.version:=by
    unfold leftOf Az
    congr 1
    funext t
    simp
   have hwl:(Az y.ends[i].versions w.rollout.version).length≤y.ends[i].versions.length:=List.length_filter_le _ _
   rw[el]at pl
   generalize Az y.ends[i].versions w.rollout.version=wv at pl e2 hwl
   simp -implicitDefEqProofs [ints]at pl
   refine Aa (pl) ?_
   simp -implicitDefEqProofs
   refine Aa (hBC w.server wv hws.1 (by omega)) ?_
   rw[e2]
   simp -implicitDefEqProofs
   exact⟨k-1,by omega,j+1,by omega,by simp[hw0]⟩
  simp -implicitDefEqProofs [hjn]
  refine Aa (hHv w w.rollout.version (by omega)) ?_
  simp -implicitDefEqProofs
  refine Aa (hWi hs (Dw (Ef w.rollout.version) w.ends 0) (by unfold maxLen;omega) (by have:=Fp (p:=Ef w.rollout.version) w.ends 0;unfold maxLen;omega) hli) ?_
  simp -implicitDefEqProofs
  refine Aa (hHv x w.rollout.version (by omega)) ?_
  simp -implicitDefEqProofs
  refine Aa (hHv w w.rollout.version (by omega)) ?_
  have heh':((Dw (Ef w.rollout.version) w.ends 0).length:Int)≤(Dw (Ef w.rollout.version) x.ends 0).length:=by omega
  simp -implicitDefEqProofs [heh,heh']
 simp -implicitDefEqProofs [r1,r2]
 refine Aa (hOn x (by omega)) ?_
 simp -implicitDefEqProofs
 have pc:=hCI w.rollout w.ends.length (by unfold Ap Bh at hsz;omega)
 simp -implicitDefEqProofs [r2]at pc
 refine Aa (pc) ?_
 have hc:=hcnt (by rw[hcE,r1];simpa using r2)
 rw[hel,hc]
 simp -implicitDefEqProofs
 have hws:=Fb (w:=w) (by omega)
 refine Aa (hHv y w.rollout.version (by omega)) ?_
 obtain⟨hs,hhs⟩:∃hs,hs=Dw (Ef w.rollout.version) y.ends 0:=⟨_,rfl⟩
 have hhl:hs.length≤y.ends.length:=by rw[hhs];exact Fp _ _
 have hmem:∀x,x∈hs→∃(j:Nat) (h:j<y.ends.length),x=(j:Int)∧AB w.server (Az y.ends[j].versions w.rollout.version)=0:=by
  intro x hx
  rw[hhs]at hx
  obtain⟨j,hj,h1,h2⟩:=(Jp _ _ _).1 hx
  refine⟨j,hj,by simpa using h1,(hlh _ (List.getElem_mem hj) (by simpa[Ef]using h2)).1⟩
 rw[←hhs]at hli⊢
 simp -implicitDefEqProofs
 refine Af (fun k s=>∃j o22 o23,j+k=hs.length∧s=⟨[.undef,.undef,.ptr 6 0,.ptr 13 0,.ptr 20 0,.arr 21,I j,.undef,.undef,.undef,.undef,.undef,.undef],[.arr 1 0 w.server.length (ints w.server),.arr 1 0 w.tags.length (ints w.tags),.arr 4 0 w.ends.length (w.ends.flatMap Ac),.arr 1 0 w.rollout.stages.length (ints w.rollout.stages),.arr 5 0 w.stage.length (w.stage.flatMap Am),.arr 8 0 w.log.length (w.log.flatMap Aj),.var [.arr 0,.arr 1,I w.key,.arr 2,I w.rollout.version,.arr 3,I w.rollout.pos,B w.rollout.off,I w.least,I w.percent,.arr 4,.arr 5,I w.now,I w.hurt,I w.reached],.arr 1 0 x.server.length (ints x.server),.arr 1 0 x.tags.length (ints x.tags),.arr 4 0 x.ends.length (x.ends.flatMap Ac),.arr 1 0 x.rollout.stages.length (ints x.rollout.stages),.arr 5 0 x.stage.length (x.stage.flatMap Am),.arr 8 0 x.log.length (x.log.flatMap Aj),.var [.arr 7,.arr 8,I x.key,.arr 9,I x.rollout.version,.arr 10,I x.rollout.pos,B x.rollout.off,I x.least,I x.percent,.arr 11,.arr 12,I x.now,I x.hurt,I x.reached],.arr 1 0 y.server.length (ints y.server),.arr 1 0 y.tags.length (ints y.tags),.arr 4 0 y.ends.length (y.ends.flatMap Ac),.arr 1 0 y.rollout.stages.length (ints y.rollout.stages),.arr 5 0 y.stage.length (y.stage.flatMap Am),.arr 8 0 y.log.length (y.log.flatMap Aj),.var [.arr 14,.arr 15,I y.key,.arr 16,I y.rollout.version,.arr 17,I y.rollout.pos,B y.rollout.off,I y.least,I y.percent,.arr 18,.arr 19,I y.now,I y.hurt,I y.reached],.arr 1 0 hs.length (ints hs),o22,o23,.free,.free,.free]⟩) ?_ (hs.length) _ ⟨0,.free,.free,by simp,by simp_all⟩
 intro k s ⟨j,o22,o23,hj,hs⟩
 subst hs
 by_cases hjn:j<hs.length
 ·have hw0:IntKind.i64.wrap ((j:Int)+1)=(j+1:Nat):=by rw[Ab (by omega) (by omega)];simp
  obtain⟨i,hi,e1,e2⟩:=hmem hs[j] (List.getElem_mem hjn)
  simp -implicitDefEqProofs [hjn,e1,hi]
  have hvy:=Ir (Gz (w:=y) (by omega) hi)
  have pl:=hLf y.ends[i].versions [w.rollout.version] hvy (by simp)
  have el:leftOf y.ends[i].versions [w.rollout.version]=Az y.ends[i].versions w.rollout.version:=by
   unfold leftOf Az
   congr 1
   funext t
   simp
  have hwl:(Az y.ends[i].versions w.rollout.version).length≤y.ends[i].versions.length:=List.length_filter_le _ _
  rw[el]at pl
  generalize Az y.ends[i].versions w.rollout.version=wv at pl e2 hwl
  simp -implicitDefEqProofs [ints]at pl
  refine Aa (pl) ?_
  simp -implicitDefEqProofs
  refine Aa (hBC w.server wv hws.1 (by omega)) ?_
  rw[e2]
  simp -implicitDefEqProofs
  exact⟨k-1,by omega,j+1,by omega,by simp[hw0]⟩
 simp -implicitDefEqProofs [hjn]
 refine Aa (hHv w w.rollout.version (by omega)) ?_
 simp -implicitDefEqProofs
 refine Aa (hWi hs (Dw (Ef w.rollout.version) w.ends 0) (by unfold maxLen;omega) (by have:=Fp (p:=Ef w.rollout.version) w.ends 0;unfold maxLen;omega) hli) ?_
 simp -implicitDefEqProofs
 refine Aa (hHv x w.rollout.version (by omega)) ?_
 simp -implicitDefEqProofs
 refine Aa (hHv w w.rollout.version (by omega)) ?_
 have heh':((Dw (Ef w.rollout.version) w.ends 0).length:Int)≤(Dw (Ef w.rollout.version) x.ends 0).length:=by omega
 simp -implicitDefEqProofs [heh,heh']
end Go.Eng.T
namespace Go.Eng
open Go.Lib Go.RowKit
inductive XW (Ai:Nat→Option FuncId) (w:World):List V→List Value→Prop where
 | nil:XW Ai w [] []
 | sc {v:Value} {azs:List V} {xs:List Value} (h:XW Ai w azs xs):XW Ai w (.sc v::azs) (v::xs)
 | sl {e len:Nat} {cells:List V} {x:Value} {azs:List V} {xs:List Value} (h1:Rd Ai w (· <w.heap.size) (.sl 1 e len cells) x) (h:XW Ai w azs xs):XW Ai w (.sl 1 e len cells::azs) (x::xs)
def Aqn:V→Prop
 | .sc _=>True
 | .sl 1 _ _ _=>True
 | _=>False
theorem AmN {F:Fr} {w:World} {β:Nat→Base} {own:Nat→Option (Nat×List Nat)} {H:Hp} (hw:w=F.w0):∀ {azs:List V} {xs:List Value},(∀a,a∈azs→Aqn a)→Pw (VR F β own H w) azs xs→XW F.Ai w azs xs
 | [],xs,_,h=>by rw[h.Nf];exact .nil
 | a::azs,xs,hp,h=>by
  obtain⟨x,r,rfl,h1,h2⟩:=h.JF
  have ih:=AmN hw (fun a ha=>hp a (List.mem_cons_of_mem _ ha)) h2
  have ha:=hp a (by simp)
  cases h1 with
  | sc h=>exact .sc ih
  | @rd fl e len cells _ h3 h=>
   match fl,ha,h with
   | 1,_,h=>exact .sl (Rd.move h (fun b hb=>by rw[hw];exact hb.1) (fun _ _=>rfl)) ih
  | _=>exact absurd ha (by simp[Aqn])
end Go.Eng
namespace Go.Eng
open Go.Lib Go.RowKit Go.Sort
def iv (l:List Int):List Value:=l.map (Value.int .i64)
@[simp] theorem Aqp (l:List Int):(iv l).length=l.length:=by simp[iv]
theorem Kh (l:List Int):EQ (iv l):=by
 intro v hv
 simp only[iv,List.mem_map]at hv
 obtain⟨x,_,rfl⟩:=hv
 rfl
structure Kept (F:Fr) (w':World):Prop where
 size:F.w0.heap.size≤w'.heap.size
 os:w'.os=F.w0.os
 tape:w'.tape=F.w0.tape
 output:w'.output=F.w0.output
 keep:∀b,b<F.w0.heap.size→F.own0 b=none→w'.heap[b]? =F.w0.heap[b]?
theorem Kept.refl (F:Fr):Kept F F.w0:=⟨Nat.le_refl _,rfl,rfl,rfl,fun _ _ _=>rfl⟩
theorem AhG {F:Fr} {given:List O} {k:Nat} {l:List Int} {x:Value} (inv:Inv F F.β0 F.own0 (hp given) F.w0) (hk:hp given k= .arr 1 0 l.length (T.ints l)) (h:VR F F.β0 F.own0 (hp given) F.w0 (.arr k) x):
 ∃a cap,x= .slice a l.length cap∧(l.length≤cap∧cap≤9223372036854775807)∧a=(F.β0 k).a∧cap=(F.β0 k).cap∧(cap=0∨∃b o,a=some ⟨b,o,none⟩∧F.own0 b=some (k,[])∧Has F.w0 b o (iv l) cap):=by
 have ho:=inv.objs k
 rw[hk]at ho
 obtain⟨vs,h1,h2,h3,h4,h5⟩:=ho
 have hv:vs=iv l:=by
  apply List.ext_getElem?
  intro i
  by_cases hi:i<l.length
  ·have hlen:vs.length=l.length:=by rw[h1];simp
   have e1:vs[i]? =some (vs[i]'(by omega)):=by simp[hlen,hi]
   have:=h5 i (.sc (.int .i64 l[i])) _ (by simp[hi]) e1
   rw[e1]
   generalize vs[i]'(by omega)=y at this
   cases this with
   | sc _=>simp[iv,hi]
  ·rw[List.getElem?_eq_none (by rw[h1];simp;omega),List.getElem?_eq_none (by simp;omega)]
 subst hv
 cases h with
 | @arr _ e t len cs he=>
  rw[hk]at he
  simp only[Ah,Option.some.injEq,Prod.mk.injEq]at he
  obtain⟨rfl,rfl,rfl,rfl⟩:=he
  refine⟨_,_,rfl,h3,rfl,rfl,?_⟩
  rcases h4 with h4 | ⟨b,o,h4,h6,h7⟩
  ·exact .inl (by omega)
  ·exact .inr ⟨b,o,h4,h6,by rw[Nat.mul_one]at h7;exact h7⟩
 | goneA hd=>rw[hk]at hd;cases hd
theorem AmO {P:Program} {Ai:Nat→Option FuncId} {G:Gl} {g:Nat} {args:List V} {given:List O} {l':List Int}
 (h:∀id,Ai g=some id→∀F:Fr,F.Ai=Ai→Inv F F.β0 F.own0 (hp given) F.w0→∀xs,Pw (VR F F.β0 F.own0 (hp given) F.w0) args xs→
  Calls P id xs.toArray F.w0 fun e w'=>∃a cap,e= .returned (.slice a l'.length cap)∧(l'.length≤cap∧cap≤9223372036854775807)∧(cap=0∨∃b o,a=some ⟨b,o,none⟩∧Has w' b o (iv l') cap∧(b<F.w0.heap.size→F.own0 b≠none))∧Kept F w'):
 Den P Ai G g args given (.sl 0 1 l'.length (T.ints l')) (given.map fun _=> .dead):=by
 intro id hid F hF hG hb ht hn inv xs hx
 refine(h id hid F hF inv xs hx).mono fun e w' ⟨a,cap,he,hl,hm,hk⟩=> ?_
 subst he
 have hcs:∀own (i:Nat) (v:V) (x:Value),(T.ints l')[i]? =some v→(iv l')[i]? =some x→Ow F.Ai w' own (fun _ b=>F.G b) 0 F.ngiven ([]++ [i]) v x:=by
  intro own i v x h1 h2
  by_cases hi:i<l'.length
  ·rw[T.ints_at hi]at h1
   simp only[iv,List.getElem?_map,hi,List.getElem?_eq_getElem,Option.map_some,Option.some.injEq]at h1 h2
   subst h1 h2
   exact .sc rfl
  ·rw[List.getElem?_eq_none (by simp;omega)]at h1;cases h1
 rcases hm with hm | ⟨b,o,rfl,hhas,hown⟩
 ·refine⟨fun _=>none,⟨hk.size,hk.os,hk.tape,hk.output,hk.keep,fun b p h=>(by cases h),.own hl (by simp) (by simp) (.inl (by omega)) (hcs _),by simp[hn],fun i o hi=> ?_⟩⟩
  simp only[List.getElem?_map,Option.map_eq_some_iff]at hi
  obtain⟨_,_,rfl⟩:=hi
  trivial
 ·refine⟨fun b'=>if b' =b then some (F.ngiven,[])else none,⟨hk.size,hk.os,hk.tape,hk.output,hk.keep,fun b' p h=> ?_,.own hl (by simp) (by simp) (.inr ⟨b,o,rfl,if_pos rfl,by rw[Nat.mul_one];exact hhas⟩) (hcs _),by simp[hn],fun i o' hi=> ?_⟩⟩
  ·by_cases e:b' =b
   ·subst e;exact⟨QD hhas,hown⟩
   ·rw[if_neg e]at h;cases h
  ·simp only[List.getElem?_map,Option.map_eq_some_iff]at hi
   obtain⟨_,_,rfl⟩:=hi
   trivial
end Go.Eng
namespace Go.Eng
open Go.Lib Go.RowKit Go.Sort
theorem AfP (w:World) (b:Nat) (f:Array Value→Array Value):(mapBlock w b f).heap[b]? =(w.heap[b]?).map (onCells f):=by
 simp[mapBlock,Array.getElem?_modify]
theorem AgF (w:World) {b k:Nat} (f:Array Value→Array Value) (h:k≠b):(mapBlock w b f).heap[k]? =w.heap[k]? :=by
 simp[mapBlock,Array.getElem?_modify,Ne.symm h]
theorem Acb (w:World) (b:Nat) (f:Array Value→Array Value):(mapBlock w b f).heap.size=w.heap.size:=by simp[mapBlock]
theorem Alp {w w':World} {b o n:Nat} {vs vs':List Value} {f:Array Value→Array Value} (h:Has w b o vs n) (hw:w'.heap[b]? =(w.heap[b]?).map (onCells f)) (hs:∀c,(f c).size=c.size)
 (hf:∀c:Array Value,o+n≤c.size→(∀i,i<vs.length→c[o+i]? =vs[i]?)→∀i,i<vs'.length→(f c)[o+i]? =vs'[i]?) (ho:EQ vs') (hl:vs'.length≤n):Has w' b o vs' n:=by
 obtain⟨_,c,et,hb,h2,h3,h4⟩:=h
 exact⟨ho,f c,et,by rw[hw,hb];rfl,by rw[hs];exact h2,hl,hf c h2 h4⟩
end Go.Eng
namespace Go.Eng
open Go.Lib Go.RowKit Go.Sort
def Mj:Nat→List Value→Array Value→Array Value
 | _,[],c=>c
 | o,v::r,c=>Mj (o+1) r (c.setIfInBounds o v)
theorem Gc:∀(vs:List Value) (o:Nat) (c:Array Value),(Mj o vs c).size=c.size
 | [],_,_=>rfl
 | v::r,o,c=>by rw[Mj,Gc r];simp
theorem IA:∀(vs:List Value) (o k:Nat) (c:Array Value),k<o∨o+vs.length≤k→(Mj o vs c)[k]? =c[k]?
 | [],_,_,_,_=>rfl
 | v::r,o,k,c,h=>by
  simp only[List.length_cons]at h
  rw[Mj,IA r (o+1) k _ (by omega),Array.getElem?_setIfInBounds,if_neg (by omega)]
theorem QI:∀(vs:List Value) (o i:Nat) (c:Array Value),i<vs.length→o+vs.length≤c.size→(Mj o vs c)[o+i]? =vs[i]?
 | v::r,o,0,c,_,hc=>by
  simp only[List.length_cons]at hc
  rw[Mj,IA r (o+1) (o+0) _ (by omega),Array.getElem?_setIfInBounds,if_pos (by omega),if_pos (by omega)]
  rfl
 | v::r,o,i+1,c,hi,hc=>by
  simp only[List.length_cons]at hc hi
  rw[Mj,show o+(i+1)=o+1+i by omega,QI r (o+1) i _ (by omega) (by simp;omega)]
  simp
theorem GH (b:Nat):∀(vs:List Value) (o:Nat) (w:World),w.setCells b o vs=mapBlock w b (Mj o vs)
 | [],o,w=>(mapBlock_id w b _ fun _ _ _ _=>rfl).symm
 | v::r,o,w=>by
  rw[World.setCells,GH b r,setCell_eq,mapBlock_mapBlock]
  rfl
def Aba (l:List Int) (i:Nat) (v:Int):List Int:=l.take i++v::l.drop i
theorem AqH {l:List Int} {i:Nat} {v:Int} (hi:i≤l.length):(Aba l i v).length=l.length+1:=by simp[Aba];omega
theorem Aqw {l:List Int} {i j:Nat} {v:Int} (hi:i≤l.length):(Aba l i v)[j]? =if j<i then l[j]? else if j=i then some v else l[j-1]? :=by
 unfold Aba
 have hm:min i l.length=i:=by omega
 rw[List.getElem?_append]
 simp only[List.length_take,hm]
 split
 ·rename_i h;rw[List.getElem?_take,if_pos h]
 ·split
  ·rename_i h1 h2;subst h2;simp
  ·rename_i h1 h2
   obtain⟨d,rfl⟩:∃d,j=i+(d+1):=⟨j-i-1,by omega⟩
   rw[show i+(d+1)-i=d+1 by omega,List.getElem?_cons_succ,List.getElem?_drop]
   congr 1
theorem AjX {l:List Int} {j:Nat}:(iv l)[j]? =(l[j]?).map (Value.int .i64):=by simp[iv]
theorem ApG {l:List Int} {i j:Nat} {v:Int} (hi:i≤l.length):(iv (Aba l i v))[j]? =if j<i then(iv l)[j]? else if j=i then some (.int .i64 v)else(iv l)[j-1]? :=by
 rw[AjX,Aqw hi]
 split
 ·rw[AjX]
 ·split
  ·rfl
  ·rw[AjX]
theorem Ah3 {w:World} {b o n:Nat} {vs:List Value} (h:Has w b o vs n) {j:Nat} {v:Value} (hj:vs[j]? =some v):w.cell? ⟨b,o+j,none⟩=some v:=by
 have hl:=(List.getElem?_eq_some_iff.1 hj).1
 rw[(CZ h).2 j hl,hj]
theorem AhO {w:World} {b o n:Nat} {vs:List Value} (h:Has w b o vs n) {j:Nat} (hj:j<n):(w.cell? ⟨b,o+j,none⟩).isSome=true:=by
 obtain⟨_,c,et,hb,h2,_,_⟩:=h
 unfold World.cell?
 simp only[hb]
 have:o+j<c.size:=by omega
 simp[this]
theorem Wy {w:World} {b o n:Nat} {vs:List Value} (h:Has w b o vs n) (x:Nat):w.frozen? ⟨b,x,none⟩=false:=by
 obtain⟨_,c,et,hb,_⟩:=h
 unfold World.frozen?
 simp only[hb]
 simp
theorem Aep {w:World} {b o n:Nat} {vs:List Value} (h:Has w b o vs n):∃t k,w.shape? b=some (t,k)∧o+n≤k:=by
 obtain⟨_,c,et,hb,h2,_⟩:=h
 exact⟨et,c.size,by unfold World.shape?;simp only[hb],h2⟩
theorem alloc_at (w:World) (o:Obj):(w.alloc o).heap[w.heap.size]? =some o:=by
 show(w.heap.push o)[w.heap.size]? =some o
 rw[Array.getElem?_push,if_pos rfl]
theorem AeV (w:World) (o:Obj) {k:Nat} (h:k<w.heap.size):(w.alloc o).heap[k]? =w.heap[k]? :=by
 show(w.heap.push o)[k]? =w.heap[k]?
 rw[Array.getElem?_push,if_neg (by omega)]
theorem Aa6 (w:World) (o:Obj):(w.alloc o).heap.size=w.heap.size+1:=Array.size_push _
theorem UX (n:Nat):(Builtin.zeroCells (Value.int .i64 0).cells n).size=n:=by simp[Builtin.zeroCells,Value.cells]
theorem Aei {l:List Int} {off i n:Nat} {v:Int} (hi:i≤l.length) (hn:l.length+1≤n) (c:Array Value) (hc:off+n≤c.size) (hl:∀j,j<i→c[off+j]? =(iv l)[j]?) (j:Nat) (hj:j<l.length+1):
 (Mj (off+i) (iv [v]) (Mj (off+(i+1)) ((iv l).drop i) c))[off+j]? =(iv (Aba l i v))[j]? :=by
 rw[ApG hi]
 by_cases h1:j<i
 ·rw[if_pos h1,IA _ _ _ _ (.inl (by omega)),IA _ _ _ _ (.inl (by omega)),hl j h1]
 ·rw[if_neg h1]
  by_cases h2:j=i
  ·subst h2
   rw[if_pos rfl]
   have:=QI (iv [v]) (off+j) 0 (Mj (off+(j+1)) ((iv l).drop j) c) (by simp) (by rw[Gc];simp;omega)
   simp only[Nat.add_zero]at this
   rw[this];rfl
  ·rw[if_neg h2,IA _ _ _ _ (.inr (by simp;omega))]
   have:=QI ((iv l).drop i) (off+(i+1)) (j-(i+1)) c (by simp;omega) (by simp;omega)
   rw[show off+(i+1)+(j-(i+1))=off+j by omega]at this
   rw[this,List.getElem?_drop]
   congr 1;omega
theorem AhA {F:Fr} {b:Nat} {f:Array Value→Array Value} {w:World} (hh:w.heap=F.w0.heap) (ho:w.os=F.w0.os) (ht:w.tape=F.w0.tape) (hu:w.output=F.w0.output) (hb:F.own0 b≠none):Kept F (mapBlock w b f):=by
 refine⟨by rw[Acb,hh];exact Nat.le_refl _,ho,ht,hu,fun b' h1 h2=> ?_⟩
 have hne:b'≠b:=by intro e;rw[e]at h2;exact hb h2
 rw[AgF _ _ hne,hh]
theorem Akq {P:Program} {Ai:Nat→Option FuncId} {G:Gl} {g k:Nat} {t3:TypeId} (hid:Ai g=some k)
 (hShift:∀(b off n c i vb voff m vc:Nat) (cs vs:List Value) (w:World),i<n→0<m→n+m≤c→c≤9223372036854775807→vb≠b→cs.length=n→vs.length=m→
  (∀j v,cs[j]? =some v→w.cell? ⟨b,off+j,none⟩=some v)→(∀j,j<n+m→(w.cell? ⟨b,off+j,none⟩).isSome=true)→(∀j,j<n+m→w.frozen? ⟨b,off+j,none⟩=false)→
  (∀j v,vs[j]? =some v→w.cell? ⟨vb,voff+j,none⟩=some v)→(∀v∈cs,v.oneCell' =true)→(∀v∈vs,v.oneCell' =true)→
  ∀(tA tB:TypeId) (kA kB:Nat),w.shape? vb=some (tA,kA)→w.shape? b=some (tB,kB)→kB≠0→w.frozen? ⟨vb,voff,none⟩=false→w.frozen? ⟨vb,kA,none⟩=false→
  Calls P k #[.slice (some ⟨b,off,none⟩) n c,.int .i64 i,.slice (some ⟨vb,voff,none⟩) m vc] w fun e w'=>
   e= .returned (.slice (some ⟨b,off,none⟩) (n+m) c)∧w' =(w.drew.setCells b (off+(i+m)) (cs.drop i)).setCells b (off+i) vs)
 (hEndRoom:∀(b off n c vb voff m vc:Nat) (vs:List Value) (w:World),0<m→n+m≤c→c≤9223372036854775807→vs.length=m→
  (∀j,j<m→(w.cell? ⟨b,off+n+j,none⟩).isSome=true)→(∀j,j<m→w.frozen? ⟨b,off+n+j,none⟩=false)→
  (∀j v,vs[j]? =some v→w.cell? ⟨vb,voff+j,none⟩=some v)→(∀v∈vs,v.oneCell' =true)→
  Calls P k #[.slice (some ⟨b,off,none⟩) n c,.int .i64 n,.slice (some ⟨vb,voff,none⟩) m vc] w fun e w'=>
   e= .returned (.slice (some ⟨b,off,none⟩) (n+m) c)∧w' =w.setCells b (off+n) vs)
 (hEndGrow:∀(base:Option Addr) (n c vb voff m vc:Nat) (cs vs:List Value) (w:World),0<m→n≤c→c<n+m→(n+m)*8≤140737488355328→cs.length=n→vs.length=m→(base=none→n=0)→
  (∀a,base=some a→∀j v,cs[j]? =some v→w.cell? (a.add j)=some v)→(∀j v,vs[j]? =some v→w.cell? ⟨vb,voff+j,none⟩=some v)→(∀v∈vs,v.oneCell' =true)→
  Calls P k #[.slice base n c,.int .i64 n,.slice (some ⟨vb,voff,none⟩) m vc] w fun e w'=>
   e= .returned (.slice (some ⟨w.heap.size,0,none⟩) (n+m) (grownCap w (n+m) c t3))∧
   w' =w.drew.alloc (.cells ((cs++vs).toArray++Builtin.zeroCells (Value.int .i64 0).cells (grownCap w (n+m) c t3-(n+m))) t3))
 (hGrow:∀(b off n c i vb voff m vc:Nat) (cs vs:List Value) (w:World),i<n→0<m→n≤c→c<n+m→(n+m)*8≤140737488355328→cs.length=n→vs.length=m→
  (∀j v,cs[j]? =some v→w.cell? ⟨b,off+j,none⟩=some v)→(∀j v,vs[j]? =some v→w.cell? ⟨vb,voff+j,none⟩=some v)→(∀v∈cs,v.oneCell' =true)→(∀v∈vs,v.oneCell' =true)→
  Calls P k #[.slice (some ⟨b,off,none⟩) n c,.int .i64 i,.slice (some ⟨vb,voff,none⟩) m vc] w fun e w'=>
   e= .returned (.slice (some ⟨w.heap.size,0,none⟩) (n+m) (grownCap w (n+m) c t3))∧
   w' =(((w.alloc (.cells ((cs.take i).toArray++Builtin.zeroCells (Value.int .i64 0).cells (n+m-i)++Builtin.zeroCells (Value.int .i64 0).cells (grownCap w (n+m) c t3-(n+m))) t3)).drew.setCells w.heap.size i vs).drew).setCells w.heap.size (i+m) (cs.drop i))
 (l:List Int) (i:Nat) (v:Int) (hl:l.length≤4194304) (hi:i≤l.length):
 Den P Ai G g [.arr 0,.sc (.int .i64 i),.arr 1] [.arr 1 0 l.length (T.ints l),.arr 1 0 1 (T.ints [v])] (.sl 0 1 (Aba l i v).length (T.ints (Aba l i v))) [.dead,.dead]:=by
 refine AmO (given:=[.arr 1 0 l.length (T.ints l),.arr 1 0 1 (T.ints [v])]) fun id hid' F hF inv xs hx=> ?_
 rw[hid]at hid'
 cases hid'
 obtain⟨x0,r0,rfl,h1,h2⟩:=hx.JF
 obtain⟨x1,r1,rfl,h3,h4⟩:=h2.JF
 obtain⟨x2,r2,rfl,h5,h6⟩:=h4.JF
 obtain rfl:=h6.Nf
 obtain⟨a,cap,rfl,hcap,_,_,hm⟩:=AhG (k:=0) inv rfl h1
 obtain⟨a2,cap2,rfl,hcap2,_,_,hm2⟩:=AhG (k:=1) (l:=[v]) inv rfl h5
 cases h3
 have hlen:=AqH (v:=v) hi
 rw[hlen]
 obtain⟨vb,vo,rfl,hvown,hvhas⟩:∃vb vo,a2=some ⟨vb,vo,none⟩∧F.own0 vb=some (1,[])∧Has F.w0 vb vo (iv [v]) cap2:=by
  rcases hm2 with h | h
  ·simp at hcap2;omega
  ·exact h
 have hvs:∀j x,(iv [v])[j]? =some x→F.w0.cell? ⟨vb,vo+j,none⟩=some x:=fun j x hj=>Ah3 hvhas hj
 have hgc:=Yb F.w0 (l.length+1) cap t3
 have hgb:=U4 F.w0 (l.length+1) cap t3 (by omega)
 have hvne:F.own0 vb≠none:=by rw[hvown];simp
 have new:∀ {w':World} {o:Obj},(∀b,b<F.w0.heap.size→w'.heap[b]? =F.w0.heap[b]?)→F.w0.heap.size≤w'.heap.size→w'.os=F.w0.os→w'.tape=F.w0.tape→w'.output=F.w0.output→Kept F w':=
  fun h1 h2 h3 h4 h5=>⟨h2,h3,h4,h5,fun b hb _=>h1 b hb⟩
 have endGrow:cap<l.length+1→i=l.length→(∀a0,a=some a0→∀j x,(iv l)[j]? =some x→F.w0.cell? (a0.add j)=some x)→(a=none→l.length=0)→_:=fun hc hin hcells hnil=>
  (hEndGrow a l.length cap vb vo 1 cap2 (iv l) (iv [v]) F.w0 (by omega) hcap.1 hc (by omega) (by simp) rfl hnil hcells hvs (Kh [v])).mono
   (R':=fun e w'=>∃a cap,e= .returned (.slice a (l.length+1) cap)∧(l.length+1≤cap∧cap≤9223372036854775807)∧(cap=0∨∃b o,a=some ⟨b,o,none⟩∧Has w' b o (iv (Aba l i v)) cap∧(b<F.w0.heap.size→F.own0 b≠none))∧Kept F w')
   fun e w' ⟨he,hw⟩=>by
    subst hw
    refine⟨_,_,he,⟨hgc,hgb⟩,.inr ⟨_,_,rfl,?_,fun h=>absurd h (by omega)⟩,?_⟩
    ·have e2:iv (Aba l i v)=iv l++iv [v]:=by subst hin;simp[Aba,iv]
     rw[e2]
     refine⟨by rw[←e2];exact Kh _,_,t3,alloc_at F.w0.drew _,?_,by simp;exact hgc,fun j hj=> ?_⟩
     ·simp[UX];omega
     ·simp only[List.length_append,Aqp]at hj
      rw[Nat.zero_add,Array.getElem?_append,if_pos (by simp;simp at hj;omega)]
      simp
    ·refine⟨by rw[Aa6];simp,rfl,rfl,rfl,fun b hb _=>AeV F.w0.drew _ hb⟩
 rcases hm with hm | ⟨b,o,rfl,hown,hhas⟩
 ·subst hm
  have hl0:l=[]:=List.eq_nil_of_length_eq_zero (by omega)
  subst hl0
  obtain rfl:i=0:=by simpa using hi
  exact endGrow (by simp) rfl (fun a0 _ j x hj=>by simp[iv]at hj) (fun _=>rfl)
 ·have hbne:vb≠b:=by intro e;rw[e,hown]at hvown;cases hvown
  have hcs:∀j x,(iv l)[j]? =some x→F.w0.cell? ⟨b,o+j,none⟩=some x:=fun j x hj=>Ah3 hhas hj
  have hob:F.own0 b≠none:=by rw[hown];simp
  by_cases hroom:l.length+1≤cap
  ·by_cases hin:i=l.length
   ·subst hin
    refine(hEndRoom b o l.length cap vb vo 1 cap2 (iv [v]) F.w0 (by omega) hroom hcap.2 rfl (fun j hj=> ?_) (fun j _=>Wy hhas _) hvs (Kh [v])).mono fun e w' ⟨he,hw⟩=> ?_
    ·have:=AhO hhas (j:=l.length+j) (by omega)
     rwa [←Nat.add_assoc]at this
    ·rw[GH]at hw
     subst hw
     refine⟨_,_,he,⟨hroom,hcap.2⟩,.inr ⟨_,_,rfl,?_,fun _=>hob⟩,AhA rfl rfl rfl rfl hob⟩
     refine Alp hhas (AfP _ _ _) (Gc _ _) (fun c h1 h2 j hj=> ?_) (Kh _) (by simp[hlen];exact hroom)
     have:=Aei (v:=v) (Nat.le_refl l.length) hroom c h1 (fun j hj=>h2 j (by simpa using hj)) j (by simpa[hlen]using hj)
     rw[List.drop_eq_nil_of_le (by simp)]at this
     exact this
   ·obtain⟨tA,kA,hsa,_⟩:=Aep hvhas
    obtain⟨tB,kB,hsb,hkB⟩:=Aep hhas
    refine(hShift b o l.length cap i vb vo 1 cap2 (iv l) (iv [v]) F.w0 (by omega) (by omega) hroom hcap.2 hbne (by simp) rfl hcs (fun j hj=>AhO hhas (by omega)) (fun j _=>Wy hhas _) hvs (Kh l) (Kh [v]) tA tB kA kB hsa hsb (by omega) (Wy hvhas _) (Wy hvhas _)).mono fun e w' ⟨he,hw⟩=> ?_
    rw[GH,GH,mapBlock_mapBlock]at hw
    subst hw
    refine⟨_,_,he,⟨hroom,hcap.2⟩,.inr ⟨_,_,rfl,?_,fun _=>hob⟩,AhA rfl rfl rfl rfl hob⟩
    refine Alp hhas (AfP _ _ _) (fun c=>by rw[Gc,Gc]) (fun c h1 h2 j hj=> ?_) (Kh _) (by simp[hlen];exact hroom)
    exact Aei (v:=v) hi hroom c h1 (fun j hj=>h2 j (by simp;omega)) j (by simpa[hlen]using hj)
  ·by_cases hin:i=l.length
   ·rw[hin]
    rw[hin]at endGrow
    refine endGrow (by omega) rfl (fun a0 ha j x hj=> ?_) (fun h=>by cases h)
    cases ha
    rw[Addr.add_lit]
    exact hcs j x hj
   ·refine(hGrow b o l.length cap i vb vo 1 cap2 (iv l) (iv [v]) F.w0 (by omega) (by omega) hcap.1 (by omega) (by omega) (by simp) rfl hcs hvs (Kh l) (Kh [v])).mono fun e w' ⟨he,hw⟩=> ?_
    rw[GH,GH]at hw
    have hsz:w'.heap.size=F.w0.heap.size+1:=by
     rw[hw,Acb];simp only[World.drew];rw[Acb,Aa6]
    have hoff:∀b',b' <F.w0.heap.size→w'.heap[b']? =F.w0.heap[b']? :=by
     intro b' hb'
     rw[hw,AgF _ _ (by omega)]
     simp only[World.drew]
     rw[AgF _ _ (by omega)]
     exact AeV F.w0 _ hb'
    refine⟨_,_,he,⟨hgc,hgb⟩,.inr ⟨_,_,rfl,?_,fun h=>absurd h (by omega)⟩,⟨by omega,by rw[hw];rfl,by rw[hw];rfl,by rw[hw];rfl,fun b' hb' _=>hoff b' hb'⟩⟩
    have hat:w'.heap[F.w0.heap.size]? =some (.cells (Mj (i+1) ((iv l).drop i) (Mj i (iv [v]) (((iv l).take i).toArray++Builtin.zeroCells (Value.int .i64 0).cells (l.length+1-i)++Builtin.zeroCells (Value.int .i64 0).cells (grownCap F.w0 (l.length+1) cap t3-(l.length+1))))) t3 (0,0)):=by
     rw[hw,AfP]
     simp only[World.drew]
     rw[AfP]
     simp only[]
     rw[alloc_at]
     rfl
    refine⟨Kh _,_,t3,hat,?_,by simp[hlen];exact hgc,fun j hj=> ?_⟩
    ·rw[Gc,Gc]
     simp[UX];omega
    ·simp only[Aqp,hlen]at hj
     rw[ApG hi,Nat.zero_add]
     by_cases q1:j<i
     ·rw[if_pos q1,IA _ _ _ _ (.inl (by omega)),IA _ _ _ _ (.inl q1),Array.getElem?_append,if_pos (by simp[UX];omega),Array.getElem?_append,if_pos (by simp;omega)]
      simp[q1]
     ·rw[if_neg q1]
      by_cases q2:j=i
      ·subst q2
       rw[if_pos rfl,IA _ _ _ _ (.inl (by omega))]
       have:=QI (iv [v]) j 0 (((iv l).take j).toArray++Builtin.zeroCells (Value.int .i64 0).cells (l.length+1-j)++Builtin.zeroCells (Value.int .i64 0).cells (grownCap F.w0 (l.length+1) cap t3-(l.length+1))) (by simp) (by simp[UX];omega)
       simp only[Nat.add_zero]at this
       rw[this];rfl
      ·rw[if_neg q2]
       have:=QI ((iv l).drop i) (i+1) (j-(i+1)) (Mj i (iv [v]) (((iv l).take i).toArray++Builtin.zeroCells (Value.int .i64 0).cells (l.length+1-i)++Builtin.zeroCells (Value.int .i64 0).cells (grownCap F.w0 (l.length+1) cap t3-(l.length+1)))) (by simp;omega) (by rw[Gc];simp[UX];omega)
       rw[show i+1+(j-(i+1))=j by omega]at this
       rw[this,List.getElem?_drop]
       congr 1;omega
end Go.Eng
namespace Go.Eng.T
open Go.Lib Go.RowKit Go.Sort
end Go.Eng.T
namespace Go.Proofs
open Go.Shelf
def Tryz.SS:Go.Shelf.Ren:=⟨fun | 21=>142 | 27=>191 | 28=>192 | 35=>223 | 39=>270 | n=>n,fun | 22=>24 | 3=>3 | 4=>4 | 0=>0 | n=>n,fun | n=>n⟩
theorem Tryz.RS:Go.Proofs.Lays2.n21 Tryz.prog Tryz.SS:={
 mixed:=by kernel_rfl
 f21:=Tryz.func142.trans (congrArg some (by kernel_rfl))
 f27:=Tryz.func191.trans (congrArg some (by kernel_rfl))
 f28:=Tryz.func192.trans (congrArg some (by kernel_rfl))
 f35:=Tryz.func223.trans (congrArg some (by kernel_rfl))
 f39:=Tryz.func270.trans (congrArg some (by kernel_rfl))
 t0:=Tryz.underlying0
 a0:=Tryz.isAgg0
 z0:=Tryz.sizeOf0
 v0:=Tryz.zeroValue0
 t3:=Tryz.underlying3
 a3:=Tryz.isAgg3
 z3:=Tryz.sizeOf3
 v3:=Tryz.zeroValue3
 t4:=Tryz.underlying4
 a4:=Tryz.isAgg4
 z4:=Tryz.sizeOf4
 v4:=Tryz.zeroValue4
 t22:=Tryz.underlying24
 a22:=Tryz.isAgg24
 z22:=Tryz.sizeOf24
 v22:=Tryz.zeroValue24
 i3:=by kernel_rfl}
end Go.Proofs
namespace Go.Eng.T
theorem Axp {cs:List V} (h:Dat (.int .u8) cs):∃n:Int,cs=[V.sc (.int .u8 n)]∧(0≤n∧n≤255):=by
 simp only[Dat]at h
 obtain⟨n,h1,h2⟩:=h
 simp only[Lit.wf,IntKind.min,IntKind.max,IntKind.bits,IntKind.signed,Bool.and_eq_true,decide_eq_true_eq]at h1
 exact⟨n,h2,by simpa using h1.1,by simpa using h1.2⟩
theorem Ax3 {avs:List V} (h:Aaw avs):∃bs:List Int,(bs.length≤maxLen∧∀b,b∈bs→0≤b∧b≤255)∧avs=[.sl 3 1 bs.length (u8s bs)]:=by
 obtain⟨c,hd,rfl⟩:=h
 obtain⟨ds,h1,h2,h3⟩:=Awb (f:=fun n=> [V.sc (.int .u8 n)]) (p:=fun n:Int=>0≤n∧n≤255) (fun cs h=>Axp h) hd
 refine⟨ds,⟨h2,h3⟩,?_⟩
 have e:ds.flatMap (fun n=> [V.sc (.int .u8 n)])=u8s ds:=by
  clear h1 h2 h3
  induction ds with
  | nil=>rfl
  | cons a ds ih=>rw[List.flatMap_cons,ih];rfl
 rw[e]at h1
 have h4:c= .sl 0 (Ty.int IntKind.u8).cells ds.length (u8s ds):=by simpa using h1
 rw[h4]
 rfl
theorem Fj {R R':Rel} (h:∀a gi r o,R a gi r o→R' a gi r o) {args:List V} {c:Yf} {α:Type} {P:α→Prop} {res:α→V} (hd:Ox R args c P res):Ox R' args c P res:=by
 obtain⟨a,c',h1,h2,h3⟩:=hd
 exact⟨a,c',h1,h2,h _ _ _ _ h3⟩
theorem AqN {R R':Rel} (h:∀a gi r o,R a gi r o→R' a gi r o) {bs:List Int} {α:Type} {P:α→Prop} {res:α→V} (hd:AlG R bs P res):AlG R' bs P res:=by
 obtain⟨a,h1,h3⟩:=hd
 exact⟨a,h1,h _ _ _ _ h3⟩
theorem Awi {R R':Rel} (h:∀a gi r o,R a gi r o→R' a gi r o) {args:List V} (hd:∃c:Yf,ED c∧R args [] (.rptr 0 (Bz c) 0) []):∃c:Yf,ED c∧R' args [] (.rptr 0 (Bz c) 0) []:=by
 obtain⟨c,h1,h3⟩:=hd
 exact⟨c,h1,h _ _ _ _ h3⟩
end Go.Eng.T
