/- Own work: part 49 of the proof of FnAudited. -/
import Derived.Test.YtdgpapmladligabGreatEngAR
import Derived.Below
import Derived.Sort.Grow
import Derived.Deep.Draws
import Derived.Lib.LaidTab
import Derived.Sort.Row
import Derived.Laws.IdiomCopy
import Derived.Lib.Slices
import Derived.Lib.SlicesCompact
import Derived.Laws.AppendOwn
import Derived.Lib.RowBridge
import Derived.Shelf.Small.Bits
import Derived.Shelf.Small.Wraps
import Derived.Shelf.Strconv.Itoa0
import Derived.Shelf.Sort.Plain
import Derived.Shelf.Bits.Mul64
import Derived.Shelf.Slices.Turned
import Derived.Shelf.Slices.Reverse
import Derived.Shelf.Slices.Equal
import Derived.Ground.Names2Prog
import Derived.Shelf.Slices.Clone
import Derived.Shelf.Slices.CompactI
import Derived.Shelf.Slices.SearchI
import Derived.Shelf.Slices.Cells
import Derived.Shelf.Slices.In.SortNone
import Derived.Shelf.Slices.Empties2
import Derived.Ground.SlgnProg
import Derived.Shelf.SlicesE.Reverse
import Derived.Shelf.SlicesE.Clone
import Derived.Test.YtdgpapmladligabGreatProg
import Derived.Shelf.Spec.SlicesInsertGrow
import Derived.KernelRfl
import Derived.LoopN
set_option linter.unusedSimpArgs false
set_option linter.unusedVariables false
namespace Go.Eng.T
set_option maxRecDepth 20000
set_option maxHeartbeats 1000000
structure Cur where
 bs:List Int
 i:Nat
 h:Int
def u8s (bs:List Int):List V:=bs.map fun b=> .sc (.int .u8 b)
abbrev Dr (c:Cur):List V:=[.sl 3 1 c.bs.length (u8s c.bs),.sc (.int .i64 c.i),.sc (.int .i64 c.h)]
def IA (c:Cur):Prop:=c.bs.length≤1048576∧(∀b,b∈c.bs→0≤b∧b≤255)∧c.i≤c.bs.length
def Aaa (R:Rel) (args:List V) (c:Cur) {α:Type} (P:α→Prop) (res:α→V):Prop:=∃a c',P a∧IA c'∧R (.ptr 0 0::args) [.var (Dr c)] (res a) [.var (Dr c')]
theorem N9 {D:Dn} {f:Bl} {args:List V} {c:Cur} {α:Type} {P:α→Prop} {res:α→V} (h:∀Q:V→List O→Prop,(∀a c',P a→IA c'→Q (res a) [.var (Dr c')])→Ax1 D f (.ptr 0 0::args) [.var (Dr c)] Q):
 Aaa (Body D f) args c P res:=by
 obtain⟨v,o,⟨a,c',h1,h2,rfl,rfl⟩,h3⟩:=ArB (P:=fun v o=>∃a c',P a∧IA c'∧v=res a∧o=[.var (Dr c')]) (fun Q hQ=>h Q (fun a c' h1 h2=>hQ _ _ ⟨a,c',h1,h2,rfl,rfl⟩))
 exact⟨a,c',h1,h2,h3⟩
@[simp high] theorem AJw {bs:List Int} {j:Nat} (h:j<bs.length):(u8s bs)[j]? =some (.sc (.int .u8 bs[j])):=by simp[u8s,h]
@[simp high] theorem AI4 (bs:List Int):(u8s bs).length=bs.length:=by simp[u8s]
@[simp] theorem AJx (bs:List Int) (fl:Nat):(u8s bs).map (AL fl)=u8s bs:=by simp[u8s,AL]
abbrev Ajn (R:Rel):Prop:=∀c:Cur,IA c→Aaa R [] c (fun x:Int=>0≤x∧x≤255) (fun x=>I x)
theorem ADy (n:Nat):∃x:Nat,x≤255∧IntKind.i64.wrap ((n&&&255 % 2 ^ IntKind.i64.bits:Nat):Int)=x:=by
 have e:(255 % 2 ^ IntKind.i64.bits:Nat)=255:=by decide
 rw[e]
 have h:n&&&255≤255:=Nat.and_le_right
 exact⟨n&&&255,h,Ab (by omega) (by omega)⟩
theorem ACn (D:Dn):Ajn (Body D RA):=by
 intro c hc
 refine N9 (fun Q hQ=> ?_)
 have h1:=hc.1
 by_cases h:c.i<c.bs.length
 ·have hw:IntKind.i64.wrap ((c.i:Int)+1)=(c.i+1:Nat):=by rw[Ab (by omega) (by omega)];simp
  simp -implicitDefEqProofs [h,IQ,Al]
  generalize IntKind.i64.wrap (IntKind.i64.wrap (c.h*6364136223846793005)+1442695040888963407)=h'
  generalize Int.toNat _=n1
  obtain⟨x,hx,e⟩:=ADy n1
  rw[e,hw]
  exact hQ x ⟨c.bs,c.i+1,h'⟩ ⟨by omega,by omega⟩ ⟨hc.1,hc.2.1,h⟩
 ·simp -implicitDefEqProofs [h,IQ,Al]
  generalize IntKind.i64.wrap (IntKind.i64.wrap (c.h*6364136223846793005)+1442695040888963407)=h'
  generalize Int.toNat _=n1
  obtain⟨x,hx,e⟩:=ADy n1
  rw[e]
  exact hQ x ⟨c.bs,c.i,h'⟩ ⟨by omega,by omega⟩ ⟨hc.1,hc.2.1,hc.2.2⟩
abbrev Ie (R:Rel):Prop:=∀(c:Cur) (n:Int),IA c→n≤1000000000→Aaa R [I n] c (fun x:Int=>0≤x∧(n≤0→x=0)∧(0<n→x<n)) (fun x=>I x)
theorem AGD {x n:Int} (h:0≤x) (hn:0<n):0≤x.tmod n∧x.tmod n<n:=⟨Int.tmod_nonneg n h,Int.tmod_lt_of_pos x hn⟩
theorem Azr (D:Dn) (hB:Ajn (D Ary)):Ie (Body D Pd):=by
 intro c n hc hn
 refine N9 (fun Q hQ=> ?_)
 by_cases h0:n≤0
 ·simp -implicitDefEqProofs [h0,IQ,Al]
  exact hQ 0 c ⟨by omega,fun _=>rfl,fun h=>by omega⟩ hc
 have hne:¬n=0:=by omega
 by_cases h1:n≤256
 ·simp -implicitDefEqProofs [h0,h1]
  obtain⟨x,c1,hx,hc1,px⟩:=hB c hc
  simp -implicitDefEqProofs [Dr]at px
  refine Aa (px) ?_
  simp -implicitDefEqProofs [h0,hne,IQ,Al]
  have:=AGD (n:=n) hx.1 (by omega)
  exact hQ _ c1 ⟨this.1,fun h=>absurd h h0,fun _=>this.2⟩ hc1
 ·simp -implicitDefEqProofs [h0,h1]
  obtain⟨x,c1,hx,hc1,px⟩:=hB c hc
  simp -implicitDefEqProofs [Dr]at px
  refine Aa (px) ?_
  simp -implicitDefEqProofs [h0]
  obtain⟨y,c2,hy,hc2,py⟩:=hB c1 hc1
  simp -implicitDefEqProofs [Dr]at py
  refine Aa (py) ?_
  simp -implicitDefEqProofs [h0]
  obtain⟨z,c3,hz,hc3,pz⟩:=hB c2 hc2
  simp -implicitDefEqProofs [Dr]at pz
  refine Aa (pz) ?_
  simp -implicitDefEqProofs [h0,hne,IQ,Al]
  have w1:IntKind.i64.wrap (x*65536)=x*65536:=Ab (by omega) (by omega)
  have w2:IntKind.i64.wrap (y*256)=y*256:=Ab (by omega) (by omega)
  have w3:IntKind.i64.wrap (x*65536+y*256)=x*65536+y*256:=Ab (by omega) (by omega)
  have w4:IntKind.i64.wrap (x*65536+y*256+z)=x*65536+y*256+z:=Ab (by omega) (by omega)
  rw[w1,w2,w3,w4]
  have:=AGD (x:=x*65536+y*256+z) (n:=n) (by omega) (by omega)
  exact hQ _ c3 ⟨this.1,fun h=>absurd h h0,fun _=>this.2⟩ hc3
abbrev Ae0 (R:Rel):Prop:=∀(c:Cur) (xs:List Int),IA c→0<xs.length→xs.length≤1000000→Aaa R [.sl 1 1 xs.length (ints xs)] c (fun x:Int=>x∈xs) (fun x=>I x)
theorem AFw (D:Dn) (hB:Ie (D Ei)):Ae0 (Body D TP):=by
 intro c xs hc h0 hl
 refine N9 (fun Q hQ=> ?_)
 simp -implicitDefEqProofs
 obtain⟨x,c1,hx,hc1,px⟩:=hB c xs.length hc (by omega)
 simp -implicitDefEqProofs [Dr]at px
 refine Aa (px) ?_
 obtain⟨n,rfl⟩:∃n:Nat,x=n:=⟨x.toNat,by omega⟩
 have hn:n<xs.length:=by have:=hx.2.2 (by omega);omega
 simp -implicitDefEqProofs [hn,IQ,Al]
 exact hQ _ c1 (List.getElem_mem hn) hc1
abbrev Aqr (R:Rel):Prop:=∀bs:List Int,bs.length≤1048576→(∀b,b∈bs→0≤b∧b≤255)→∃c:Cur,IA c∧R [.sl 3 1 bs.length (u8s bs)] [] (.rptr 0 (Dr c) 0) []
theorem AF7 (D:Dn):Aqr (Body D Qa):=by
 intro bs hl hb
 obtain⟨v,o,⟨c,h1,rfl,rfl⟩,h3⟩:=ArB (P:=fun v o=>∃c:Cur,IA c∧v= .rptr 0 (Dr c) 0∧o=[]) (D:=D) (f:=Qa) (args:=[.sl 3 1 bs.length (u8s bs)]) (given:=[]) (fun Q hQ=>by
  simp -implicitDefEqProofs
  obtain⟨h0,hh0⟩:∃h0,h0=IntKind.i64.wrap (193017+(bs.length:Int)):=⟨_,rfl⟩
  rw[←hh0]
  refine Ad (fun k s=>∃j h,j+k=min bs.length 4000∧s=⟨[.sl 3 1 bs.length (u8s bs),.undef,I h,I j,.undef],[.free]⟩) ?_ (min bs.length 4000) _ ⟨0,h0,by simp,by simp⟩
  intro k s ⟨j,h,hj,hs⟩
  subst hs
  by_cases hjn:j<bs.length
  ·by_cases hj4:j<4000
   ·have hw:IntKind.i64.wrap ((j:Int)+1)=(j+1:Nat):=by rw[Ab (by omega) (by omega)];simp
    have hj4':(j:Int)<4000:=by omega
    simp -implicitDefEqProofs [hjn,hj4,hj4']
    refine⟨k-1,by omega,j+1,by omega,?_⟩
    simp[hw]
   ·have hj4':¬(j:Int)<4000:=by omega
    simp -implicitDefEqProofs [hjn,hj4,hj4']
    exact hQ _ _ ⟨⟨bs,0,h⟩,⟨hl,hb,Nat.zero_le _⟩,rfl,rfl⟩
  ·simp -implicitDefEqProofs [hjn]
   exact hQ _ _ ⟨⟨bs,0,h⟩,⟨hl,hb,Nat.zero_le _⟩,rfl,rfl⟩)
 exact⟨c,h1,h3⟩
end Go.Eng.T
namespace Go.Eng.T
set_option maxRecDepth 20000
set_option maxHeartbeats 1000000
theorem ACU {l:List Int} (h:Up l) {i j:Nat} (hij:i<j) (hj:j<l.length):l[i]<l[j]:=List.pairwise_iff_getElem.1 h i j (by omega) hj hij
theorem Ayq {l:List Int} (h:Up l) (h1:∀x,x∈l→1≤x∧x≤9) (h0:0<l.length):AU l=true:=by
 unfold AU
 simp only[Bool.and_eq_true,decide_eq_true_eq]
 refine⟨?_,h0⟩
 unfold KL
 rw[List.all_eq_true]
 intro i hi
 have hi:=List.mem_range.1 hi
 rw[VH hi]
 have:=h1 _ (List.getElem_mem hi)
 simp only[Bool.and_eq_true,Bool.or_eq_true,decide_eq_true_eq]
 refine⟨⟨by omega,by omega⟩,?_⟩
 by_cases hz:i=0
 ·exact .inl hz
 ·right
  rw[VH (by omega:i-1<l.length)]
  exact ACU h (by omega) hi
theorem Ay0 {l:List Int} (h:Up l) (h1:∀x,x∈l→1≤x∧x≤100):Lr l l.length=true:=by
 unfold Lr
 rw[List.all_eq_true]
 intro i hi
 have hi:=List.mem_range.1 hi
 rw[getD_at hi]
 have:=h1 _ (List.getElem_mem hi)
 simp only[Bool.and_eq_true,Bool.or_eq_true,decide_eq_true_eq]
 refine⟨⟨by omega,by omega⟩,?_⟩
 by_cases hz:i=0
 ·exact .inl hz
 ·right
  rw[getD_at (by omega:i-1<l.length)]
  exact ACU h (by omega) hi
theorem Akr {l:List Int} {a b:Int} (h1:∀x,x∈l→a≤x∧x≤b):allIn l a b=true:=by
 unfold allIn
 rw[List.all_eq_true]
 intro x hx
 have:=h1 x hx
 simpa using this
theorem AyB {l:List Int} (h:Up l) (h1:∀x,x∈l→0≤x∧x≤255):Gf l=true:=by
 unfold Gf
 simp only[Bool.and_eq_true]
 refine⟨?_,Akr h1⟩
 rw[Apv]
 intro i hi
 by_cases hz:i=0
 ·subst hz;exact ZH l
 ·rw[WQ hz hi (by omega)]
  simpa using ACU h (by omega) hi
def VP (l:List Int) (b:Int) (m:Nat):Prop:=Up l∧(∀x,x∈l→1≤x∧x≤b)∧l.length≤m
theorem Aj6 {l:List Int} {b:Int} {m:Nat} {v:Int} (h:VP l b m) (hv:1≤v∧v≤b):VP (F3 l v) b (m+1):=by
 refine⟨Aqh v h.1,?_,Nat.le_trans (VI l v) (by have:=h.2.2;omega)⟩
 intro x hx
 rcases(Vt l v x).1 hx with hx | rfl
 ·exact h.2.1 x hx
 ·exact hv
theorem Zu {l:List Int} {b:Int} {m m':Nat} (h:VP l b m) (hm:m≤m'):VP l b m':=⟨h.1,h.2.1,by have:=h.2.2;omega⟩
theorem ArC (b:Int):VP [] b 0:=⟨List.Pairwise.nil,by simp,by simp⟩
theorem ABW {b v:Int} (hv:1≤v∧v≤b):VP [v] b 1:=⟨by simp,by simpa using hv,by simp⟩
theorem put_pos (l:List Int) (v:Int):0<(F3 l v).length:=List.length_pos_of_mem ((Vt l v v).2 (.inr rfl))
abbrev AdN (R:Rel):Prop:=∀c:Cur,IA c→Aaa R [] c (fun l:List Int=>VP l 6 4∧0<l.length) (fun l=> .sl 0 1 l.length (ints l))
theorem AyS (D:Dn) (hB:Ie (D Ei)) (hP:Uc (D Kg)):AdN (Body D Pj):=by
 intro c hc
 refine N9 (fun Q hQ=> ?_)
 simp -implicitDefEqProofs
 obtain⟨x,c1,hx,hc1,px⟩:=hB c 4 hc (by omega)
 simp -implicitDefEqProofs [Dr,ints]at px
 refine Aa (px) ?_
 have hx4:=hx.2.2 (by omega)
 have w1:IntKind.i64.wrap (1+x)=1+x:=Ab (by omega) (by omega)
 simp -implicitDefEqProofs [w1]
 obtain⟨y,c2,hy,hc2,py⟩:=hB c1 4 hc1 (by omega)
 simp -implicitDefEqProofs [Dr,ints]at py
 refine Aa (py) ?_
 have hy4:=hy.2.2 (by omega)
 obtain⟨n,rfl⟩:∃n:Nat,y=n:=⟨y.toNat,by omega⟩
 simp -implicitDefEqProofs
 obtain⟨LI,hLI⟩:∃LI:Nat→St→Prop,LI=fun k s=>∃j cc l o2,j+k=n∧IA cc∧VP l 6 (1+j)∧0<l.length∧s=⟨[.ptr 0 0,.undef,.arr 3,I k,.undef],[.var (Dr cc),.free,o2,.arr 1 0 l.length (ints l)]⟩:=⟨_,rfl⟩
 refine Ad LI ?_ (n) _ (by rw[hLI];exact⟨0,c2,[1+x],.free,by simp,hc2,ABW (by omega),by simp,by simp[ints]⟩)
 intro k s hs
 rw[hLI]at hs
 obtain⟨j,cc,l,o2,hj,hcc,hl,hl0,hs⟩:=hs
 subst hs
 by_cases hk:0<k
 ·have hwk:IntKind.i64.wrap ((k:Int)-1)=(k-1:Nat):=by rw[Ab (by omega) (by omega)];omega
  simp -implicitDefEqProofs [hk]
  obtain⟨z,c3,hz,hc3,pz⟩:=hB cc 6 hcc (by omega)
  simp -implicitDefEqProofs [Dr,ints]at pz
  refine Aa (pz) ?_
  have hz4:=hz.2.2 (by omega)
  have w2:IntKind.i64.wrap (1+z)=1+z:=Ab (by omega) (by omega)
  simp -implicitDefEqProofs [w2]
  refine Aa (hP l (1+z) (by have:=hl.2.2;omega)) ?_
  simp -implicitDefEqProofs [hwk]
  refine⟨k-1,by omega,?_⟩
  rw[hLI]
  exact⟨j+1,c3,F3 l (1+z),.free,by omega,hc3,Aj6 hl (by omega),put_pos _ _,rfl⟩
 ·have hk0:k=0:=by omega
  subst hk0
  simp -implicitDefEqProofs [IQ,Al]
  exact hQ l cc ⟨Zu hl (by omega),hl0⟩ hcc
abbrev YU (R:Rel):Prop:=∀c:Cur,IA c→Aaa R [] c (fun l:List Int=>VP l 200 4) (fun l=> .sl 0 1 l.length (ints l))
theorem AJs {x:Int} (h:x∈[1,2,3,10,40,(200:Int)]):1≤x∧x≤200:=by simp at h;omega
theorem AyV (D:Dn) (hB:Ie (D Ei)) (hI:Ae0 (D YL)) (hP:Uc (D Kg)):YU (Body D Pk):=by
 intro c hc
 refine N9 (fun Q hQ=> ?_)
 simp -implicitDefEqProofs
 obtain⟨y,c2,hy,hc2,py⟩:=hB c 5 hc (by omega)
 simp -implicitDefEqProofs [Dr,ints]at py
 refine Aa (py) ?_
 have hy4:=hy.2.2 (by omega)
 obtain⟨n,rfl⟩:∃n:Nat,y=n:=⟨y.toNat,by omega⟩
 simp -implicitDefEqProofs
 obtain⟨LI,hLI⟩:∃LI:Nat→St→Prop,LI=fun k s=>∃j cc l o2,j+k=n∧IA cc∧VP l 200 j∧s=⟨[.ptr 0 0,.undef,.arr 4,I k,.undef],[.var (Dr cc),.free,o2,.free,.arr 1 0 l.length (ints l)]⟩:=⟨_,rfl⟩
 refine Ad LI ?_ (n) _ (by rw[hLI];exact⟨0,c2,[],.free,by simp,hc2,ArC _,by simp[ints]⟩)
 intro k s hs
 rw[hLI]at hs
 obtain⟨j,cc,l,o2,hj,hcc,hl,hs⟩:=hs
 subst hs
 by_cases hk:0<k
 ·have hwk:IntKind.i64.wrap ((k:Int)-1)=(k-1:Nat):=by rw[Ab (by omega) (by omega)];omega
  simp -implicitDefEqProofs [hk]
  obtain⟨z,c3,hz,hc3,pz⟩:=hI cc [1,2,3,10,40,200] hcc (by simp) (by simp)
  simp -implicitDefEqProofs [Dr,ints]at pz
  refine Aa (pz) ?_
  simp -implicitDefEqProofs
  refine Aa (hP l z (by have:=hl.2.2;omega)) ?_
  simp -implicitDefEqProofs [hwk]
  refine⟨k-1,by omega,?_⟩
  rw[hLI]
  exact⟨j+1,c3,F3 l z,_,by omega,hc3,Aj6 hl (AJs hz),rfl⟩
 ·have hk0:k=0:=by omega
  subst hk0
  simp -implicitDefEqProofs [IQ,Al]
  exact hQ l cc (Zu hl (by omega)) hcc
end Go.Eng.T
namespace Go.Eng.T
set_option maxRecDepth 20000
set_option maxHeartbeats 1000000
def AkL (b:Gu):Prop:=Hg b=true∧b.drops.length≤4∧b.strips.length≤4
theorem Afn {b:Gu} (h0:0≤b.limit∧b.limit≤9) (h1:VP b.drops 200 4) (h2:VP b.strips 200 4):AkL b:=by
 refine⟨?_,h1.2.2,h2.2.2⟩
 unfold Hg
 rw[Akr (fun x hx=>by have:=h1.2.1 x hx;omega),Akr (fun x hx=>by have:=h2.2.1 x hx;omega)]
 have:=h1.2.2
 have:=h2.2.2
 simp only[Bool.and_eq_true,decide_eq_true_eq]
 exact⟨⟨⟨⟨⟨by omega,by omega⟩,by omega⟩,by omega⟩,trivial⟩,trivial⟩
abbrev YO (R:Rel):Prop:=∀c:Cur,IA c→Aaa R [] c AkL (fun b=> .agg (Dy b))
theorem AzX (D:Dn) (hB:Ie (D Ei)) (hT:YU (D AaE)):YO (Body D Pb):=by
 intro c hc
 refine N9 (fun Q hQ=> ?_)
 have hn:=Zu (ArC 200) (show 0≤4 by omega)
 simp -implicitDefEqProofs
 obtain⟨x,c1,hx,hc1,px⟩:=hB c 7 hc (by omega)
 simp -implicitDefEqProofs [Dr,ints]at px
 refine Aa (px) ?_
 by_cases g0:x=0
 ·simp -implicitDefEqProofs [g0]
  obtain⟨y,c2,hy,hc2,py⟩:=hB c1 6 hc1 (by omega)
  simp -implicitDefEqProofs [Dr,ints]at py
  refine Aa (py) ?_
  have hy6:=hy.2.2 (by omega)
  have w1:IntKind.i64.wrap (1+y)=1+y:=Ab (by omega) (by omega)
  simp -implicitDefEqProofs [w1,IQ,Al]
  exact hQ ⟨1+y,[],[],false⟩ c2 (Afn (by dsimp only;omega) hn hn) hc2
 by_cases g1:x=1
 ·simp -implicitDefEqProofs [g1]
  obtain⟨t,c2,ht,hc2,pt⟩:=hT c1 hc1
  simp -implicitDefEqProofs [Dr,ints]at pt
  refine Aa (pt) ?_
  simp -implicitDefEqProofs [IQ,Al]
  exact hQ ⟨0,t,[],false⟩ c2 (Afn (by dsimp only;omega) ht hn) hc2
 by_cases g2:x=2
 ·simp -implicitDefEqProofs [g2]
  obtain⟨t,c2,ht,hc2,pt⟩:=hT c1 hc1
  simp -implicitDefEqProofs [Dr,ints]at pt
  refine Aa (pt) ?_
  simp -implicitDefEqProofs [IQ,Al]
  exact hQ ⟨0,[],t,false⟩ c2 (Afn (by dsimp only;omega) hn ht) hc2
 by_cases g3:x=3
 ·simp -implicitDefEqProofs [g3,IQ,Al]
  exact hQ ⟨0,[],[],true⟩ c1 (Afn (by dsimp only;omega) hn hn) hc1
 simp -implicitDefEqProofs [g0,g1,g2,g3,IQ,Al]
 exact hQ ⟨0,[],[],false⟩ c1 (Afn (by dsimp only;omega) hn hn) hc1
def AIw (b:Gu):Prop:=b.drops.length≤7∧b.strips.length≤7
def Amk (l:List Gu) (m:Nat):Prop:=l.length≤m∧∀b,b∈l→AkL b
abbrev AdG (R:Rel):Prop:=∀c:Cur,IA c→Aaa R [] c (fun l:List Gu=>Amk l 3) (fun l=> .sl 0 4 l.length (l.flatMap Dy))
theorem ACT {l:List Gu} {m:Nat} {b:Gu} (h:Amk l m) (hb:AkL b):Amk (l++ [b]) (m+1):=by
 refine⟨by have:=h.1;simp;omega,?_⟩
 intro x hx
 rcases List.mem_append.1 hx with hx | hx
 ·exact h.2 x hx
 ·simp at hx;subst hx;exact hb
theorem Ay2 (D:Dn) (hB:Ie (D Ei)) (hT:YO (D AaF)):AdG (Body D Pf):=by
 intro c hc
 refine N9 (fun Q hQ=> ?_)
 simp -implicitDefEqProofs
 obtain⟨y,c2,hy,hc2,py⟩:=hB c 4 hc (by omega)
 simp -implicitDefEqProofs [Dr,ints]at py
 refine Aa (py) ?_
 have hy4:=hy.2.2 (by omega)
 obtain⟨n,rfl⟩:∃n:Nat,y=n:=⟨y.toNat,by omega⟩
 simp -implicitDefEqProofs
 obtain⟨LI,hLI⟩:∃LI:Nat→St→Prop,LI=fun k s=>∃j cc l o2 o3 o4,j+k=n∧IA cc∧Amk l j∧s=⟨[.ptr 0 0,.undef,.arr 6,I k,.undef],[.var (Dr cc),.free,o2,o3,o4,.free,.arr 4 0 l.length (l.flatMap Dy)]⟩:=⟨_,rfl⟩
 refine Ad LI ?_ (n) _ (by rw[hLI];exact⟨0,c2,[],.free,.free,.free,by simp,hc2,⟨by simp,by simp⟩,by simp⟩)
 intro k s hs
 rw[hLI]at hs
 obtain⟨j,cc,l,o2,o3,o4,hj,hcc,hl,hs⟩:=hs
 subst hs
 by_cases hk:0<k
 ·have hwk:IntKind.i64.wrap ((k:Int)-1)=(k-1:Nat):=by rw[Ab (by omega) (by omega)];omega
  have hll:=hl.1
  have hb1:(l.length+1)*64≤1099511627776:=by omega
  simp -implicitDefEqProofs [hk]
  obtain⟨b,c3,hb,hc3,pb⟩:=hT cc hcc
  simp -implicitDefEqProofs [Dr,ints]at pb
  refine Aa (pb) ?_
  simp -implicitDefEqProofs [hb1,hwk]
  refine⟨k-1,by omega,?_⟩
  rw[hLI]
  exact⟨j+1,c3,l++ [b],.dead,.dead,.dead,by omega,hc3,ACT hl hb,by simp[Dy,ints]⟩
 ·have hk0:k=0:=by omega
  subst hk0
  simp -implicitDefEqProofs [IQ,Al]
  exact hQ l cc ⟨by have:=hl.1;omega,hl.2⟩ hcc
def AIu (s:List Int):Prop:=VP s 100 3∧0<s.length∧s.getD (s.length-1) 0=100
def ADF (r:BL):Prop:=AIu r.stages∧(1≤r.version∧r.version≤6)
abbrev Adi (R:Rel):Prop:=∀c:Cur,IA c→Aaa R [] c ADF (fun r=> .agg (F7 r))
theorem AIH {l:List Int} (h:VP l 90 2):AIu (l++ [100]):=by
 obtain⟨h1,h2,h3⟩:=h
 refine⟨⟨?_,?_,by simp;omega⟩,by simp,by simp⟩
 ·refine List.pairwise_append.2 ⟨h1,by simp,?_⟩
  intro x hx y hy
  simp at hy
  have:=h2 x hx
  omega
 ·intro x hx
  rcases List.mem_append.1 hx with hx | hx
  ·have:=h2 x hx;omega
  ·simp at hx;omega
theorem AAo (D:Dn) (hB:Ie (D Ei)) (hP:Uc (D Kg)):Adi (Body D Pq):=by
 intro c hc
 refine N9 (fun Q hQ=> ?_)
 simp -implicitDefEqProofs
 obtain⟨x,c1,hx,hc1,px⟩:=hB c 6 hc (by omega)
 simp -implicitDefEqProofs [Dr,ints]at px
 refine Aa (px) ?_
 have hx6:=hx.2.2 (by omega)
 have w1:IntKind.i64.wrap (1+x)=1+x:=Ab (by omega) (by omega)
 simp -implicitDefEqProofs [w1]
 obtain⟨y,c2,hy,hc2,py⟩:=hB c1 3 hc1 (by omega)
 simp -implicitDefEqProofs [Dr,ints]at py
 refine Aa (py) ?_
 have hy3:=hy.2.2 (by omega)
 obtain⟨n,rfl⟩:∃n:Nat,y=n:=⟨y.toNat,by omega⟩
 simp -implicitDefEqProofs
 obtain⟨LI,hLI⟩:∃LI:Nat→St→Prop,LI=fun k s=>∃j cc l o3,j+k=n∧IA cc∧VP l 90 j∧s=⟨[.ptr 0 0,.ptr 1 0,.ptr 2 0,I k,.undef],[.var (Dr cc),.var [I 0,.nil 1,I 0,B false],.var [I (1+x),.arr 6,I 0,B false],o3,.free,.free,.arr 1 0 l.length (ints l)]⟩:=⟨_,rfl⟩
 refine Ad LI ?_ (n) _ (by rw[hLI];exact⟨0,c2,[],.free,by simp,hc2,ArC _,by simp[ints]⟩)
 intro k s hs
 rw[hLI]at hs
 obtain⟨j,cc,l,o3,hj,hcc,hl,hs⟩:=hs
 subst hs
 by_cases hk:0<k
 ·have hwk:IntKind.i64.wrap ((k:Int)-1)=(k-1:Nat):=by rw[Ab (by omega) (by omega)];omega
  simp -implicitDefEqProofs [hk]
  obtain⟨z,c3,hz,hc3,pz⟩:=hB cc 90 hcc (by omega)
  simp -implicitDefEqProofs [Dr,ints]at pz
  refine Aa (pz) ?_
  have hz4:=hz.2.2 (by omega)
  have w2:IntKind.i64.wrap (1+z)=1+z:=Ab (by omega) (by omega)
  simp -implicitDefEqProofs [w2]
  refine Aa (hP l (1+z) (by have:=hl.2.2;omega)) ?_
  simp -implicitDefEqProofs [hwk]
  refine⟨k-1,by omega,?_⟩
  rw[hLI]
  exact⟨j+1,c3,F3 l (1+z),_,by omega,hc3,Aj6 hl (by omega),rfl⟩
 ·have hk0:k=0:=by omega
  subst hk0
  have hll:=hl.2.2
  have hb1:(l.length+1)*8≤1099511627776:=by omega
  simp -implicitDefEqProofs [hb1]
  have hst:=AIH (Zu hl (by omega))
  obtain⟨z,c3,hz,hc3,pz⟩:=hB cc (l.length+1) hcc (by omega)
  simp -implicitDefEqProofs [Dr,ints]at pz
  refine Aa (pz) ?_
  simp -implicitDefEqProofs [IQ,Al]
  have:=hQ ⟨1+x,l++ [100],z,false⟩ c3 ⟨hst,by dsimp only;omega⟩ hc3
  simpa[ints,F7]using this
end Go.Eng.T
namespace Go.Eng.T
set_option maxRecDepth 20000
set_option maxHeartbeats 1000000
def Axy (l:List Int) (m:Nat):Prop:=Up l∧(∀x,x∈l→x∈[1,2,3,40,(200:Int)])∧l.length≤m
theorem AF8 {l:List Int} {m:Nat} {v:Int} (h:Axy l m) (hv:v∈[1,2,3,40,(200:Int)]):Axy (F3 l v) (m+1):=by
 refine⟨Aqh v h.1,?_,Nat.le_trans (VI l v) (by have:=h.2.2;omega)⟩
 intro x hx
 rcases(Vt l v x).1 hx with hx | rfl
 ·exact h.2.1 x hx
 ·exact hv
structure Ax5 (e:Aq):Prop where
 vers:VP e.versions 6 4
 pos:0<e.versions.length
 tags:Axy e.tags 3
 path:Amk e.path 3
 cls:0≤e.cls∧e.cls≤5
theorem AIT {x:Int} (h:x∈[1,2,3,40,(200:Int)]):(0≤x∧x≤255)∧Au x=false:=by
 simp at h
 rcases h with rfl | rfl | rfl | rfl | rfl<;>exact⟨by omega,by decide⟩
theorem AHG {e:Aq} (h:Ax5 e):Ay e=true:=by
 unfold Ay
 rw[Ayq h.vers.1 (fun x hx=>by have:=h.vers.2.1 x hx;omega) h.pos,AyB h.tags.1 (fun x hx=>(AIT (h.tags.2.1 x hx)).1)]
 have h1:e.tags.any Au=false:=by
  rw[List.any_eq_false]
  intro x hx
  rw[(AIT (h.tags.2.1 x hx)).2]
  simp
 have h2:e.path.all Hg=true:=List.all_eq_true.2 fun b hb=>(h.path.2 b hb).1
 rw[h1,h2]
 have:=h.tags.2.2
 have:=h.path.1
 have:=h.cls
 simp only[Bool.true_and,Bool.and_true,Bool.not_false,Bool.and_eq_true,decide_eq_true_eq]
 exact⟨by omega,by omega,by omega,by omega⟩
abbrev Ac5 (R:Rel):Prop:=∀c:Cur,IA c→Aaa R [] c Ax5 (fun e=> .agg (Ak e))
theorem Az7 (D:Dn) (hB:Ie (D Ei)) (hI:Ae0 (D YL)) (hV:AdN (D AoR)) (hP:AdG (D Aoa)) (hU:Uc (D Kg)):Ac5 (Body D Pt):=by
 intro c hc
 refine N9 (fun Q hQ=> ?_)
 simp -implicitDefEqProofs
 obtain⟨vs,c1,hvs,hc1,pvs⟩:=hV c hc
 simp -implicitDefEqProofs [Dr,ints]at pvs
 refine Aa (pvs) ?_
 simp -implicitDefEqProofs
 obtain⟨pa,c2,hpa,hc2,ppa⟩:=hP c1 hc1
 simp -implicitDefEqProofs [Dr,ints]at ppa
 refine Aa (ppa) ?_
 simp -implicitDefEqProofs
 obtain⟨cl,c3,hcl,hc3,pcl⟩:=hB c2 6 hc2 (by omega)
 simp -implicitDefEqProofs [Dr,ints]at pcl
 refine Aa (pcl) ?_
 have hcl6:=hcl.2.2 (by omega)
 simp -implicitDefEqProofs
 obtain⟨y,c4,hy,hc4,py⟩:=hB c3 4 hc3 (by omega)
 simp -implicitDefEqProofs [Dr,ints]at py
 refine Aa (py) ?_
 have hy4:=hy.2.2 (by omega)
 obtain⟨n,rfl⟩:∃n:Nat,y=n:=⟨y.toNat,by omega⟩
 simp -implicitDefEqProofs
 obtain⟨LI,hLI⟩:∃LI:Nat→St→Prop,LI=fun k s=>∃j cc l o5,j+k=n∧IA cc∧Axy l j∧s=⟨[.ptr 0 0,.ptr 1 0,.ptr 4 0,I k,.undef],[.var (Dr cc),.var [.nil 1,.nil 1,.nil 4,I 0],.arr 1 0 vs.length (ints vs),.arr 4 0 pa.length (pa.flatMap Dy),.var [.arr 2,.arr 7,.arr 3,I cl],o5,.free,.arr 1 0 l.length (ints l)]⟩:=⟨_,rfl⟩
 refine Ad LI ?_ (n) _ (by rw[hLI];exact⟨0,c4,[],.free,by simp,hc4,⟨List.Pairwise.nil,by simp,by simp⟩,by simp[ints]⟩)
 intro k s hs
 rw[hLI]at hs
 obtain⟨j,cc,l,o5,hj,hcc,hl,hs⟩:=hs
 subst hs
 by_cases hk:0<k
 ·have hwk:IntKind.i64.wrap ((k:Int)-1)=(k-1:Nat):=by rw[Ab (by omega) (by omega)];omega
  simp -implicitDefEqProofs [hk]
  obtain⟨z,c5,hz,hc5,pz⟩:=hI cc [1,2,3,40,200] hcc (by simp) (by simp)
  simp -implicitDefEqProofs [Dr,ints]at pz
  refine Aa (pz) ?_
  simp -implicitDefEqProofs
  refine Aa (hU l z (by have:=hl.2.2;omega)) ?_
  simp -implicitDefEqProofs [hwk]
  refine⟨k-1,by omega,?_⟩
  rw[hLI]
  exact⟨j+1,c5,F3 l z,_,by omega,hc5,AF8 hl hz,rfl⟩
 ·have hk0:k=0:=by omega
  subst hk0
  simp -implicitDefEqProofs [IQ,Al]
  exact hQ ⟨vs,l,pa,cl⟩ cc ⟨hvs.1,hvs.2,⟨hl.1,hl.2.1,by have:=hl.2.2;dsimp only;omega⟩,hpa,by dsimp only;omega⟩ hcc
structure AJC (e:Aq):Prop where
 vers:e.versions.length≤5
 tags:e.tags.length≤6
 path:e.path.length≤5
 box:∀b,b∈e.path→AIw b
end Go.Eng.T
namespace Go.Eng.T
set_option maxRecDepth 20000
set_option maxHeartbeats 1000000
end Go.Eng.T
namespace Go.Eng.T
set_option maxRecDepth 20000
set_option maxHeartbeats 2000000
theorem max_mem:∀ {l:List Int} {a x:Int},x∈l→x≤l.foldl (fun a v=>if v>a then v else a) a
 | y::l,a,x,h=>by
  have ge:∀(l:List Int) (a:Int),a≤l.foldl (fun a v=>if v>a then v else a) a:=by
   intro l
   induction l with
   | nil=>intro a;exact Int.le_refl a
   | cons z l ih=>
    intro a
    simp only[List.foldl_cons]
    refine Int.le_trans ?_ (ih _)
    split<;>omega
  simp only[List.foldl_cons]
  rcases List.mem_cons.1 h with rfl | h
  ·refine Int.le_trans ?_ (ge l _)
   split<;>omega
  ·exact max_mem h
theorem Azs {s l:List Int} (hs:AU s=true) (hl:AU l=true) (h1:1∈s) (h2:1∈l):reach s l=true:=by
 unfold reach Be
 rw[if_pos ⟨hs,hl⟩]
 have hm:(1:Int)∈common s l:=List.mem_filter.2 ⟨h1,by simpa using h2⟩
 have:=max_mem (a:=0) hm
 have:¬XG (common s l)=0:=by unfold XG;omega
 simp[this]
def AbM (y:Int):List Int:=F3 [1] (2+y)
theorem Zz {y:Int} (h:0≤y∧y<2):VP (AbM y) 6 2∧1∈AbM y∧0<(AbM y).length:=
 ⟨Aj6 (ABW (by omega)) (by omega),(Vt _ _ _).2 (.inl (by simp)),put_pos _ _⟩
theorem Ayo {l:List Int} {m:Nat} (h:VP l 6 m) (h0:0<l.length):AU l=true:=Ayq h.1 (fun x hx=>by have:=h.2.1 x hx;omega) h0
def AEE (e:Aq):Prop:=Ax5 e∧1∈e.versions
theorem AEY {e:Aq} (h:Ax5 e):Ar e≤40:=by
 have h1:=h.vers.2.2
 have h2:=h.tags.2.2
 have h3:∀(l:List Gu),(∀b,b∈l→AkL b)→Cu JS l≤9*l.length:=by
  intro l
  induction l with
  | nil=>intro _;simp[Cu]
  | cons b l ih=>
   intro hb
   have:=ih (fun x hx=>hb x (by simp[hx]))
   have hb0:=hb b (by simp)
   have e1:=hb0.2.1
   have e2:=hb0.2.2
   simp only[Cu,JS,List.length_cons,List.map_cons,List.sum_cons]at *
   omega
 have:=h3 e.path h.path.2
 have:=h.path.1
 unfold Ar
 omega
theorem AGf {l:List Aq} {m:Nat} (h:∀e,e∈l→Ar e≤m):Cu Ar l≤l.length*(m+1):=by
 induction l with
 | nil=>simp[Cu]
 | cons e l ih=>
  have:=ih (fun x hx=>h x (by simp[hx]))
  have:=h e (by simp)
  simp only[Cu,List.length_cons,List.map_cons,List.sum_cons,Nat.add_mul,Nat.mul_add,Nat.mul_one]at *
  omega
theorem ADX {l:List Aq} {P:Aq→Prop} {e:Aq} (h:∀x,x∈l→P x) (he:P e):∀x,x∈l++ [e]→P x:=by
 intro x hx
 rcases List.mem_append.1 hx with hx | hx
 ·exact h x hx
 ·simp at hx;subst hx;exact he
abbrev zW:List V:=[.nil 1,.nil 1,I 0,.nil 4,I 0,.nil 1,I 0,B false,I 0,I 0,.nil 5,.nil 8,I 0,I 0,I 0]
structure Ayf (w:World):Prop where
 ok:BH w=true
 sz:Af w≤400
 ends:0<w.ends.length
 eok:∀e,e∈w.ends→AEE e
 nolog:w.log=[]
 nostage:w.stage=[]
 few:w.ends.length≤5
 start:w.now=0∧w.hurt=0
theorem Aud {y z:Int} {r:BL} {t:List Int} {es:List Aq} (hy:0≤y∧y<2) (hz:0≤z∧z<2) (hr:ADF r) (ht:VP t 200 4) (he:∀e,e∈es→AEE e) (hl:0<es.length∧es.length≤5)
 {s:List Int} (hs:s=F3 (F3 [1] (2+y)) (4+z)) {v:Int} (hv:v∈s):Ayf (Dq s t es ⟨v,r.stages,0,r.off⟩):=by
 have hs1:VP s 6 3:=by rw[hs];exact Aj6 (Zz hy).1 (by omega)
 have hs2:1∈s:=by rw[hs];exact(Vt _ _ _).2 (.inl (Zz hy).2.1)
 have hs3:0<s.length:=List.length_pos_of_mem hs2
 have hsv:=Ayo hs1 hs3
 obtain⟨⟨⟨q1,q2,q3⟩,q4,q5⟩,q6⟩:=hr
 have e1:F6 (Dq s t es ⟨v,r.stages,0,r.off⟩).server (EQ (Dq s t es ⟨v,r.stages,0,r.off⟩))=true:=by
  show F6 s _=true
  unfold F6
  rw[hsv,Bool.true_and,List.all_eq_true]
  intro l hl
  obtain⟨e,he',rfl⟩:=List.mem_map.1 hl
  have h1:=he e he'
  exact Azs hsv (Ayo h1.1.vers h1.1.pos) hs2 h1.2
 refine⟨?_,?_,hl.1,he,rfl,rfl,hl.2,rfl,rfl⟩
 ·have e2:Gf t=true:=AyB ht.1 (fun x hx=>by have:=ht.2.1 x hx;omega)
  have e3:es.all Ay=true:=List.all_eq_true.2 fun e h=>AHG (he e h).1
  have e4:A8 ⟨v,r.stages,0,r.off⟩=true:=by
   unfold A8
   dsimp only
   have hvb:=hs1.2.1 v hv
   rw[Ay0 q1 q2,q5]
   simp only[Bool.true_and,Bool.and_eq_true,decide_eq_true_eq]
   exact⟨⟨⟨⟨by omega,by omega⟩,by omega,by omega⟩,by trivial⟩,by omega,by omega⟩
  unfold BH JZ Jk Gb
  rw[e1]
  simp only[Dq,e2,e3,e4,Bool.true_and,Bool.and_true]
  simp -implicitDefEqProofs only[Bool.and_eq_true]
  exact⟨rfl,decide_eq_true (by omega),⟨decide_eq_true hv,decide_eq_true ⟨by omega,by omega⟩,decide_eq_true ⟨by omega,by omega⟩⟩,rfl,rfl,decide_eq_true ⟨by omega,by omega⟩,decide_eq_true ⟨by simp,by simp⟩,decide_eq_true ⟨by omega,by omega⟩⟩
 ·rw[ACu]
  have h1:=hs1.2.2
  have h2:=ht.2.2
  have h3:=AGf (l:=es) (m:=40) (fun e h=>AEY (he e h).1)
  have h4:es.length*41≤5*41:=Nat.mul_le_mul_right _ hl.2
  simp only[BX]
  omega
abbrev Zt (R:Rel):Prop:=∀c:Cur,IA c→Aaa R [] c Ayf (fun w=> .agg (Bn w))
theorem Av2 (D:Dn) (hB:Ie (D Ei)) (hP:Uc (D Kg)) (hR:Adi (D AoJ)) (hE:Ac5 (D Ank)) (hT:YU (D AaE)) (hN:Zq (D Al4)):Zt (Body D MR):=by
 intro c hc
 refine N9 (fun Q hQ=> ?_)
 simp -implicitDefEqProofs
 obtain⟨y,c1,hy,hc1,py⟩:=hB c 2 hc (by omega)
 simp -implicitDefEqProofs [Dr,ints]at py
 refine Aa (py) ?_
 have hy2:=hy.2.2 (by omega)
 have w1:IntKind.i64.wrap (2+y)=2+y:=Ab (by omega) (by omega)
 simp -implicitDefEqProofs [w1]
 have pp:=hP [1] (2+y) (by simp)
 simp -implicitDefEqProofs [ints]at pp
 refine Aa (pp) ?_
 simp -implicitDefEqProofs
 obtain⟨z,c2,hz,hc2,pz⟩:=hB c1 2 hc1 (by omega)
 simp -implicitDefEqProofs [Dr,ints]at pz
 refine Aa (pz) ?_
 have hz2:=hz.2.2 (by omega)
 have w2:IntKind.i64.wrap (4+z)=4+z:=Ab (by omega) (by omega)
 have hl2:=(Zz (y:=y) ⟨by omega,by omega⟩).1.2.2
 unfold AbM at hl2
 simp -implicitDefEqProofs [w2]
 have pp2:=hP (F3 [1] (2+y)) (4+z) (by omega)
 simp -implicitDefEqProofs [ints]at pp2
 refine Aa (pp2) ?_
 obtain⟨sv,hs⟩:∃sv,sv=F3 (F3 [1] (2+y)) (4+z):=⟨_,rfl⟩
 have hsp:0<sv.length:=by rw[hs];exact put_pos _ _
 have hsl:sv.length≤3:=by rw[hs];exact Nat.le_trans (VI _ _) (by omega)
 rw[←hs]
 simp -implicitDefEqProofs
 obtain⟨r,c3,hr,hc3,pr⟩:=hR c2 hc2
 simp -implicitDefEqProofs [Dr,ints]at pr
 refine Aa (pr) ?_
 have hws:IntKind.i64.wrap ((sv.length:Int)-1)=(sv.length-1:Nat):=by rw[Ab (by omega) (by omega)];omega
 have hs1:sv.length-1<sv.length:=by omega
 simp -implicitDefEqProofs [hws,hs1]
 obtain⟨x,c4,hx,hc4,px⟩:=hB c3 4 hc3 (by omega)
 simp -implicitDefEqProofs [Dr,ints]at px
 refine Aa (px) ?_
 have hx4:=hx.2.2 (by omega)
 have w3:IntKind.i64.wrap (2+x)=2+x:=Ab (by omega) (by omega)
 obtain⟨n,hn⟩:∃n:Nat,2+x=n:=⟨(2+x).toNat,by omega⟩
 simp -implicitDefEqProofs [w3,hn]
 have hv:sv[sv.length-1]∈sv:=List.getElem_mem hs1
 have w5:IntKind.i64.wrap (n:Int)=n:=Ab (by omega) (by omega)
 generalize sv[sv.length-1]=v at hv
 obtain⟨LI,hLI⟩:∃LI:Nat→St→Prop,LI=fun k s=>∃j cc es o8 o9 o10 o11 o12 o13 o14,j+k=n∧IA cc∧(es:List Aq).length=j∧(∀e,e∈es→AEE e)∧s=⟨[.ptr 0 0,.ptr 1 0,.arr 4,.ptr 6 0,.arr 24,I k,.undef,.undef,.undef],[.var (Dr cc),.var zW,.arr 1 0 1 [I 1],.arr 1 0 (F3 [1] (2+y)).length (ints (F3 [1] (2+y))),.arr 1 0 sv.length (ints sv),.arr 1 0 r.stages.length (ints r.stages),.var [I v,.arr 5,I 0,B r.off],.free,o8,o9,o10,o11,o12,o13,o14,.free,.free,.free,.free,.free,.free,.free,.free,.free,.arr 4 0 es.length (es.flatMap Ak)]⟩:=⟨_,rfl⟩
 refine Ad LI ?_ (n) _ (by rw[hLI];exact⟨0,c4,[],.free,.free,.free,.free,.free,.free,.free,by simp,hc4,rfl,by simp,by simp[ints,w5]⟩)
 intro k s hs
 rw[hLI]at hs
 obtain⟨j,cc,es,o8,o9,o10,o11,o12,o13,o14,hj,hcc,hel,hes,hs⟩:=hs
 subst hs
 by_cases hk:0<k
 ·have hwk:IntKind.i64.wrap ((k:Int)-1)=(k-1:Nat):=by rw[Ab (by omega) (by omega)];omega
  have hb1:(es.length+1)*80≤1099511627776:=by omega
  simp -implicitDefEqProofs [hk]
  obtain⟨e,c5,he,hc5,pe⟩:=hE cc hcc
  simp -implicitDefEqProofs [Dr,ints]at pe
  refine Aa (pe) ?_
  simp -implicitDefEqProofs
  obtain⟨u,c6,hu,hc6,pu⟩:=hB c5 2 hc5 (by omega)
  simp -implicitDefEqProofs [Dr,ints]at pu
  refine Aa (pu) ?_
  have hu2:=hu.2.2 (by omega)
  have w4:IntKind.i64.wrap (2+u)=2+u:=Ab (by omega) (by omega)
  simp -implicitDefEqProofs [w4]
  have pp3:=hP [1] (2+u) (by simp)
  simp -implicitDefEqProofs [ints]at pp3
  refine Aa (pp3) ?_
  simp -implicitDefEqProofs [hb1,hwk]
  have ho:=Zz (y:=u) ⟨by omega,by omega⟩
  have he1:AEE ⟨AbM u,e.tags,e.path,e.cls⟩:=⟨⟨Zu ho.1 (by omega),ho.2.2,he.tags,he.path,he.cls⟩,ho.2.1⟩
  refine⟨k-1,by omega,?_⟩
  rw[hLI]
  exact⟨j+1,c6,es++ [⟨AbM u,e.tags,e.path,e.cls⟩],_,_,_,_,_,_,_,by omega,hc6,by simp[hel],ADX hes he1,by simp[Ak,ints,AbM];exact⟨rfl,rfl,rfl,rfl,rfl,rfl,rfl⟩⟩
 ·have hk0:k=0:=by omega
  subst hk0
  simp -implicitDefEqProofs
  obtain⟨t,c7,ht,hc7,pt⟩:=hT cc hcc
  simp -implicitDefEqProofs [Dr,ints]at pt
  refine Aa (pt) ?_
  have hw:=Aud (y:=y) (z:=z) (r:=r) (t:=t) (es:=es) ⟨by omega,by omega⟩ ⟨by omega,by omega⟩ hr ht hes ⟨by omega,by omega⟩ hs hv
  have hnw:=hN sv t es ⟨v,r.stages,0,r.off⟩ (by have:=hw.sz;omega)
  have hne:PV sv t es ⟨v,r.stages,0,r.off⟩=(Dq sv t es ⟨v,r.stages,0,r.off⟩,true):=by unfold PV;rw[if_pos hw.ok]
  rw[hne]at hnw
  simp -implicitDefEqProofs
  simp -implicitDefEqProofs [Dr,ints,Dq]at hnw
  refine Aa (hnw) ?_
  simp -implicitDefEqProofs [IQ,Al]
  exact hQ _ c7 hw hc7
end Go.Eng.T
namespace Go.Eng.T
set_option maxRecDepth 20000
set_option maxHeartbeats 4000000
def F9 (w:World) (r:BL):World:={w with rollout:=r}
def Ef (w:World):World×Bool:=
 if w.reached=0 then(w,false)
 else if RL w=1 then(if(Df w.rollout).2=true then(enter (F9 w (Df w.rollout).1),true)else(w,false))
 else if RL w=2 then(if(DU w.rollout).2=true then(leave (F9 w (DU w.rollout).1),true)else(w,false))
 else(w,false)
abbrev Wy (R:Rel):Prop:=∀w:World,Af w≤4194304→R [arg (Bn w)] [] (.tup [.agg (Bn (Ef w).1),B (Ef w).2]) []
theorem Ayx (r:BL):BX (Df r).1=BX r:=by unfold Df;split<;>rfl
theorem AES (r:BL):BX (DU r).1=BX r:=by unfold DU;split<;>rfl
theorem Aue (r:BL):(DU r).1.version=r.version:=by unfold DU;split<;>rfl
theorem AtA {w:World} {r:BL} (h:BX r=BX w.rollout):Af (F9 w r)=Af w:=by simp only[Af,F9,h]
theorem Avv {w:World} {r:BL} (h:r.version=w.rollout.version):leave (F9 w r)=F9 (leave w) r:=by
 have e:G6 (F9 w r)=G6 w:=by
  funext x
  unfold G6 F9
  rw[h]
 unfold leave
 rw[e]
 rfl
theorem Arq (D:Dn) (hC:Ga (D Db)) (hN:W9 (D Ait)) (hX:Xa (D Ahy)) (hE:PL (D Vu)) (hB:WX (D AiO)) (hL:Pg (D AbG)):Wy (Body D QW):=by
 intro w hsz
 have hr:=AgP hsz
 simp -implicitDefEqProofs
 refine Aa (hC w hsz) ?_
 by_cases h0:w.reached=0
 ·have e:Ef w=(w,false):=by unfold Ef;rw[if_pos h0]
  simp -implicitDefEqProofs [h0,e]
 simp -implicitDefEqProofs [h0]
 refine Aa (hN w hsz) ?_
 by_cases g1:RL w=1
 ·simp -implicitDefEqProofs [g1]
  refine Aa (hX w.rollout hr) ?_
  have hs:=Ayx w.rollout
  by_cases hk:(Df w.rollout).2=true
  ·have e:Ef w=(enter (F9 w (Df w.rollout).1),true):=by unfold Ef;rw[if_neg h0,if_pos g1,if_pos hk]
   rw[e]
   generalize(Df w.rollout).1=r at hs
   simp -implicitDefEqProofs [hk]
   refine Aa (hE (F9 w r) (by rw[AtA hs];exact hsz)) ?_
   simp -implicitDefEqProofs
  ·have e:Ef w=(w,false):=by unfold Ef;rw[if_neg h0,if_pos g1,if_neg hk]
   rw[e]
   generalize(Df w.rollout).1=r
   simp -implicitDefEqProofs [hk]
 simp -implicitDefEqProofs [g1]
 by_cases g2:RL w=2
 ·simp -implicitDefEqProofs [g2]
  refine Aa (hB w.rollout hr) ?_
  have hv:=Aue w.rollout
  by_cases hk:(DU w.rollout).2=true
  ·have e:Ef w=(F9 (leave w) (DU w.rollout).1,true):=by unfold Ef;rw[if_neg h0,if_neg g1,if_pos g2,if_pos hk,Avv hv]
   rw[e]
   generalize(DU w.rollout).1=r
   simp -implicitDefEqProofs [hk]
   refine Aa (hL w hsz) ?_
   simp -implicitDefEqProofs [F9]
  ·have e:Ef w=(w,false):=by unfold Ef;rw[if_neg h0,if_neg g1,if_pos g2,if_neg hk]
   rw[e]
   generalize(DU w.rollout).1=r
   simp -implicitDefEqProofs [hk]
 have e:Ef w=(w,false):=by unfold Ef;rw[if_neg h0,if_neg g1,if_neg g2]
 rw[e]
 simp -implicitDefEqProofs [g2]
end Go.Eng.T
namespace Go.Eng.T
set_option maxRecDepth 20000
set_option maxHeartbeats 2000000
theorem Ajp (p:Int→Bool) (l:List Ext):(kept p l).length≤l.length:=List.length_filter_le _ _
theorem AvU (b:Gu) (h:Hello):(BM b h).1.exts.length≤h.exts.length:=by
 unfold BM
 split
 ·exact Ajp _ _
 ·simp[AQ]
theorem Apm:∀(path:List Gu) (h:Hello),(Ik path h).1.exts.length≤h.exts.length
 | [],h=>by simp[Ik]
 | b::r,h=>by
  have h1:=AvU b h
  have h2:=Apm r (BM b h).1
  unfold Ik
  split
  ·omega
  ·simp[AQ]
theorem AtL (path:List Gu) (h:Hello):(Ba path h).1.exts.length≤h.exts.length:=by
 unfold Ba
 split
 ·exact Apm _ _
 ·simp[AQ]
theorem AF6 (h:Hello) (a b:List Int):(Fz h a b).1.exts.length≤h.exts.length:=by
 unfold Fz
 split
 ·exact Ajp (fun t=> !decide (t∈b)) h.exts
 ·simp[AQ]
theorem AEG (h:Hello) (path:List Gu):(Cr h path).1.exts.length≤h.exts.length:=by
 unfold Cr fallback
 have:=AF6 h (Bo path h.versions) (Fu path (leftOf h.versions (Bo path h.versions)) h.exts)
 repeat' split
 all_goals simp[AQ]<;>omega
theorem Az6 (h seen:Hello) (vs tags:List Int) (key:Int):(AfS h seen vs tags key).tags.length≤seen.exts.length:=by
 unfold AfS
 split
 ·have:(Bh vs tags seen).1.exts.length≤seen.exts.length:=by
   unfold Bh
   split
   ·exact Nat.le_trans (Ajp (fun t=> !Au t) (Ll seen.exts tags)) (Ajp (fun t=>decide (t∈tags)) seen.exts)
   ·simp
  simpa[Ap]using this
 ·simp[Gd]
theorem AFj (h:Hello) (path:List Gu) (vs tags:List Int) (key:Int):DW (Atb h path vs tags key)≤2*h.exts.length+h.versions.length:=by
 unfold Atb
 split
 ·have h1:=AEG h path
  have h2:=AtL path (Cr h path).1
  have h3:(VG (Cr h path).1 path vs tags key).tags.length≤h.exts.length:=by
   unfold VG
   split
   ·have:=Az6 (Cr h path).1 (Ba path (Cr h path).1).1 vs tags key;omega
   ·simp[Gd]
  have h4:(Wq h (Cr h path).1).length≤h.exts.length+h.versions.length:=by
   unfold Wq leftOf
   have a1:=List.length_filter_le (fun v=> !decide (v∈(Cr h path).1.versions)) h.versions
   have a2:=List.length_filter_le (AgN (Ap (Cr h path).1.exts)) (Ap h.exts)
   have a3:(Ap h.exts).length=h.exts.length:=M0 _
   simp only[List.length_append,List.length_map]
   omega
  simp only[DW,YJ]
  omega
 ·simp[DW,YJ,Gd]
theorem AAC (l:List Ext) (seed:Int) (h:l.length≤5):(Dm l seed).length≤6:=by
 unfold Dm
 split
 ·simp;omega
 ·omega
theorem Aw6 (e:Aq) (vs tags:List Int) (key seed:Int):DW (Lm e vs tags key seed)≤21:=by
 unfold Lm
 split
 ·rename_i h1
  have h5:=Wj h1
  have e1:H9 e seed=⟨e.versions,Dm (bare e.tags) seed⟩:=by unfold H9;rw[if_pos h1]
  have h2:=AFj (H9 e seed) e.path vs tags key
  have h3:=AAC (bare e.tags) seed (by rw[Nl];exact h5)
  have h4:e.versions.length≤9:=by
   unfold Ay at h1
   simp only[Bool.and_eq_true,decide_eq_true_eq]at h1
   exact AtM h1.1
  rw[e1]at h2⊢
  dsimp only at h2⊢
  omega
 ·simp[DW,YJ,Nn,Gd]
theorem Apl (w:World) (i:Int):DW (LA w i)≤21:=by
 unfold LA
 repeat' split
 all_goals first | exact Aw6 _ _ _ _ _ | simp[DW,YJ,Nn,Gd]
def Y5 (w:World) (i:Int) (d:Eh) (on:Bool):World:=
 {w with log:=w.log++ [⟨i,w.now,on,d⟩],stage:=(if on=true then w.stage++ [d]else w.stage),hurt:=(if(on&&NK w.rollout.version d)=true then IntKind.i64.wrap (w.hurt+1)else w.hurt)}
def Ze (w:World) (i:Int):Bool:=decide (Po i 0 ((w.ends.length:Int)-1))&&(decide (w.log.length<60)&&decide (w.stage.length<60))
def EW (w:World) (i:Int):World×Bool:=if Ze w i=true then(Y5 w i (LA w i) (WI w i),true)else(w,false)
abbrev Y7 (R:Rel):Prop:=∀(w:World) (i:Int),Af w≤4194304→R [arg (Bn w),I i] [] (.tup [.agg (Bn (EW w i).1),B (EW w i).2]) []
theorem Aum (D:Dn) (hC:Ga (D Db)) (hI:Qo (D BF)) (hDo:TY (D AqU)) (hOn:Aeq (D AoF)) (hCd:VN (D Xp)) (hB:F4 (D AiF)):Y7 (Body D Sm):=by
 intro w i hsz
 have he:=ER hsz
 have hw:IntKind.i64.wrap ((w.ends.length:Int)-1)=(w.ends.length:Int)-1:=Ab (by omega) (by omega)
 simp -implicitDefEqProofs
 refine Aa (hC w hsz) ?_
 simp -implicitDefEqProofs [hw]
 refine Aa (hI _ _ _) ?_
 by_cases h1:Po i 0 ((w.ends.length:Int)-1)
 rotate_left
 ·simp -implicitDefEqProofs [h1,EW,Ze]
 by_cases h2:w.log.length<60
 rotate_left
 ·have h2':(60:Int)≤w.log.length:=by omega
  simp -implicitDefEqProofs [h1,h2,h2',EW,Ze]
 have h2':¬(60:Int)≤w.log.length:=by omega
 by_cases h3:w.stage.length<60
 rotate_left
 ·have h3':(60:Int)≤w.stage.length:=by omega
  simp -implicitDefEqProofs [h1,h2,h2',h3,h3',EW,Ze]
 have h3':¬(60:Int)≤w.stage.length:=by omega
 have e:EW w i=(Y5 w i (LA w i) (WI w i),true):=by unfold EW Ze;rw[if_pos (by simp[h1,h2,h3])]
 rw[e]
 have hds:=Apl w i
 simp -implicitDefEqProofs [h1,h2',h3']
 refine Aa (hDo w i hsz) ?_
 generalize LA w i=d at hds
 simp -implicitDefEqProofs
 refine Aa (hOn w i hsz) ?_
 generalize WI w i=on
 have b1:(w.log.length+1)*96≤1099511627776:=by omega
 have b2:(w.stage.length+1)*72≤1099511627776:=by omega
 have b3:d.up.length≤maxLen:=by unfold DW at hds;unfold maxLen;omega
 by_cases g:on=true
 rotate_left
 ·simp -implicitDefEqProofs [g,b1,Y5,Av]
 simp -implicitDefEqProofs [g,b1]
 trace_state
 refine Aa (hCd d (by omega)) ?_
 simp -implicitDefEqProofs [g,b1,b2]
 refine Aa (hB d _ b3) ?_
 by_cases g2:NK w.rollout.version d=true
 ·simp -implicitDefEqProofs [g,g2,b1,b2,Y5,Av,A9]
 ·simp -implicitDefEqProofs [g,g2,b1,b2,Y5,Av,A9]
theorem Acl (w:World) (i:Int):Af (EW w i).1+(60-(EW w i).1.log.length)*50≤Af w+(60-w.log.length)*50∧(EW w i).1.ends=w.ends∧(EW w i).1.rollout=w.rollout:=by
 unfold EW
 split
 ·rename_i h
  unfold Ze at h
  simp only[Bool.and_eq_true,decide_eq_true_eq]at h
  have hd:=Apl w i
  refine⟨?_,rfl,rfl⟩
  unfold Y5
  simp only[Af,Cu,List.length_append,List.length_cons,List.length_nil,List.map_append,List.map_cons,List.map_nil,List.sum_append,List.sum_cons,List.sum_nil,Ce]
  split
  ·simp only[List.length_append,List.length_cons,List.length_nil,List.map_append,List.map_cons,List.map_nil,List.sum_append,List.sum_cons,List.sum_nil];omega
  ·omega
 ·exact⟨Nat.le_refl _,rfl,rfl⟩
def Ayd (w:World):Nat→World
 | 0=>w
 | n+1=>(EW (Ayd w n) n).1
theorem AyZ (w:World):∀n,Af (Ayd w n)+(60-(Ayd w n).log.length)*50≤Af w+(60-w.log.length)*50
 | 0=>Nat.le_refl _
 | n+1=>Nat.le_trans (Acl (Ayd w n) n).1 (AyZ w n)
end Go.Eng.T
namespace Go.Eng.T
theorem Axh (s:List Int) (ls:List (List Int)) (v pm:Int):(OP s ls v pm).1.length≤s.length:=by
 unfold OP
 split
 ·exact List.length_filter_le _ _
 ·exact Nat.le_refl _
theorem AnB (w:World) (v pm:Int):Af (CU w v pm).1≤Af w:=by
 unfold CU
 have:=Axh w.server (EQ w) v pm
 split
 ·simp only[Af];omega
 ·exact Nat.le_refl _
end Go.Eng.T
namespace Go.Eng.T
set_option maxRecDepth 20000
set_option maxHeartbeats 4000000
def BO (w:World) (e:Event):World×Bool:=
 if e.kind=1 then EW w e.n else if e.kind=2 then FW w else if e.kind=3 then Ef w else if e.kind=4 then CU w e.n 200 else if e.kind=5 then IX w e.n
 else if e.kind=6 then JC w e.n e.box else if e.kind=7 then Ht w e.n else if e.kind=8 then Ja w e.n else(w,false)
abbrev TN (R:Rel):Prop:=∀(w:World) (e:Event),Af w≤4194304→Lg e≤4194304→R [arg (Bn w),arg (Cs e)] [] (.tup [.agg (Bn (BO w e).1),B (BO w e).2]) []
theorem AnU (D:Dn) (hC:Ga (D Db)) (h1:Y7 (D AjE)) (h2:WV (D AhO)) (h3:Wy (D AhM)) (h4:TA (D Af4)) (h5:TF (D Af6))
 (h6:Adc (D Ang)) (h7:WL (D AiI)) (h8:Zj (D AjM)):TN (Body D OV):=by
 intro w e hsz hse
 simp -implicitDefEqProofs
 by_cases g1:e.kind=1
 ·have ha:BO w e=EW w e.n:=by unfold BO;simp[g1]
  rw[ha]
  simp -implicitDefEqProofs [g1]
  refine Aa (h1 w e.n hsz) ?_
  generalize EW w e.n=r
  simp -implicitDefEqProofs
 by_cases g2:e.kind=2
 ·have ha:BO w e=FW w:=by unfold BO;simp[g2]
  rw[ha]
  simp -implicitDefEqProofs [g2]
  refine Aa (h2 w hsz) ?_
  generalize FW w=r
  simp -implicitDefEqProofs
 by_cases g3:e.kind=3
 ·have ha:BO w e=Ef w:=by unfold BO;simp[g3]
  rw[ha]
  simp -implicitDefEqProofs [g3]
  refine Aa (h3 w hsz) ?_
  generalize Ef w=r
  simp -implicitDefEqProofs
 by_cases g4:e.kind=4
 ·have ha:BO w e=CU w e.n 200:=by unfold BO;simp[g4]
  rw[ha]
  simp -implicitDefEqProofs [g4]
  refine Aa (h4 w e.n 200 hsz) ?_
  generalize CU w e.n 200=r
  simp -implicitDefEqProofs
 by_cases g5:e.kind=5
 ·have ha:BO w e=IX w e.n:=by unfold BO;simp[g5]
  rw[ha]
  simp -implicitDefEqProofs [g5]
  refine Aa (h5 w e.n hsz) ?_
  generalize IX w e.n=r
  simp -implicitDefEqProofs
 by_cases g6:e.kind=6
 ·have ha:BO w e=JC w e.n e.box:=by unfold BO;simp[g6]
  rw[ha]
  simp -implicitDefEqProofs [g6]
  refine Aa (h6 w e.n e.box hsz hse) ?_
  generalize JC w e.n e.box=r
  simp -implicitDefEqProofs
 by_cases g7:e.kind=7
 ·have ha:BO w e=Ht w e.n:=by unfold BO;simp[g7]
  rw[ha]
  simp -implicitDefEqProofs [g7]
  refine Aa (h7 w e.n hsz) ?_
  generalize Ht w e.n=r
  simp -implicitDefEqProofs
 by_cases g8:e.kind=8
 ·have ha:BO w e=Ja w e.n:=by unfold BO;simp[g8]
  rw[ha]
  simp -implicitDefEqProofs [g8]
  refine Aa (h8 w e.n hsz) ?_
  generalize Ja w e.n=r
  simp -implicitDefEqProofs
 have ha:BO w e=(w,false):=by unfold BO;simp[g1,g2,g3,g4,g5,g6,g7,g8]
 rw[ha]
 simp -implicitDefEqProofs [g1,g2,g3,g4,g5,g6,g7,g8]
 refine Aa (hC w hsz) ?_
 simp -implicitDefEqProofs
theorem AtG:∀(l:List Int) (v:Int),FI (Abl l (FI l v) v) v=FI l v∧(Abl l (FI l v) v)[FI l v]? =some v
 | [],v=>by simp[FI,Abl]
 | x::r,v=>by
  have:=AtG r v
  by_cases h:x<v
  ·have e:Abl (x::r) (FI (x::r) v) v=x::Abl r (FI r v) v:=by simp[FI,if_pos h,Abl]
   rw[e]
   simp only[FI,if_pos h]
   exact⟨by rw[this.1],by simpa using this.2⟩
  ·simp[FI,if_neg h,Abl]
theorem AvZ (l:List Int) (v:Int):F3 (F3 l v) v=F3 l v:=by
 by_cases h:l[FI l v]? =some v
 ·have e:F3 l v=l:=by unfold F3;rw[if_pos h]
  rw[e,e]
 ·have e:F3 l v=Abl l (FI l v) v:=by unfold F3;rw[if_neg h]
  have:=AtG l v
  rw[e]
  unfold F3
  rw[this.1,if_pos this.2]
theorem AB1 {l:List Int} {v:Int} (h:F3 l v=l):v∈l:=by
 unfold F3 at h
 split at h
 ·rename_i g;exact List.mem_of_getElem? g
 ·have:=congrArg List.length h
  rw[At7 (ArM l v)]at this
  omega
def lacks (v:Int) (e:Aq):Nat:=if F3 e.versions v=e.versions then 0 else 1
def Pz (v:Int) (e:Aq):Nat:=Ar e+lacks v e
def pot (w:World):Nat:=w.server.length+w.tags.length+Cu (Pz w.rollout.version) w.ends+BX w.rollout+Cu DW w.stage+Cu Ce w.log+(60-w.log.length)*50
theorem Va {α β:Type} {f:α→Nat} {g:β→Nat}:∀ {xs:List α} {ys:List β},xs.length=ys.length→(∀(i:Nat) (h:i<xs.length) (h':i<ys.length),f xs[i]≤g ys[i])→Cu f xs≤Cu g ys
 | [],[],_,_=>Nat.le_refl _
 | x::xs,y::ys,hl,h=>by
  have ih:=Va (f:=f) (g:=g) (xs:=xs) (ys:=ys) (by simpa using hl) (fun i h1 h2=>h (i+1) (by simpa using h1) (by simpa using h2))
  have h0:=h 0 (by simp) (by simp)
  simp only[Cu,List.length_cons,List.map_cons,List.sum_cons,List.getElem_cons_zero]at *
  omega
 | [],_::_,hl,_=>by simp at hl
 | _::_,[],hl,_=>by simp at hl
theorem AC2 (w:World):Af w≤pot w:=by
 have:Cu Ar w.ends≤Cu (Pz w.rollout.version) w.ends:=Va rfl (fun i h h'=>by unfold Pz;omega)
 unfold Af pot
 omega
theorem ACo (w:World):pot w≤Af w+w.ends.length+3000:=by
 have key:∀(v:Int) (l:List Aq),Cu (Pz v) l≤Cu Ar l+l.length:=by
  intro v l
  induction l with
  | nil=>simp[Cu]
  | cons e l ih=>
   have:lacks v e≤1:=by unfold lacks;split<;>omega
   simp only[Cu,Pz,List.length_cons,List.map_cons,List.sum_cons]at *
   omega
 have:=key w.rollout.version w.ends
 unfold Af pot
 omega
theorem AF5 (v:Int) (e:Aq):Pz v ⟨F3 e.versions v,e.tags,e.path,e.cls⟩≤Pz v e:=by
 have h1:=VI e.versions v
 unfold Pz lacks Ar
 dsimp only
 rw[if_pos (AvZ _ _)]
 split
 ·rename_i h;rw[h];omega
 ·omega
theorem filter_lt {p:Int→Bool} {l:List Int} {x:Int} (h:x∈l) (hp:p x=false):(l.filter p).length<l.length:=by
 induction l with
 | nil=>simp at h
 | cons a r ih=>
  have hr:=List.length_filter_le p r
  rcases List.mem_cons.1 h with rfl | h
  ·rw[List.filter_cons_of_neg (by simp[hp])]
   simp only[List.length_cons];omega
  ·have:=ih h
   rw[List.filter_cons]
   split<;>simp only[List.length_cons]<;>omega
theorem AyG (w:World) (e:Aq):Pz w.rollout.version (G6 w e)≤Pz w.rollout.version e:=by
 unfold G6
 split
 ·have h1:(EJ e.versions w.rollout.version).length≤e.versions.length:=List.length_filter_le _ _
  unfold Pz Ar
  dsimp only
  by_cases hg:F3 e.versions w.rollout.version=e.versions
  ·have h2:(EJ e.versions w.rollout.version).length<e.versions.length:=filter_lt (AB1 hg) (by simp)
   have:lacks w.rollout.version ⟨EJ e.versions w.rollout.version,e.tags,e.path,e.cls⟩≤1:=by unfold lacks;split<;>omega
   omega
  ·have h2:lacks w.rollout.version e=1:=by unfold lacks;rw[if_neg hg]
   have:lacks w.rollout.version ⟨EJ e.versions w.rollout.version,e.tags,e.path,e.cls⟩≤1:=by unfold lacks;split<;>omega
   omega
 ·exact Nat.le_refl _
theorem ApD (w:World):pot (enter w)≤pot w:=by
 unfold enter
 split
 ·have h:Cu (Pz w.rollout.version) (w.ends.mapIdx (Jl w))≤Cu (Pz w.rollout.version) w.ends:=Va (by simp) (fun i h h'=>by
   rw[List.getElem_mapIdx]
   unfold Jl
   split
   ·exact AF5 _ _
   ·exact Nat.le_refl _)
  have h0:Cu DW ([]:List Eh)=0:=rfl
  simp only[pot,h0]
  omega
 ·exact Nat.le_refl _
theorem AHE (w:World):pot (leave w)≤pot w:=by
 have h:Cu (Pz w.rollout.version) (w.ends.map (G6 w))≤Cu (Pz w.rollout.version) w.ends:=Va (by simp) (fun i h h'=>by
  rw[List.getElem_map]
  exact AyG w _)
 have h0:Cu DW ([]:List Eh)=0:=rfl
 unfold leave
 simp only[pot,h0]
 omega
theorem AtH {w:World} {r:BL} (h:BX r=BX w.rollout) (hv:r.version=w.rollout.version):pot (F9 w r)=pot w:=by
 unfold F9
 simp only[pot,h,hv]
theorem ADZ (r:BL):(Df r).1.version=r.version:=by unfold Df;split<;>rfl
theorem AxF {w:World} {j:Nat} (hj:j<w.ends.length) (e:Aq):pot {w with ends:=w.ends.set j e} +Pz w.rollout.version w.ends[j]=pot w+Pz w.rollout.version e:=by
 have:=size_set (f:=Pz w.rollout.version) hj e
 simp only[pot]
 omega
theorem AAr (w:World) (e:Event):pot (BO w e).1≤pot w+1+Lg e:=by
 unfold BO
 split
 ·have h:=Acl w e.n
  obtain⟨h1,h2,h3⟩:=h
  have h4:(EW w e.n).1.server=w.server∧(EW w e.n).1.tags=w.tags:=by unfold EW;split<;>exact⟨rfl,rfl⟩
  unfold Af at h1
  rw[h2,h3,h4.1,h4.2]at h1
  unfold pot
  rw[h2,h3,h4.1,h4.2]
  have hm:Cu Ar w.ends≤Cu (Pz w.rollout.version) w.ends:=Va rfl (fun i h h'=>by unfold Pz;omega)
  omega
 split
 ·have:=ApD w
  unfold FW
  split<;>dsimp only<;>omega
 split
 ·unfold Ef
  split
  ·dsimp only;omega
  split
  ·split
   ·have:=ApD (F9 w (Df w.rollout).1)
    rw[AtH (Ayx _) (ADZ _)]at this
    dsimp only;omega
   ·dsimp only;omega
  split
  ·split
   ·have:=AHE (F9 w (DU w.rollout).1)
    rw[AtH (AES _) (Aue _)]at this
    dsimp only;omega
   ·dsimp only;omega
  ·dsimp only;omega
 split
 ·have h:=AnB w e.n 200
  have h2:(CU w e.n 200).1.ends=w.ends∧(CU w e.n 200).1.rollout=w.rollout∧(CU w e.n 200).1.stage=w.stage∧(CU w e.n 200).1.log=w.log∧(CU w e.n 200).1.tags=w.tags:=by
   unfold CU
   repeat' split
   all_goals exact⟨rfl,rfl,rfl,rfl,rfl⟩
  unfold Af at h
  rw[h2.1,h2.2.1,h2.2.2.1,h2.2.2.2.1,h2.2.2.2.2]at h
  unfold pot
  rw[h2.1,h2.2.1,h2.2.2.1,h2.2.2.2.1,h2.2.2.2.2]
  omega
 split
 ·have h:=Anf w e.n
  unfold Af at h
  unfold pot
  unfold IX at *
  dsimp only at *
  omega
 split
 ·unfold JC
  split
  ·split
   ·rename_i x hx
    split
    ·obtain⟨hj,rfl⟩:=List.getElem?_eq_some_iff.1 hx
     have:=AxF hj ⟨w.ends[e.n.toNat].versions,w.ends[e.n.toNat].tags,w.ends[e.n.toNat].path++ [e.box],w.ends[e.n.toNat].cls⟩
     have h1:Pz w.rollout.version ⟨w.ends[e.n.toNat].versions,w.ends[e.n.toNat].tags,w.ends[e.n.toNat].path++ [e.box],w.ends[e.n.toNat].cls⟩=Pz w.rollout.version w.ends[e.n.toNat]+1+JS e.box:=by
      unfold Pz Ar lacks
      simp only[Cu,List.length_append,List.length_cons,List.length_nil,List.map_append,List.map_cons,List.map_nil,List.sum_append,List.sum_cons,List.sum_nil]
      omega
     unfold Lg
     dsimp only
     omega
    ·dsimp only;omega
   ·dsimp only;omega
  ·dsimp only;omega
 split
 ·unfold Ht
  split
  ·split
   ·rename_i x hx
    split
    ·dsimp only;omega
    ·unfold Aj3
     rw[hx]
     obtain⟨hj,rfl⟩:=List.getElem?_eq_some_iff.1 hx
     have:=AxF hj ⟨w.ends[e.n.toNat].versions,w.ends[e.n.toNat].tags,[],w.ends[e.n.toNat].cls⟩
     have h1:Pz w.rollout.version ⟨w.ends[e.n.toNat].versions,w.ends[e.n.toNat].tags,[],w.ends[e.n.toNat].cls⟩≤Pz w.rollout.version w.ends[e.n.toNat]:=by
      unfold Pz Ar lacks
      simp only[Cu,List.length_nil,List.map_nil,List.sum_nil]
      omega
     dsimp only
     omega
   ·dsimp only;omega
  ·dsimp only;omega
 split
 ·unfold Ja
  split
  ·simp only[pot];omega
  ·dsimp only;omega
 ·dsimp only;omega
def Bd (w:World) (l:List Event):World:=l.foldl (fun x e=>(BO x e).1) w
theorem AsI {w:World} {l:List Event} {j:Nat} (h:j<l.length):Bd w (l.take (j+1))=(BO (Bd w (l.take j)) l[j]).1:=by
 have e:l.take (j+1)=l.take j++ [l[j]]:=by simp
 unfold Bd
 rw[e,List.foldl_append]
 rfl
theorem ArR (w:World) (l:List Event):∀j,j≤l.length→pot (Bd w (l.take j))≤pot w+Cu Lg (l.take j)
 | 0,_=>by simp[Bd]
 | j+1,h=>by
  have hj:j<l.length:=by omega
  have h1:=ArR w l j (by omega)
  have h2:=AAr (Bd w (l.take j)) l[j]
  have e:l.take (j+1)=l.take j++ [l[j]]:=by simp
  rw[AsI hj,e]
  simp only[Cu,List.length_append,List.length_cons,List.length_nil,List.map_append,List.map_cons,List.map_nil,List.sum_append,List.sum_cons,List.sum_nil]at *
  omega
theorem AzY {α:Type} (f:α→Nat) (l:List α) (j:Nat):Cu f (l.take j)≤Cu f l:=by
 have e:l=l.take j++l.drop j:=(List.take_append_drop j l).symm
 have:Cu f l=Cu f (l.take j)+Cu f (l.drop j):=by
  conv=>lhs;rw[e]
  simp only[Cu,List.length_append,List.map_append,List.sum_append]
  omega
 omega
def AmM (w:World) (l:List Event):Prop:=Af w+w.ends.length+3000+Cu Lg l≤4194304
theorem AHi {w:World} {l:List Event} (h:AmM w l) {j:Nat} (hj:j≤l.length):Af (Bd w (l.take j))≤4194304:=by
 have h1:=ArR w l j hj
 have h2:=AC2 (Bd w (l.take j))
 have h3:=ACo w
 have h4:=AzY Lg l j
 unfold AmM at h
 omega
abbrev Wm (R:Rel):Prop:=∀(w:World) (l:List Event),AmM w l→R [arg (Bn w),.sl 1 6 l.length (l.flatMap Cs)] [] (.agg (Bn (Bd w l))) []
theorem AqI (D:Dn) (hC:Ga (D Db)) (hA:TN (D AeP)):Wm (Body D QE):=by
 intro w l hok
 have hsz:Af w≤4194304:=by unfold AmM at hok;omega
 have hle:Cu Lg l≤4194304:=by unfold AmM at hok;omega
 have hll:=K6 (f:=Lg) (xs:=l)
 simp -implicitDefEqProofs
 refine Aa (hC w hsz) ?_
 simp -implicitDefEqProofs
 refine Ad (fun k s=>∃j,j+k=l.length∧s=⟨[.undef,.sl 1 6 l.length (l.flatMap Cs),.undef,.ptr 1 0,.ptr 8 0,I j,.undef],[.var ((Bn w).map (AL 1)),.var [.nil 1,.nil 1,I 0,.nil 4,I 0,.nil 1,I 0,B false,I 0,I 0,.nil 5,.nil 8,I 0,I 0,I 0],.free,.free,.free,.free,.free,.free,.var [.arr 15,.arr 16,I (Bd w (l.take j)).key,.arr 17,I (Bd w (l.take j)).rollout.version,.arr 18,I (Bd w (l.take j)).rollout.pos,B (Bd w (l.take j)).rollout.off,I (Bd w (l.take j)).least,I (Bd w (l.take j)).percent,.arr 19,.arr 20,I (Bd w (l.take j)).now,I (Bd w (l.take j)).hurt,I (Bd w (l.take j)).reached],.free,.free,.free,.free,.free,.free,.arr 1 0 (Bd w (l.take j)).server.length (ints (Bd w (l.take j)).server),.arr 1 0 (Bd w (l.take j)).tags.length (ints (Bd w (l.take j)).tags),.arr 4 0 (Bd w (l.take j)).ends.length ((Bd w (l.take j)).ends.flatMap Ak),.arr 1 0 (Bd w (l.take j)).rollout.stages.length (ints (Bd w (l.take j)).rollout.stages),.arr 5 0 (Bd w (l.take j)).stage.length ((Bd w (l.take j)).stage.flatMap A9),.arr 8 0 (Bd w (l.take j)).log.length ((Bd w (l.take j)).log.flatMap Av)]⟩) ?_ (l.length) _ ⟨0,by simp,by simp[Bd]⟩
 intro k s ⟨j,hj,hs⟩
 subst hs
 by_cases hjn:j<l.length
 ·have hw:IntKind.i64.wrap ((j:Int)+1)=(j+1:Nat):=by rw[Ab (by omega) (by omega)];simp
  have hst:=AsI (w:=w) hjn
  have hsj:=AHi hok (j:=j) (by omega)
  have hej:=size_at (f:=Lg) hjn
  simp -implicitDefEqProofs [hjn]
  refine Aa (hA (Bd w (l.take j)) l[j] hsj (by omega)) ?_
  rw[←hst]
  simp -implicitDefEqProofs
  exact⟨k-1,by omega,j+1,by omega,by simp[hw]⟩
 ·have e:l.take j=l:=List.take_of_length_le (by omega)
  simp -implicitDefEqProofs [hjn,e]
end Go.Eng.T
namespace Go.Eng.T
set_option maxRecDepth 20000
set_option maxHeartbeats 2000000
def AyX (e:Event):Prop:=1≤e.kind∧e.kind≤8∧0≤e.n∧e.n≤6∧AkL e.box
theorem AFQ {e:Event} (h:AyX e):Lg e≤8:=by
 have h1:=h.2.2.2.2.2.1
 have h2:=h.2.2.2.2.2.2
 unfold Lg JS
 omega
theorem AsZ:∀(l:List Event),(∀e,e∈l→AyX e)→Cu Lg l≤9*l.length
 | [],_=>by simp[Cu]
 | a::r,h=>by
  have h1:=AFQ (h a (by simp))
  have h2:=AsZ r (fun e he=>h e (by simp[he]))
  simp only[Cu,List.length_cons,List.map_cons,List.sum_cons]at *
  omega
theorem Rt:AkL ⟨0,[],[],false⟩:=by
 have hn:=Zu (ArC 200) (show 0≤4 by omega)
 exact Afn (by dsimp only;omega) hn hn
abbrev Zl (R:Rel):Prop:=∀c:Cur,IA c→Aaa R [] c AyX (fun e=> .agg (Cs e))
theorem Awj (D:Dn) (hB:Ie (D Ei)) (hX:YO (D AaF)):Zl (Body D MI):=by
 intro c hc
 refine N9 (fun Q hQ=> ?_)
 simp -implicitDefEqProofs
 obtain⟨x,c1,hx,hc1,px⟩:=hB c 12 hc (by omega)
 simp -implicitDefEqProofs [Dr,ints]at px
 refine Aa (px) ?_
 by_cases g0:x=0
 ·simp -implicitDefEqProofs [g0,IQ,Al]
  exact hQ ⟨2,0,⟨0,[],[],false⟩⟩ c1 ⟨by dsimp only;omega,by dsimp only;omega,by dsimp only;omega,by dsimp only;omega,Rt⟩ hc1
 by_cases g1:x=1
 ·simp -implicitDefEqProofs [g1,IQ,Al]
  exact hQ ⟨3,0,⟨0,[],[],false⟩⟩ c1 ⟨by dsimp only;omega,by dsimp only;omega,by dsimp only;omega,by dsimp only;omega,Rt⟩ hc1
 by_cases g2:x=2
 ·simp -implicitDefEqProofs [g2,IQ,Al]
  exact hQ ⟨3,0,⟨0,[],[],false⟩⟩ c1 ⟨by dsimp only;omega,by dsimp only;omega,by dsimp only;omega,by dsimp only;omega,Rt⟩ hc1
 by_cases g3:x=3
 ·simp -implicitDefEqProofs [g3]
  obtain⟨y,c2,hy,hc2,py⟩:=hB c1 5 hc1 (by omega)
  simp -implicitDefEqProofs [Dr,ints]at py
  refine Aa (py) ?_
  have hyn:=hy.2.2 (by omega)
  have w1:IntKind.i64.wrap (1+y)=1+y:=Ab (by omega) (by omega)
  simp -implicitDefEqProofs [w1,IQ,Al]
  exact hQ ⟨4,1+y,⟨0,[],[],false⟩⟩ c2 ⟨by dsimp only;omega,by dsimp only;omega,by dsimp only;omega,by dsimp only;omega,Rt⟩ hc2
 by_cases g4:x=4
 ·simp -implicitDefEqProofs [g4]
  obtain⟨y,c2,hy,hc2,py⟩:=hB c1 6 hc1 (by omega)
  simp -implicitDefEqProofs [Dr,ints]at py
  refine Aa (py) ?_
  have hyn:=hy.2.2 (by omega)
  have w1:IntKind.i64.wrap (1+y)=1+y:=Ab (by omega) (by omega)
  simp -implicitDefEqProofs [w1,IQ,Al]
  exact hQ ⟨5,1+y,⟨0,[],[],false⟩⟩ c2 ⟨by dsimp only;omega,by dsimp only;omega,by dsimp only;omega,by dsimp only;omega,Rt⟩ hc2
 by_cases g5:x=5
 ·simp -implicitDefEqProofs [g5]
  obtain⟨y,c2,hy,hc2,py⟩:=hB c1 5 hc1 (by omega)
  simp -implicitDefEqProofs [Dr,ints]at py
  refine Aa (py) ?_
  have hyn:=hy.2.2 (by omega)
  simp -implicitDefEqProofs
  obtain⟨b,c3,hb,hc3,pb⟩:=hX c2 hc2
  simp -implicitDefEqProofs [Dr,ints]at pb
  refine Aa (pb) ?_
  simp -implicitDefEqProofs [IQ,Al]
  exact hQ ⟨6,y,b⟩ c3 ⟨by dsimp only;omega,by dsimp only;omega,by dsimp only;omega,by dsimp only;omega,hb⟩ hc3
 by_cases g6:x=6
 ·simp -implicitDefEqProofs [g6]
  obtain⟨y,c2,hy,hc2,py⟩:=hB c1 5 hc1 (by omega)
  simp -implicitDefEqProofs [Dr,ints]at py
  refine Aa (py) ?_
  have hyn:=hy.2.2 (by omega)
  simp -implicitDefEqProofs [IQ,Al]
  exact hQ ⟨7,y,⟨0,[],[],false⟩⟩ c2 ⟨by dsimp only;omega,by dsimp only;omega,by dsimp only;omega,by dsimp only;omega,Rt⟩ hc2
 by_cases g7:x=7
 ·simp -implicitDefEqProofs [g7]
  obtain⟨y,c2,hy,hc2,py⟩:=hB c1 3 hc1 (by omega)
  simp -implicitDefEqProofs [Dr,ints]at py
  refine Aa (py) ?_
  have hyn:=hy.2.2 (by omega)
  have w1:IntKind.i64.wrap (1+y)=1+y:=Ab (by omega) (by omega)
  simp -implicitDefEqProofs [w1,IQ,Al]
  exact hQ ⟨8,1+y,⟨0,[],[],false⟩⟩ c2 ⟨by dsimp only;omega,by dsimp only;omega,by dsimp only;omega,by dsimp only;omega,Rt⟩ hc2
 ·simp -implicitDefEqProofs [g0,g1,g2,g3,g4,g5,g6,g7]
  obtain⟨y,c2,hy,hc2,py⟩:=hB c1 5 hc1 (by omega)
  simp -implicitDefEqProofs [Dr,ints]at py
  refine Aa (py) ?_
  have hyn:=hy.2.2 (by omega)
  simp -implicitDefEqProofs [IQ,Al]
  exact hQ ⟨1,y,⟨0,[],[],false⟩⟩ c2 ⟨by dsimp only;omega,by dsimp only;omega,by dsimp only;omega,by dsimp only;omega,Rt⟩ hc2
abbrev V5 (R:Rel):Prop:=∀(c:Cur) (m:Int),IA c→m≤100→Aaa R [I m] c (fun l:List Event=>(∀e,e∈l→AyX e)∧0<l.length∧(l.length:Int)≤1+(if 0<m then m-1 else 0)) (fun l=> .sl 0 6 l.length (l.flatMap Cs))
theorem AtB (D:Dn) (hB:Ie (D Ei)) (hE:Zl (D AmK)):V5 (Body D Lj):=by
 intro c m hc hm
 refine N9 (fun Q hQ=> ?_)
 simp -implicitDefEqProofs
 obtain⟨x,c1,hx,hc1,px⟩:=hB c m hc (by omega)
 simp -implicitDefEqProofs [Dr,ints]at px
 refine Aa (px) ?_
 have hxm:0≤x∧x≤(if 0<m then m-1 else 0):=by
  refine⟨hx.1,?_⟩
  by_cases g:0<m
  ·have:=hx.2.2 g
   rw[if_pos g];omega
  ·have:=hx.2.1 (by omega)
   rw[if_neg g];omega
 have hx100:x≤100:=by
  have:=hxm.2
  split at this<;>omega
 obtain⟨n,rfl⟩:∃n:Nat,x=n:=⟨x.toNat,by omega⟩
 simp -implicitDefEqProofs
 obtain⟨LI,hLI⟩:∃LI:Nat→St→Prop,LI=fun k s=>∃cd l o1 o2 o3 o4 o5,k≤n∧(l:List Event).length+k=n+1∧(∀e,e∈l→AyX e)∧IA cd∧s=⟨[.ptr 0 0,.undef,.undef,.arr 6,I k,.undef],[.var (Dr cd),o1,o2,o3,o4,o5,.arr 6 0 l.length (l.flatMap Cs)]⟩:=⟨_,rfl⟩
 refine Ad LI ?_ n _ (by
  rw[hLI]
  exact⟨c1,[⟨2,0,⟨0,[],[],false⟩⟩],.free,.free,.free,.free,.free,by omega,by simp;omega,fun e he=>by
   rw[List.mem_singleton.1 he]
   exact⟨by dsimp only;omega,by dsimp only;omega,by dsimp only;omega,by dsimp only;omega,Rt⟩,hc1,by simp[Dr,Cs,ints]⟩)
 intro k s hs
 rw[hLI]at hs
 obtain⟨cd,l,o1,o2,o3,o4,o5,hkn,hlk,hl,hcd,hs⟩:=hs
 subst hs
 by_cases hk:0<k
 ·have hwk:IntKind.i64.wrap ((k:Int)-1)=(k-1:Nat):=by rw[Ab (by omega) (by omega)];omega
  have hb1:(l.length+1)*80≤1099511627776:=by omega
  simp -implicitDefEqProofs [hk]
  obtain⟨e,c5,he,hc5,pe⟩:=hE cd hcd
  simp -implicitDefEqProofs [Dr,ints]at pe
  refine Aa (pe) ?_
  simp -implicitDefEqProofs [hb1,hwk]
  refine⟨k-1,by omega,?_⟩
  rw[hLI]
  exact⟨c5,l++ [e],_,_,_,_,_,by omega,by simp;omega,fun x hx=>by
   rcases List.mem_append.1 hx with hx | hx
   ·exact hl x hx
   ·rw[List.mem_singleton.1 hx];exact he,hc5,by simp[Dr,Cs,ints];exact⟨rfl,rfl,rfl,rfl,rfl⟩⟩
 ·have hk0:k=0:=by omega
  subst hk0
  simp -implicitDefEqProofs [IQ,Al]
  exact hQ l cd ⟨hl,by omega,by have:=hxm.2;omega⟩ hcd
end Go.Eng.T
namespace Go.Eng.T
set_option maxRecDepth 20000
set_option maxHeartbeats 2000000
def apart (w:World) (j:Nat):Bool:=match w.ends[j]? with
 | some e=>Mq e.path&&(!(LA w j).deal.ok|| !decide ((LA w j).deal.version=Be w.server e.versions))
 | none=>false
def JY (w:World):Bool:=F6 w.server (EQ w)&&PY (fun j=> !apart w j) w.ends.length
theorem ACR {w:World} {j:Nat} (h:j<w.ends.length) (ha:apart w j=true):JY w=false:=by
 unfold JY
 rw[AjP (q:=fun j=> !apart w j) h (by simp[ha])]
 simp
abbrev Py (R:Rel):Prop:=∀w:World,Af w≤4194304→R [arg (Bn w)] [] (B (JY w)) []
theorem AoM (D:Dn) (hD:TY (D Ari)) (hK:Rw (D AdS)) (hB:DY (D Om)) (hL:K8 (D AaI)) (hA:Kz (D Yi)):Py (Body D NY):=by
 intro w hsz
 have he:=ER hsz
 have hws:=Ms hsz
 simp -implicitDefEqProofs
 refine Aa (hL w hsz) ?_
 simp -implicitDefEqProofs
 refine Aa (hA w.server (EQ w) hws.1 (Aee hsz)) ?_
 by_cases g0:F6 w.server (EQ w)=true
 rotate_left
 ·simp -implicitDefEqProofs [JY,g0]
 simp -implicitDefEqProofs [g0]
 refine Ad (fun k s=>∃j o2 o3 o4 o5,j+k=w.ends.length∧PY (fun j=> !apart w j) j=true∧s=⟨[.undef,.ptr 0 0,.undef,.undef,.undef,.undef,.undef,.sl 1 4 w.ends.length (w.ends.flatMap Ak),I w.ends.length,I j,.undef,.undef],[.var ((Bn w).map (AL 1)),.arr 1 0 (EQ w).length (JB (EQ w)),o2,o3,o4,o5]⟩) ?_ (w.ends.length) _ ⟨0,.free,.free,.free,.free,by simp,by simp,by simp⟩
 intro k s ⟨j,o2,o3,o4,o5,hj,hp,hs⟩
 subst hs
 by_cases hjn:j<w.ends.length
 ·have hw:IntKind.i64.wrap ((j:Int)+1)=(j+1:Nat):=by rw[Ab (by omega) (by omega)];simp
  have hst:=JX (fun j=> !apart w j) j
  have hes:=Vw hsz hjn
  simp -implicitDefEqProofs [hjn]
  refine Aa (hD w j hsz) ?_
  generalize hd:LA w j=d
  have hap:apart w j=(Mq w.ends[j].path&&(!d.deal.ok|| !decide (d.deal.version=Be w.server w.ends[j].versions))):=by unfold apart;simp[hjn,hd]
  simp -implicitDefEqProofs
  refine Aa (hK w.ends[j].path (Abs hes).2.2) ?_
  by_cases g1:Mq w.ends[j].path=true
  rotate_left
  ·have ha:apart w j=false:=by rw[hap];simp[g1]
   rw[ha]at hst
   simp -implicitDefEqProofs [g1,hjn]
   exact⟨k-1,by omega,j+1,by omega,by rw[hst,hp];rfl,by simp[hw]⟩
  by_cases g2:d.deal.ok=true
  rotate_left
  ·have ha:apart w j=true:=by rw[hap];simp[g1,g2]
   simp -implicitDefEqProofs [g1,g2,hjn,ACR hjn ha]
  simp -implicitDefEqProofs [g1,g2,hjn]
  refine Aa (hB w.server w.ends[j].versions hws.1 (Zf hes)) ?_
  generalize Be w.server w.ends[j].versions=b at hap
  by_cases g3:d.deal.version=b
  ·have ha:apart w j=false:=by rw[hap];simp[g1,g2,g3]
   rw[ha]at hst
   simp -implicitDefEqProofs [g1,g2,g3,hjn]
   exact⟨k-1,by omega,j+1,by omega,by rw[hst,hp];rfl,by simp[hw]⟩
  ·have ha:apart w j=true:=by rw[hap];simp[g1,g2,g3]
   simp -implicitDefEqProofs [g1,g2,g3,hjn,ACR hjn ha]
 ·obtain rfl:j=w.ends.length:=by omega
  simp -implicitDefEqProofs [JY,g0,hp]
def Gm (w:World):ByteArray:=
 if BH w=true then(if Vo w=true then(if JY w=true then(if w.hurt=cntF (MC w) w.log then(if w.log.any UW=true then⟨#[115,111,98,101,114]⟩else⟨#[]⟩)else⟨#[99,111,117,110,116]⟩)else⟨#[116,111,103,101,116,104,101,114]⟩)else⟨#[98,111,117,110,100]⟩)else⟨#[119,111,114,108,100]⟩
abbrev AdP (R:Rel):Prop:=∀w:World,Af w≤4194304→R [arg (Bn w)] [] (S (Gm w)) []
theorem Av9 (D:Dn) (hW:Nj (D AaC)) (hB:Te (D Xq)) (hT:Py (D Vx)) (hC:SF (D Xv)) (hS:Yj (D Aau)):AdP (Body D UZ):=by
 intro w hsz
 simp -implicitDefEqProofs
 refine Aa (hW w hsz) ?_
 by_cases g1:BH w=true
 rotate_left
 ·simp -implicitDefEqProofs [g1,Gm]
 simp -implicitDefEqProofs [g1]
 refine Aa (hB w hsz) ?_
 by_cases g2:Vo w=true
 rotate_left
 ·simp -implicitDefEqProofs [g1,g2,Gm]
 simp -implicitDefEqProofs [g2]
 refine Aa (hT w hsz) ?_
 by_cases g3:JY w=true
 rotate_left
 ·simp -implicitDefEqProofs [g1,g2,g3,Gm]
 simp -implicitDefEqProofs [g3]
 refine Aa (hC w hsz) ?_
 by_cases g4:w.hurt=cntF (MC w) w.log
 rotate_left
 ·simp -implicitDefEqProofs [g1,g2,g3,g4,Gm]
 simp -implicitDefEqProofs [←g4]
 refine Aa (hS w hsz) ?_
 by_cases g5:w.log.any UW=true
 ·simp -implicitDefEqProofs [g1,g2,g3,g5,←g4,Gm]
 ·simp -implicitDefEqProofs [g1,g2,g3,g5,←g4,Gm]
end Go.Eng.T
namespace Go.Eng.T
set_option maxRecDepth 20000
set_option maxHeartbeats 2000000
theorem ADf (p:Int→Bool) (l:List Ext):(kept p l).length≤l.length:=List.length_filter_le _ _
theorem Auh (b:Gu) (h:Hello):(BM b h).1.exts.length≤h.exts.length:=by
 unfold BM
 split
 ·exact ADf _ _
 ·simp[AQ]
theorem Axl:∀(path:List Gu) (h:Hello),(Ik path h).1.exts.length≤h.exts.length
 | [],h=>Nat.le_refl _
 | b::r,h=>by
  unfold Ik
  split
  ·exact Nat.le_trans (Axl r _) (Auh b h)
  ·simp[AQ]
end Go.Eng.T
namespace Go.Eng.T
set_option maxRecDepth 20000
set_option maxHeartbeats 2000000
def AIA (bs:List Int):Prop:=bs.length≤1048576∧∀b,b∈bs→0≤b∧b≤255
def Ayr (R:Rel) (bs:List Int) {α:Type} (P:α→Prop) (res:α→V):Prop:=∃a,P a∧R [.sl 3 1 bs.length (u8s bs)] [] (res a) []
theorem Ayn {D:Dn} {f:Bl} {bs:List Int} {α:Type} {P:α→Prop} {res:α→V} (h:∀Q:V→List O→Prop,(∀a,P a→Q (res a) [])→Ax1 D f [.sl 3 1 bs.length (u8s bs)] [] Q):Ayr (Body D f) bs P res:=by
 obtain⟨v,o,⟨a,h1,rfl,rfl⟩,h3⟩:=ArB (P:=fun v o=>∃a,P a∧v=res a∧o=[]) (fun Q hQ=>h Q (fun a h1=>hQ _ _ ⟨a,h1,rfl,rfl⟩))
 exact⟨a,h1,h3⟩
end Go.Eng.T
namespace Go.Eng.T
set_option maxRecDepth 20000
set_option maxHeartbeats 2000000
abbrev AFE (R:Rel):Prop:=∀bs:List Int,bs.length≤maxLen→R [.sl 3 1 bs.length (u8s bs)] [] (B (decide (1048576<bs.length))) []
theorem AIO (D:Dn):AFE (Body D AeZ):=by
 intro bs h
 unfold maxLen at h
 by_cases h1:1048576<bs.length
 ·have h1':(1048576:Int)<bs.length:=by omega
  simp -implicitDefEqProofs [h1,h1']
 ·have h1':¬(1048576:Int)<bs.length:=by omega
  simp -implicitDefEqProofs [h1,h1']
def AE0 (bs:List Int):Prop:=bs.length≤maxLen∧∀b,b∈bs→0≤b∧b≤255
end Go.Eng.T
namespace Go.Eng.T
open Go.Eng.X
def EC:Nat→Bj
 |0=>R 0 [m (z 2)] [] [2]
 |1=>R 1 [m (s 0),C 318 [r (l 0)] [0],m (s 1),C 319 [r (l 2)] [],m (l 1),m (l 3)] [(3,4),(4,5)] []
 |2=>R 2 [m (s 0),C 320 [r (l 0)] [],n (l 1),m (l 2),G 3 (m (s 0)),G 3 (e (l 4)),G 3 (y .eql (l 5) (i 6)),k (l 3) t (l 6),m (l 7),G 8 (m (s 0)),G 8 (m (s 4)),G 8 (C 321 [r (l 9),r (l 10)] []),G 8 (y .geq (l 11) (i 0)),k (l 8) t (l 12)] [(6,13)] []
 |3=>R 3 [m (s 3),m (l 0)] [(2,1)] [0,1,3,4]
 |4=>R 4 [m (s 1),C 322 [r (l 0),r (i 3),r (i 256)] [],M 1 1 1 [l 1],m (s 1),C 322 [r (l 3),r (i 2),r (i 3)] [],C 323 [r (l 2),r (l 4)] [2],m (l 5)] [(5,6)] []
 |_=>R 5 [m (s 3),m (s 1),m (s 0),e (l 2),y .add (l 3) (i 1),C 322 [r (l 1),r (i 1),r (l 4)] [],m (s 4),m (s 5),b [o,N 1] [(0,1,l 6),(1,1,l 7)],M 3 2 1 [l 8],C 324 [v (l 0),r (l 5),v (l 9)] [4],m (l 10)] [(2,11)] [0,1,3,4,5]
def OI:Bl:=⟨7,5,[0,1],0,false,[],j (d (EC 0)) (j (d (EC 1)) (j (j (d (EC 2)) (h 6 (j (d (EC 3)) (.ret)) (.skip))) (j (d (EC 4)) (j (d (EC 5)) (.ret))))),[.slot 2]⟩
def AbT:List Tmp:=[0,1,4,5,6,7,25]
def D7:Nat→Bj
 |0=>R 0 [m f] [] [1]
 |1=>R 1 [m (s 0),C 460 [r (l 0)] []] [(5,1)] []
 |2=>R 2 [m t] [(1,0)] [0]
 |3=>R 3 [m (s 0),C 538 [r (l 0)] [0,1,2,3,4,5],a 6 zW,W 15 (l 2) (l 1)] [(2,2)] [0]
 |4=>R 4 [P 15 (s 2),C 133 [r (l 0)] [],m (l 1)] [(3,2)] []
 |5=>R 5 [P 15 (s 2),C 184 [r (l 0)] [],m (l 1),J 2 (P 15 (s 2)),J 2 (C 200 [r (l 3)] []),k (l 2) (l 4) f,m (l 5),J 6 (P 15 (s 2)),J 6 (C 201 [r (l 7)] []),k (l 6) (l 8) f,m (l 9),J 10 (P 15 (s 2)),J 10 (C 202 [r (l 11)] []),k (l 10) (l 12) f,m (l 13),J 14 (P 15 (s 2)),J 14 (C 203 [r (l 15)] []),k (l 14) (l 16) f,m (l 17)] [(4,18)] []
 |_=>R 6 [m (s 3),y .eql (l 0) (.con (.sc (.string ⟨#[]⟩))),m (s 4),Lu.beq false (l 1) (l 2),m (l 3),J 4 (m (s 3)),J 4 (y .eql (l 5) (.con (.sc (.string ⟨#[119,111,114,108,100]⟩)))),J 4 (P 15 (s 2)),J 4 (C 184 [r (l 7)] []),J 4 (n (l 8)),J 4 (.beq false (l 6) (l 9)),k (l 4) (l 10) f,m (l 11)] [(1,12)] [2,3,4]
def Rl:Bl:=⟨6,7,[0],0,false,[],j (d (D7 0)) (j (j (d (D7 1)) (h 5 (j (d (D7 2)) (.ret)) (.skip))) (j (d (D7 3)) (j (d (D7 4)) (j (d (D7 5)) (j (d (D7 6)) (.ret)))))),[.slot 1]⟩
def AcW:List Tmp:=[0,2,3,4,5,7]
def KT:Nat→Bj
 |0=>R 0 [a 0 zW] [(1,0)] []
 |_=>R 1 [m (s 0),C 540 [r (l 0)] [1,2,3,4,5,6],W 15 (s 1) (l 1)] [] [0]
def JD:Bl:=⟨2,7,[0],0,false,[],j (d (KT 0)) (j (d (KT 1)) (.ret)),[.cell 1 (some 15)]⟩
def ZN:List Tmp:=[0,2]
def Ic:Nat→Bj
 |0=>R 0 [a 0 zW] [(1,0)] []
 |1=>R 1 [m (s 0),C 473 [r (l 0)] [1],m (l 1)] [(2,2)] [0]
 |_=>R 2 [m (s 2),C 541 [v (l 0)] [2,3,4,5,6,7],W 15 (s 1) (l 1)] [] [2]
def I4:Bl:=⟨3,8,[0],0,false,[],j (d (Ic 0)) (j (d (Ic 1)) (j (d (Ic 2)) (.ret))),[.cell 1 (some 15)]⟩
def Yk:List Tmp:=[0,2,3]
def Az:Nat→Bj
 |0=>R 0 [a 1 zW] [(1,0)] []
 |1=>Q 1 [m (s 0),C 479 [v (l 0)] [2,3,4,5,6,7],a 8 zW,W 15 (l 2) (l 1)] [(2,2)] [] [] [w 2 20]
 |2=>Y 2 [D (P 15 (s 2)) [8] [],D (m (s 0)) [] [],D (C 484 [v (l 1),r (i 14)] [9]) [0,9] [0,9],D (C 485 [r (l 0),r (l 2)] [10,11,12,13,14,15]) [3,4,5,6,7,9,10,11,12,13,14,15,20] [10,11,12,13,14,15],D (W 15 (s 2) (l 3)) [8] [8]] [] [] [] [w 10 20]
 |3=>R 3 [m (s 0),C 478 [v (l 0),r (i 12)] []] [(4,1)] []
 |4=>R 4 [y .eql (s 4) (i 0),m (l 0)] [(5,1)] []
 |5=>R 5 [F (s 2) 13,W 1 (l 0) (i 0)] [] [0,4]
 |6=>R 6 [y .eql (s 4) (i 1),m (l 0)] [(6,1)] []
 |7=>R 7 [F (s 2) 14,W 1 (l 0) (i 0)] [] [0,4]
 |8=>R 8 [y .eql (s 4) (i 2),m (l 0)] [(7,1)] []
 |9=>R 9 [F (s 2) 11,L (l 0),e (l 1),y .gtr (l 2) (i 0)] [(8,3)] [4]
 |10=>T 10 [D (F (s 2) 11) [] [],D (L (l 0)) [8] [],D (m (s 0)) [] [],D (M 16 1 3 [i 0,i 9,i 10]) [16] [16],D (C 481 [v (l 2),r (l 3)] []) [0,16] [0],D (m (s 0)) [] [],D (M 17 1 2 [i 1,i 10]) [17] [17],D (C 481 [v (l 5),r (l 6)] []) [0,17] [0],D (M 18 1 1 [l 7]) [18] [18],D (b [c,o,N 1] [(0,1,t),(1,1,l 4),(2,1,l 8)]) [] [],D (A 8 (l 1) (i 0)) [15] [],D (F (l 10) 3) [] [],D (F (l 11) 0) [] [],D (W 3 (l 12) (l 9)) [15,18] [15,18]] [] [0]
 |11=>R 11 [y .eql (s 4) (i 3),m (l 0)] [(9,1)] [0]
 |12=>Q 12 [F (s 2) 4,F (l 0) 0,L (l 1),M 19 1 1 [l 2],F (s 2) 0,W 1 (l 4) (l 3)] [] [4] [] [w 19 20]
 |13=>R 13 [y .eql (s 4) (i 4),m (l 0)] [(10,1)] []
 |14=>R 14 [F (s 2) 12,W 1 (l 0) (i (-1))] [] [4]
 |15=>R 15 [y .eql (s 4) (i 5),m (l 0)] [(11,1)] [4]
 |16=>R 16 [m (i 0)] [(3,0)] []
 |17=>R 17 [m (s 3),F (s 2) 11,L (l 1),e (l 2),y .lss (l 0) (l 3)] [(12,4)] []
 |18=>R 19 [F (s 2) 11,L (l 0),m (s 3),A 8 (l 1) (l 2),F (l 3) 2,W 1 (l 4) t] [] []
 |19=>R 18 [m (s 3),y .add (l 0) (i 1),m (l 1)] [(3,2)] []
 |_=>R 20 [P 15 (s 2),W 15 (s 1) (l 0)] [] [2]
def MX:Bl:=⟨13,21,[0],1,false,[],j (d (Az 0)) (j (d (Az 1)) (j (d (Az 2)) (j (j (d (Az 3)) (.block 0 (j (d (Az 4)) (h 5 (d (Az 5)) (j (d (Az 6)) (h 6 (d (Az 7)) (j (d (Az 8)) (h 7 (j (d (Az 9)) (h 8 (d (Az 10)) (.skip))) (j (d (Az 11)) (h 9 (d (Az 12)) (j (d (Az 13)) (h 10 (d (Az 14)) (j (d (Az 15)) (h 11 (j (d (Az 16)) (.block 1 (.loop (j (j (d (Az 17)) (h 12 (.skip) (.exit 1))) (j (.block 2 (d (Az 18))) (d (Az 19))))))) (.skip))))))))))))))) (j (d (Az 20)) (.ret))))),[.cell 1 (some 15)]⟩
def Agj:List Tmp:=[0,2,3,4,12,13,16,19,24,38,45,48,54]
def Ai:Nat→Bj
 |0=>R 0 [m (z 1)] [] [1]
 |1=>R 1 [m (i 0)] [(2,0)] []
 |2=>R 2 [m (s 0),e (l 0),m (i 0)] [(6,0),(7,1),(8,2)] []
 |3=>R 3 [y .lss (s 8) (s 7)] [(9,0)] []
 |4=>R 4 [A 1 (s 6) (s 8),L (l 0),m (l 1)] [(3,2)] []
 |5=>R 5 [m (s 2),m (s 3),e (l 1),y .add (l 0) (l 2),m (l 3)] [(2,4)] [3]
 |6=>R 6 [m (s 2),y .lss (l 0) (i 0)] [(10,1)] []
 |7=>R 8 [y .add (s 8) (i 1),m (l 0)] [(8,1)] []
 |8=>Q 9 [m (s 2),C 419 [r (.con (.sc (.slice none 0 0))),r (l 0)] [0],m (l 1)] [(4,2)] [2,6,7,8] [] [w 0 2]
 |9=>R 10 [m (s 0),e (l 0),m (i 0)] [(11,0),(12,1),(13,2)] [0]
 |10=>R 11 [y .lss (s 13) (s 12)] [(14,0)] []
 |11=>R 12 [A 1 (s 11) (s 13),L (l 0),m (l 1)] [(5,2)] []
 |12=>Q 13 [m (s 4),m (s 5),q 1 1 8 (l 0) (l 1),m (l 2)] [(4,3)] [5] [1] [w 1 2]
 |13=>R 14 [y .add (s 13) (i 1),m (l 0)] [(13,1)] []
 |_=>R 15 [m (s 4),m (l 0)] [(1,1)] [4,11,12,13]
def GZ:Bl:=⟨15,3,[0],0,false,[],j (d (Ai 0)) (j (d (Ai 1)) (j (j (d (Ai 2)) (.block 0 (.loop (j (d (Ai 3)) (j (h 9 (.skip) (.exit 0)) (j (.block 1 (j (d (Ai 4)) (j (d (Ai 5)) (j (d (Ai 6)) (h 10 (.stuck) (.skip)))))) (d (Ai 7)))))))) (j (d (Ai 8)) (j (j (d (Ai 9)) (.block 2 (.loop (j (d (Ai 10)) (j (h 14 (.skip) (.exit 2)) (j (.block 3 (j (d (Ai 11)) (d (Ai 12)))) (d (Ai 13)))))))) (j (d (Ai 14)) (.ret)))))),[.slot 1]⟩
def QS:List Tmp:=[0,2,3,5,6,8,9,10,11,12,20,25,26,27,28]
attribute [simp] EC OI D7 Rl KT JD Ic I4 Az MX Ai GZ
end Go.Eng.T
namespace Go.Eng.T
abbrev Aph:Nat:=511
abbrev Avc:Nat:=512
abbrev Az0:Nat:=513
abbrev AzP:Nat:=514
abbrev Ar6:Nat:=515
abbrev ADi:Nat:=516
abbrev ABP:Nat:=517
abbrev ADb:Nat:=518
abbrev Au6:Nat:=519
abbrev AtY:Nat:=520
abbrev AGx:Nat:=521
abbrev Au8:Nat:=522
abbrev AEi:Nat:=523
abbrev AvL:Nat:=524
abbrev Au1:Nat:=525
abbrev Aut:Nat:=526
abbrev AtX:Nat:=527
abbrev AxO:Nat:=528
abbrev Aw9:Nat:=529
abbrev Au2:Nat:=530
abbrev AuZ:Nat:=531
abbrev ADA:Nat:=532
abbrev AA3:Nat:=533
abbrev AIC:Nat:=534
abbrev Asi:Nat:=535
abbrev AzT:Nat:=536
abbrev ABr:Nat:=537
abbrev Ach:Nat:=538
abbrev ABH:Nat:=539
abbrev Abd:Nat:=540
abbrev Aka:Nat:=541
end Go.Eng.T
namespace Go.Eng.T
set_option maxRecDepth 20000
set_option maxHeartbeats 4000000
theorem AHt {w:World} {l:List Event} {m:Nat} (hw:Af w≤400) (he:∀e,e∈l→AyX e) (hl:l.length≤30):AmM w l∧Af (Bd w l)≤4200:=by
 have h1:=AsZ l he
 have h2:=ArR w l l.length (Nat.le_refl _)
 rw[List.take_length]at h2
 have h3:=AC2 (Bd w l)
 have h4:=ACo w
 have h5:w.ends.length≤Af w:=by have:=K6 (f:=Ar) (xs:=w.ends);unfold Af;omega
 refine⟨by unfold AmM;omega,by omega⟩
abbrev Zm (R:Rel):Prop:=∀c:Cur,IA c→Aaa R [] c (fun w:World=>Af w≤8000) (fun w=> .agg (Bn w))
theorem Aw0 (D:Dn) (hB:Ie (D Ei)) (hI:Ae0 (D YL)) (hW:Zt (D AjT)) (hE:V5 (D Aia)) (hR:Wm (D AiL)):Zm (Body D MX):=by
 intro c hc
 refine N9 (fun Q hQ=> ?_)
 simp -implicitDefEqProofs
 obtain⟨w,c1,hw,hc1,pw⟩:=hW c hc
 simp -implicitDefEqProofs [Dr,ints]at pw
 refine Aa (pw) ?_
 simp -implicitDefEqProofs
 obtain⟨l,c2,⟨he,hl1,hl2⟩,hc2,pl⟩:=hE c1 14 hc1 (by omega)
 simp -implicitDefEqProofs [Dr,ints]at pl
 refine Aa (pl) ?_
 have hl3:l.length≤30:=by simp at hl2;omega
 obtain⟨hok,hsz⟩:=AHt (m:=0) hw.sz he hl3
 have pr:=hR w l hok
 simp -implicitDefEqProofs [Bn,ints]at pr⊢
 refine Aa (pr) ?_
 clear pr pl pw
 generalize Bd w l=y at hsz
 obtain⟨sv,tg,key,es,⟨rv,rs,rp,ro⟩,least,pct,stg,log,now,hurt,rch⟩:=y
 simp only[Af,BX]at hsz
 simp -implicitDefEqProofs
 obtain⟨x,c3,hx,hc3,px⟩:=hB c2 12 hc2 (by omega)
 simp -implicitDefEqProofs [Dr,ints]at px
 refine Aa (px) ?_
 by_cases g0:x=0
 ·simp -implicitDefEqProofs [g0,IQ,Al]
  exact hQ ⟨sv,tg,key,es,⟨rv,rs,rp,ro⟩,least,pct,stg,log,now,0,rch⟩ c3 (by simp only[Af,BX];omega) hc3
 by_cases g1:x=1
 ·simp -implicitDefEqProofs [g1,IQ,Al]
  exact hQ ⟨sv,tg,key,es,⟨rv,rs,rp,ro⟩,least,pct,stg,log,now,hurt,0⟩ c3 (by simp only[Af,BX];omega) hc3
 by_cases g2:x=2
 ·rcases log with _ | ⟨d,lg⟩
  ·simp -implicitDefEqProofs [g2,IQ,Al]
   exact hQ ⟨sv,tg,key,es,⟨rv,rs,rp,ro⟩,least,pct,stg,[],now,hurt,rch⟩ c3 (by simp only[Af,BX];omega) hc3
  ·simp -implicitDefEqProofs [g2]
   have hlg:lg.length≤Cu Ce lg:=K6
   have hsz':Cu Ce (d::lg)=Ce d+1+Cu Ce lg:=by simp[Cu];omega
   obtain⟨v,c4,hv,hc4,pv⟩:=hI c3 [0,9,10] hc3 (by simp) (by simp)
   simp -implicitDefEqProofs [Dr,ints]at pv
   refine Aa (pv) ?_
   simp -implicitDefEqProofs
   obtain⟨t,c5,ht,hc5,pt⟩:=hI c4 [1,10] hc4 (by simp) (by simp)
   simp -implicitDefEqProofs [Dr,ints]at pt
   refine Aa (pt) ?_
   have hk:0<(lg.length+1):=by omega
   simp -implicitDefEqProofs [Av,hk,IQ,Al]
   exact hQ ⟨sv,tg,key,es,⟨rv,rs,rp,ro⟩,least,pct,stg,⟨d.fin,d.tick,d.on,⟨⟨true,v,[t]⟩,d.dialed.tries,d.dialed.up⟩⟩::lg,now,hurt,rch⟩ c5 (by
    have h1:Cu Ce (⟨d.fin,d.tick,d.on,⟨⟨true,v,[t]⟩,d.dialed.tries,d.dialed.up⟩⟩::lg)=Ce ⟨d.fin,d.tick,d.on,⟨⟨true,v,[t]⟩,d.dialed.tries,d.dialed.up⟩⟩+1+Cu Ce lg:=by simp[Cu];omega
    simp only[Af,BX,Ce,DW,YJ,List.length_cons,List.length_nil]at *
    omega) hc5
 by_cases g3:x=3
 ·simp -implicitDefEqProofs [g3,IQ,Al]
  exact hQ ⟨[rv],tg,key,es,⟨rv,rs,rp,ro⟩,least,pct,stg,log,now,hurt,rch⟩ c3 (by simp only[Af,BX];simp;omega) hc3
 by_cases g4:x=4
 ·simp -implicitDefEqProofs [g4,IQ,Al]
  exact hQ ⟨sv,tg,key,es,⟨rv,rs,rp,ro⟩,least,pct,stg,log, -1,hurt,rch⟩ c3 (by simp only[Af,BX];omega) hc3
 by_cases g5:x=5
 ·simp -implicitDefEqProofs [g5]
  have hlg0:log.length≤Cu Ce log:=K6
  obtain⟨LI,hLI⟩:∃LI:Nat→St→Prop,LI=fun k s=>∃(j:Nat) (lg:List CO),j+k=log.length∧lg.length=log.length∧Cu Ce lg=Cu Ce log∧s=⟨[.undef,.ptr 1 0,.ptr 8 0,I j,.undef,.undef,.undef,.undef,.undef,.undef,.undef,.undef,.undef],
   [.var (Dr c3),.var zW,.free,.arr 1 0 w.tags.length (ints w.tags),.arr 4 0 w.ends.length (w.ends.flatMap Ak),.arr 1 0 w.rollout.stages.length (ints w.rollout.stages),.arr 5 0 w.stage.length (w.stage.flatMap A9),.arr 8 0 w.log.length (w.log.flatMap Av),
    .var [.arr 20,.arr 11,I key,.arr 12,I rv,.arr 13,I rp,B ro,I least,I pct,.arr 14,.arr 15,I now,I hurt,I rch],.arr 6 0 l.length (l.flatMap Cs),.free,.arr 1 0 tg.length (ints tg),.arr 4 0 es.length (es.flatMap Ak),.arr 1 0 rs.length (ints rs),.arr 5 0 stg.length (stg.flatMap A9),.arr 8 0 lg.length (lg.flatMap Av),.free,.free,.free,.free,.arr 1 0 sv.length (ints sv)]⟩:=⟨_,rfl⟩
  refine Ad LI ?_ log.length _ (by rw[hLI];exact⟨0,log,by simp,rfl,rfl,by simp[Dr,ints]⟩)
  intro k s hs
  rw[hLI]at hs
  obtain⟨j,lg,hj,hlen,hsum,hs⟩:=hs
  subst hs
  by_cases hjn:j<lg.length
  ·have hwj:IntKind.i64.wrap ((j:Int)+1)=(j+1:Nat):=by rw[Ab (by omega) (by omega)];simp
   have hst:Cu Ce (lg.set j {lg[j]with on:=true})=Cu Ce lg:=by
    have:=size_set (f:=Ce) hjn {lg[j]with on:=true}
    have h2:Ce {lg[j]with on:=true} =Ce lg[j]:=rfl
    omega
   have hf2:j*8+2<lg.length*8:=by omega
   simp -implicitDefEqProofs [hjn,hf2]
   refine⟨k-1,by omega,?_⟩
   rw[hLI]
   exact⟨j+1,lg.set j {lg[j]with on:=true},by omega,by simp[hlen],by omega,by simp[Dr,ints,hwj,Av]⟩
  ·simp -implicitDefEqProofs [hjn,IQ,Al]
   exact hQ ⟨sv,tg,key,es,⟨rv,rs,rp,ro⟩,least,pct,stg,lg,now,hurt,rch⟩ c3 (by simp only[Af,BX];omega) hc3
 ·simp -implicitDefEqProofs [g0,g1,g2,g3,g4,g5,IQ,Al]
  exact hQ ⟨sv,tg,key,es,⟨rv,rs,rp,ro⟩,least,pct,stg,log,now,hurt,rch⟩ c3 (by simp only[Af,BX];omega) hc3
abbrev Gy (R:Rel):Prop:=∀bs:List Int,AIA bs→Ayr R bs (fun w:World=>Af w≤8000) (fun w=> .agg (Bn w))
theorem AjL (D:Dn) (hN:Aqr (D Ato)) (hW:Zm (D Aka)):Gy (Body D I4):=by
 intro bs hb
 refine Ayn (fun Q hQ=> ?_)
 simp -implicitDefEqProofs
 obtain⟨c0,hc0,pc0⟩:=hN bs hb.1 hb.2
 simp -implicitDefEqProofs [Dr,ints]at pc0
 refine Aa (pc0) ?_
 simp -implicitDefEqProofs
 obtain⟨w,c2,hw,hc2,pw⟩:=hW c0 hc0
 simp -implicitDefEqProofs [Dr,ints]at pw
 refine Aa (pw) ?_
 simp -implicitDefEqProofs
 exact hQ w hw
theorem Anb (D:Dn) (hW:Gy (D Abd)):Gy (Body D JD):=by
 intro bs hb
 refine Ayn (fun Q hQ=> ?_)
 simp -implicitDefEqProofs
 obtain⟨w,hw,pw⟩:=hW bs hb
 refine Aa (pw) ?_
 simp -implicitDefEqProofs
 exact hQ w hw
abbrev Abv (R:Rel):Prop:=∀bs:List Int,AE0 bs→R [.sl 3 1 bs.length (u8s bs)] [] (B true) []
theorem Ata (D:Dn) (hBig:AFE (D Az3)) (hDr:Gy (D Ach)) (hF:AdP (D AoC)) (hW:Nj (D AaC)) (hB:Te (D Xq)) (hT:Py (D Vx))
 (hC:SF (D Xv)) (hS:Yj (D Aau)):Abv (Body D Rl):=by
 intro bs hb
 simp -implicitDefEqProofs
 refine Aa (hBig bs hb.1) ?_
 by_cases hbig:1048576<bs.length
 ·simp -implicitDefEqProofs [hbig]
 have hBs:AIA bs:=⟨by omega,hb.2⟩
 simp -implicitDefEqProofs [hbig]
 obtain⟨w,hsz,pw⟩:=hDr bs hBs
 refine Aa (pw) ?_
 simp -implicitDefEqProofs
 refine Aa (hF w (by omega)) ?_
 simp -implicitDefEqProofs
 refine Aa (hW w (by omega)) ?_
 by_cases g1:BH w=true
 rotate_left
 ·have e0:Gm w=⟨#[119,111,114,108,100]⟩:=by unfold Gm;rw[if_neg g1]
  simp -implicitDefEqProofs [g1,e0]
  refine Aa (hW w (by omega)) ?_
  simp -implicitDefEqProofs [g1]
 simp -implicitDefEqProofs [g1]
 refine Aa (hB w (by omega)) ?_
 by_cases g2:Vo w=true
 rotate_left
 ·have e0:Gm w=⟨#[98,111,117,110,100]⟩:=by unfold Gm;rw[if_pos g1,if_neg g2]
  simp -implicitDefEqProofs [g2,e0]
  refine Aa (hW w (by omega)) ?_
  simp -implicitDefEqProofs [g1]
 simp -implicitDefEqProofs [g2]
 refine Aa (hT w (by omega)) ?_
 by_cases g3:JY w=true
 rotate_left
 ·have e0:Gm w=⟨#[116,111,103,101,116,104,101,114]⟩:=by unfold Gm;rw[if_pos g1,if_pos g2,if_neg g3]
  simp -implicitDefEqProofs [g3,e0]
  refine Aa (hW w (by omega)) ?_
  simp -implicitDefEqProofs [g1]
 simp -implicitDefEqProofs [g3]
 refine Aa (hC w (by omega)) ?_
 by_cases g4:w.hurt=cntF (MC w) w.log
 rotate_left
 ·have e0:Gm w=⟨#[99,111,117,110,116]⟩:=by unfold Gm;rw[if_pos g1,if_pos g2,if_pos g3,if_neg g4]
  simp -implicitDefEqProofs [g4,e0]
  refine Aa (hW w (by omega)) ?_
  simp -implicitDefEqProofs [g1]
 have g4':decide (w.hurt=cntF (MC w) w.log)=true:=by simpa using g4
 simp -implicitDefEqProofs only[g4']
 simp -implicitDefEqProofs
 refine Aa (hS w (by omega)) ?_
 by_cases g5:w.log.any UW=true
 ·have e0:Gm w=⟨#[115,111,98,101,114]⟩:=by unfold Gm;rw[if_pos g1,if_pos g2,if_pos g3,if_pos g4,if_pos g5]
  simp -implicitDefEqProofs only[g5]
  simp -implicitDefEqProofs [e0]
  refine Aa (hW w (by omega)) ?_
  simp -implicitDefEqProofs [g1]
 ·have e0:Gm w=⟨#[]⟩:=by unfold Gm;rw[if_pos g1,if_pos g2,if_pos g3,if_pos g4,if_neg g5]
  have g5':w.log.any UW=false:=by simpa using g5
  simp -implicitDefEqProofs only[g5']
  simp -implicitDefEqProofs [e0]
  refine Aa (hW w (by omega)) ?_
  simp -implicitDefEqProofs [g1]
end Go.Eng.T
namespace Go.Eng.T
set_option maxRecDepth 20000
set_option maxHeartbeats 2000000
abbrev ADW (R:Rel):Prop:=∀n:Nat,n≤16777216→R [.sc (.slice none 0 0),I n] [] (.sl 0 1 0 []) []
def Vl (ls:List (List Int)):List Int:=ls.flatten
abbrev Ad4 (R:Rel):Prop:=∀ls:List (List Int),G5 ls≤8388608→R [H8 ls] [] (.sl 0 1 (Vl ls).length (ints (Vl ls))) []
theorem ApH {ls:List (List Int)} {j:Nat} (h:j<ls.length):Vl (ls.take (j+1))=Vl (ls.take j)++ls[j]:=by
 have e:ls.take (j+1)=ls.take j++ [ls[j]]:=by simp
 unfold Vl
 rw[e,List.flatten_append];simp
theorem Ars (ls:List (List Int)) (j:Nat):(Vl (ls.take j)).length≤G5 ls:=by
 unfold Vl
 have h1:(ls.take j).flatten.length≤ls.flatten.length:=by
  conv=>rhs;rw[←List.take_append_drop j ls,List.flatten_append,List.length_append]
  omega
 have h2:ls.flatten.length≤G5 ls:=by
  unfold G5 Cu
  rw[List.length_flatten]
  omega
 omega
theorem AC1 (D:Dn) (hG:ADW (D VX)):Ad4 (Body D GZ):=by
 intro ls hl
 have hll:=JM (xs:=ls)
 simp -implicitDefEqProofs
 refine Ad (fun k s=>∃j,j+k=ls.length∧s=⟨[H8 ls,.undef,I ((Vl (ls.take j)).length:Nat),.undef,.undef,.undef,H8 ls,I ls.length,I j,.undef,.undef,.undef,.undef,.undef,.undef],[.free,.free,.free]⟩) ?_ (ls.length) _ ⟨0,by simp,by simp[Vl]⟩
 intro k s ⟨j,hj,hs⟩
 subst hs
 by_cases hjn:j<ls.length
 ·have hw:IntKind.i64.wrap ((j:Int)+1)=(j+1:Nat):=by rw[Ab (by omega) (by omega)];simp
  have hst:=congrArg List.length (ApH hjn)
  rw[List.length_append]at hst
  have hle:=Ars ls (j+1)
  obtain⟨n2,hn2⟩:∃n2,n2=(Vl (ls.take (j+1))).length:=⟨_,rfl⟩
  obtain⟨n1,hn1⟩:∃n1,n1=(Vl (ls.take j)).length:=⟨_,rfl⟩
  rw[←hn2]at hst hle
  rw[←hn1]at hst⊢
  have hw2:IntKind.i64.wrap ((n1:Int)+(ls[j].length:Nat))=(n2:Int):=by rw[hst,Ab (by omega) (by omega)];omega
  have hneg:¬(n2:Int)<0:=by omega
  simp -implicitDefEqProofs [hjn,hw2,hneg]
  exact⟨k-1,by omega,j+1,by omega,by simp[hw,hn2]⟩
 ·have e:ls.take j=ls:=List.take_of_length_le (by omega)
  have hle:=Ars ls j
  simp -implicitDefEqProofs [hjn,e]
  rw[e]at hle
  refine Aa (hG (Vl ls).length (by omega)) ?_
  simp -implicitDefEqProofs
  refine Ad (fun k s=>∃j o1,j+k=ls.length∧s=⟨[.undef,.undef,.undef,.undef,.arr 2,.undef,.undef,.undef,.undef,.undef,.undef,H8 ls,I ls.length,I j,.undef],[.free,o1,.arr 1 0 (Vl (ls.take j)).length (ints (Vl (ls.take j)))]⟩) ?_ (ls.length) _ ⟨0,.free,by simp,by simp[Vl]⟩
  intro k s ⟨j,o1,hj,hs⟩
  subst hs
  clear hjn e
  by_cases hjn:j<ls.length
  ·have hw:IntKind.i64.wrap ((j:Int)+1)=(j+1:Nat):=by rw[Ab (by omega) (by omega)];simp
   have hst:=ApH hjn
   have hle2:=Ars ls (j+1)
   have hsl:=congrArg List.length hst
   rw[List.length_append]at hsl
   generalize(Vl (ls.take j))=r1 at *
   have hb1:(r1.length+ls[j].length)*8≤1099511627776:=by omega
   simp -implicitDefEqProofs [hjn,hb1]
   exact⟨k-1,by omega,j+1,by omega,by simp[hw],by rw[hst];simp[ints]⟩
  ·have e:ls.take j=ls:=List.take_of_length_le (by omega)
   simp -implicitDefEqProofs [hjn,e]
theorem AC8 (D:Dn) (hC:Ad4 (D KC)) (hH:Xu (D AaU)):Y1 (Body D Q7):=by
 intro k xs hl
 simp -implicitDefEqProofs
 have hc:=hC [[k],xs,[k]] (by simp[G5,Cu];omega)
 simp -implicitDefEqProofs [H8,JB,ints]at hc
 simp -implicitDefEqProofs [ints]
 refine Aa (hc) ?_
 have ek:Vl [[k],xs,[k]]=k::xs++ [k]:=by simp[Vl]
 rw[ek]
 have hlen:(k::xs++ [k]).length=xs.length+1+1:=by simp
 have hh:=hH (k::xs++ [k]) (by unfold maxLen;omega)
 rw[hlen]at hh
 simp -implicitDefEqProofs [ints]at hh
 simp -implicitDefEqProofs [ints]
 refine Aa (hh) ?_
 simp -implicitDefEqProofs [keyed]
theorem An6 (D:Dn) (hI:Eo (D Im)) (hE:Gq (D VK)) (hC:Ad4 (D KC)):IW (Body D N8):=by
 intro h hh
 have hv:=hh.1
 simp -implicitDefEqProofs
 refine Aa (hI h hh) ?_
 by_cases h1:CB h=true
 rotate_left
 ·simp -implicitDefEqProofs [h1,Bb]
 have hl:=Mv h.exts
 have e:Bb h=((h.versions.length:Int)::h.versions)++(ES h.exts).1:=by unfold Bb;rw[if_pos h1]
 rw[e]
 simp -implicitDefEqProofs [h1]
 refine Aa (hE h.exts hh.2) ?_
 generalize(ES h.exts).1=r at hl
 simp -implicitDefEqProofs [ints]
 have hc:=hC [[(h.versions.length:Int)],h.versions,r] (by simp[G5,Cu];omega)
 simp -implicitDefEqProofs [H8,JB,ints]at hc
 refine Aa (hc) ?_
 have ek:Vl [[(h.versions.length:Int)],h.versions,r]=((h.versions.length:Int)::h.versions)++r:=by simp[Vl]
 rw[ek]
 simp -implicitDefEqProofs [ints]
abbrev Aqm (R:Rel):Prop:=∀(v:Int) (n:Nat),n≤2→R [.sl 1 1 1 (ints [v]),I n] [] (.sl 0 1 n (ints (List.replicate n v))) []
abbrev AqZ (R:Rel):Prop:=∀(l:List Ext) (i:Nat) (x:Ext),l.length≤4194304→i≤l.length→
 R [.arr 0,I i,.arr 1] [.arr 2 0 l.length (l.flatMap Bw),.arr 2 0 1 (Bw x)] (.sl 0 2 (l.length+1) ((l.take i++x::l.drop i).flatMap Bw)) [.dead,.dead]
theorem Aqz (D:Dn) (hC:Ps (D Ye)) (hG:Ke (D AiX)) (hA:Gc (D K9)) (hX:Rb (D AgH)) (hP:AaA (D AcB))
 (hR:Aqm (D Tq)) (hI:AqZ (D KV)):JQ (Body D OI):=by
 intro l seed hl
 have hll:=hl.1
 simp -implicitDefEqProofs
 refine Aa (hC l hl) ?_
 simp -implicitDefEqProofs
 refine Aa (hG seed) ?_
 obtain⟨t,ht⟩:∃t,t=Oq seed:=⟨_,rfl⟩
 rw[←ht]
 simp -implicitDefEqProofs
 refine Aa (hA l hl) ?_
 by_cases h1:EK l=true
 rotate_left
 ·simp -implicitDefEqProofs [h1,Dm]
 have h6:l.length≤6:=Zc h1
 by_cases h2:l.length=6
 ·have h2':((l.length:Nat):Int)=6:=by omega
  simp -implicitDefEqProofs [h1,h2',Dm,h2]
 have h2':¬((l.length:Nat):Int)=6:=by omega
 have h2l:l.length<6:=by omega
 simp -implicitDefEqProofs [h1,h2',h2]
 refine Aa (hX l t (by unfold maxLen;omega)) ?_
 by_cases h3:t∈Ap l
 ·have h3':0≤JH l t:=by
   by_cases h:JH l t<0
   ·rw[Mk]at h;exact absurd h3 h
   ·omega
  simp -implicitDefEqProofs [h1,h2l,h2',h2,h3',h3,Dm,←ht]
 have h3':¬0≤JH l t:=by
  have:JH l t<0:=by rw[Mk];exact h3
  omega
 have e:Dm l seed=l.take (Am5 l seed)++⟨t,AkM seed⟩::l.drop (Am5 l seed):=by
  unfold Dm
  rw[if_pos]
  ·rw[ht]
  ·simp[h1,h2l,←ht,h3]
 have hgp:=AxJ l seed h6
 rw[e]
 simp -implicitDefEqProofs [h3',h2',h2]
 refine Aa (hP seed 3 256) ?_
 simp -implicitDefEqProofs
 refine Aa (hP seed 2 3) ?_
 have hp2:=TR seed 2 (n:=3) ⟨by omega,by omega⟩
 have eb:AkM seed=List.replicate (pick seed 2 3).toNat (pick seed 3 256):=rfl
 obtain⟨n,hn⟩:∃n:Nat,pick seed 2 3=n:=⟨(pick seed 2 3).toNat,by omega⟩
 rw[hn]at eb hp2⊢
 rw[Int.toNat_natCast]at eb
 rw[eb]
 generalize pick seed 3 256=v at *
 simp -implicitDefEqProofs [ints]
 have hr:=hR v n (by omega)
 simp -implicitDefEqProofs [ints]at hr
 refine Aa (hr) ?_
 have hwl:IntKind.i64.wrap ((l.length:Int)+1)=(l.length:Int)+1:=Ab (by omega) (by omega)
 simp -implicitDefEqProofs [hwl]
 refine Aa (hP seed 1 (l.length+1)) ?_
 have hp1:=TR seed 1 (n:=(l.length:Int)+1) ⟨by omega,by omega⟩
 have eg:Am5 l seed=(pick seed 1 (l.length+1)).toNat:=rfl
 generalize pick seed 1 (l.length+1)=k1 at hp1 eg
 obtain⟨kk,rfl⟩:∃kk:Nat,k1=kk:=⟨k1.toNat,by omega⟩
 rw[Int.toNat_natCast]at eg
 rw[eg]at hgp⊢
 simp -implicitDefEqProofs
 have hi:=hI l kk ⟨t,List.replicate n v⟩ (by omega) hgp
 simp -implicitDefEqProofs [Bw,ints]at hi
 refine Aa (hi) ?_
 have hlen:(l.take kk++(⟨t,List.replicate n v⟩:Ext)::l.drop kk).length=l.length+1:=by simp;omega
 simp -implicitDefEqProofs [hlen,Bw,ints]
 omega
end Go.Eng.T
namespace Go.Eng
open Go.Lib Go.RowKit
inductive AbZ (Ae:Nat→Option FuncId) (w:World):List V→List Value→Prop where
 | nil:AbZ Ae w [] []
 | sc {v:Value} {azs:List V} {xs:List Value} (h:AbZ Ae w azs xs):AbZ Ae w (.sc v::azs) (v::xs)
 | sl {e len:Nat} {cells:List V} {x:Value} {azs:List V} {xs:List Value} (h1:Rd Ae w (· <w.heap.size) (.sl 1 e len cells) x) (h:AbZ Ae w azs xs):AbZ Ae w (.sl 1 e len cells::azs) (x::xs)
def AvH:V→Prop
 | .sc _=>True
 | .sl 1 _ _ _=>True
 | _=>False
theorem Afg {F:Fr} {w:World} {β:Nat→Base} {own:Nat→Option (Nat×List Nat)} {H:Hp} (hw:w=F.w0):∀ {azs:List V} {xs:List Value},(∀a,a∈azs→AvH a)→Pw (VR F β own H w) azs xs→AbZ F.Ae w azs xs
 | [],xs,_,h=>by rw[h.NQ];exact .nil
 | a::azs,xs,hp,h=>by
  obtain⟨x,r,rfl,h1,h2⟩:=h.IZ
  have ih:=Afg hw (fun a ha=>hp a (List.mem_cons_of_mem _ ha)) h2
  have ha:=hp a (by simp)
  cases h1 with
  | sc h=>exact .sc ih
  | @rd fl e len cells _ h3 h=>
   match fl,ha,h with
   | 1,_,h=>exact .sl (Rd.move h (fun b hb=>by rw[hw];exact hb.1) (fun _ _=>rfl)) ih
  | _=>exact absurd ha (by simp[AvH])
theorem AC6 {P:Program} {Ae:Nat→Option FuncId} {G:Gl} {g:Nat} {args:List V} {v:Value} (hv:v.oneCell' =true) (hp':∀a,a∈args→AvH a)
 (h:∀id,Ae g=some id→∀w:World,(∀b,G b→b<w.heap.size∧w.heap[b]? =G.is b)→∀xs,AbZ Ae w args xs→Calls P id xs.toArray w fun e w'=>e= .returned v∧Below w.heap.size w w'):Den P Ae G g args [] (.sc v) []:=by
 intro id hid F hF hG hb ht hn inv xs hx
 have hr:=Afg (F:=F) rfl hp' hx
 rw[hF]at hr
 refine(h id hid F.w0 (fun b hb=> ?_) xs hr).mono fun e w' ⟨he,hw⟩=> ?_
 ·have:=inv.glob b (by rw[hG];exact hb)
  exact⟨this.1,by rw[←hG];exact this.2.2⟩
 ·subst he
  refine⟨F.own0,⟨hw.size,hw.os,hw.tape,hw.output,fun b hb _=>hw.block b hb,fun b p hb=>⟨Nat.lt_of_lt_of_le (inv.ownb b p hb).1 hw.size,fun _=> ?_⟩,.sc hv,hn.symm,fun i o hi=> ?_⟩⟩
  ·rw[hb];simp
  ·simp at hi
end Go.Eng
namespace Go.Eng
open Go.Lib Go.RowKit Go.Sort
def iv (l:List Int):List Value:=l.map (Value.int .i64)
@[simp] theorem AwD (l:List Int):(iv l).length=l.length:=by simp[iv]
theorem Zy (l:List Int):FJ (iv l):=by
 intro v hv
 simp only[iv,List.mem_map]at hv
 obtain⟨x,_,rfl⟩:=hv
 rfl
structure Kept (F:Fr) (w':World):Prop where
 size:F.w0.heap.size≤w'.heap.size
 os:w'.os=F.w0.os
 tape:w'.tape=F.w0.tape
 output:w'.output=F.w0.output
 keep:∀b,b<F.w0.heap.size→F.own0 b=none→w'.heap[b]? =F.w0.heap[b]?
theorem Kept.refl (F:Fr):Kept F F.w0:=⟨Nat.le_refl _,rfl,rfl,rfl,fun _ _ _=>rfl⟩
theorem AsX {F:Fr} {given:List O} {k:Nat} {l:List Int} {x:Value} (inv:Inv F F.β0 F.own0 (hp given) F.w0) (hk:hp given k= .arr 1 0 l.length (T.ints l)) (h:VR F F.β0 F.own0 (hp given) F.w0 (.arr k) x):
 ∃a cap,x= .slice a l.length cap∧(l.length≤cap∧cap≤9223372036854775807)∧a=(F.β0 k).a∧cap=(F.β0 k).cap∧(cap=0∨∃b o,a=some ⟨b,o,none⟩∧F.own0 b=some (k,[])∧Has F.w0 b o (iv l) cap):=by
 have ho:=inv.objs k
 rw[hk]at ho
 obtain⟨vs,h1,h2,h3,h4,h5⟩:=ho
 have hv:vs=iv l:=by
  apply List.ext_getElem?
  intro i
  by_cases hi:i<l.length
  ·have hlen:vs.length=l.length:=by rw[h1];simp
   have e1:vs[i]? =some (vs[i]'(by omega)):=by simp[hlen,hi]
   have:=h5 i (.sc (.int .i64 l[i])) _ (by simp[hi]) e1
   rw[e1]
   generalize vs[i]'(by omega)=y at this
   cases this with
   | sc _=>simp[iv,hi]
  ·rw[List.getElem?_eq_none (by rw[h1];simp;omega),List.getElem?_eq_none (by simp;omega)]
 subst hv
 cases h with
 | @arr _ e t len cs he=>
  rw[hk]at he
  simp only[Ah,Option.some.injEq,Prod.mk.injEq]at he
  obtain⟨rfl,rfl,rfl,rfl⟩:=he
  refine⟨_,_,rfl,h3,rfl,rfl,?_⟩
  rcases h4 with h4 | ⟨b,o,h4,h6,h7⟩
  ·exact .inl (by omega)
  ·exact .inr ⟨b,o,h4,h6,by rw[Nat.mul_one]at h7;exact h7⟩
 | goneA hd=>rw[hk]at hd;cases hd
theorem Y3 {P:Program} {Ae:Nat→Option FuncId} {G:Gl} {g:Nat} {args:List V} {given:List O} {l':List Int}
 (h:∀id,Ae g=some id→∀F:Fr,F.Ae=Ae→Inv F F.β0 F.own0 (hp given) F.w0→∀xs,Pw (VR F F.β0 F.own0 (hp given) F.w0) args xs→
  Calls P id xs.toArray F.w0 fun e w'=>∃a cap,e= .returned (.slice a l'.length cap)∧(l'.length≤cap∧cap≤9223372036854775807)∧(cap=0∨∃b o,a=some ⟨b,o,none⟩∧Has w' b o (iv l') cap∧(b<F.w0.heap.size→F.own0 b≠none))∧Kept F w'):
 Den P Ae G g args given (.sl 0 1 l'.length (T.ints l')) (given.map fun _=> .dead):=by
 intro id hid F hF hG hb ht hn inv xs hx
 refine(h id hid F hF inv xs hx).mono fun e w' ⟨a,cap,he,hl,hm,hk⟩=> ?_
 subst he
 have hcs:∀own (i:Nat) (v:V) (x:Value),(T.ints l')[i]? =some v→(iv l')[i]? =some x→Ow F.Ae w' own (fun _ b=>F.G b) 0 F.ngiven ([]++ [i]) v x:=by
  intro own i v x h1 h2
  by_cases hi:i<l'.length
  ·rw[T.ints_at hi]at h1
   simp only[iv,List.getElem?_map,hi,List.getElem?_eq_getElem,Option.map_some,Option.some.injEq]at h1 h2
   subst h1 h2
   exact .sc rfl
  ·rw[List.getElem?_eq_none (by simp;omega)]at h1;cases h1
 rcases hm with hm | ⟨b,o,rfl,hhas,hown⟩
 ·refine⟨fun _=>none,⟨hk.size,hk.os,hk.tape,hk.output,hk.keep,fun b p h=>(by cases h),.own hl (by simp) (by simp) (.inl (by omega)) (hcs _),by simp[hn],fun i o hi=> ?_⟩⟩
  simp only[List.getElem?_map,Option.map_eq_some_iff]at hi
  obtain⟨_,_,rfl⟩:=hi
  trivial
 ·refine⟨fun b'=>if b' =b then some (F.ngiven,[])else none,⟨hk.size,hk.os,hk.tape,hk.output,hk.keep,fun b' p h=> ?_,.own hl (by simp) (by simp) (.inr ⟨b,o,rfl,if_pos rfl,by rw[Nat.mul_one];exact hhas⟩) (hcs _),by simp[hn],fun i o' hi=> ?_⟩⟩
  ·by_cases e:b' =b
   ·subst e;exact⟨Qw hhas,hown⟩
   ·rw[if_neg e]at h;cases h
  ·simp only[List.getElem?_map,Option.map_eq_some_iff]at hi
   obtain⟨_,_,rfl⟩:=hi
   trivial
theorem Ay7 {P:Program} {Ae:Nat→Option FuncId} {G:Gl} {g:Nat} {l l':List Int} (hll:l'.length=l.length)
 (h:∀id,Ae g=some id→∀F:Fr,F.Ae=Ae→Inv F F.β0 F.own0 (hp [.arr 1 0 l.length (T.ints l)]) F.w0→∀a cap,l.length≤cap→(cap=0∨∃b o,a=some ⟨b,o,none⟩∧F.own0 b=some (0,[])∧Has F.w0 b o (iv l) cap)→
  Calls P id #[.slice a l.length cap] F.w0 fun e w'=>e= .returned (.tuple #[])∧(cap=0∨∃b o,a=some ⟨b,o,none⟩∧Has w' b o (iv l') cap)∧Kept F w'):
 Den P Ae G g [.arr 0] [.arr 1 0 l.length (T.ints l)] (.tup []) [.arr 1 0 l.length (T.ints l')]:=by
 intro id hid F hF hG hb ht hn inv xs hx
 obtain⟨x,r,rfl,h1,h2⟩:=hx.IZ
 obtain rfl:=h2.NQ
 obtain⟨a,cap,rfl,hl,ha,hc,hm⟩:=AsX inv rfl h1
 refine(h id hid F hF inv a cap hl.1 hm).mono fun e w' ⟨he,hm',hk⟩=> ?_
 subst he
 refine⟨F.own0,⟨hk.size,hk.os,hk.tape,hk.output,hk.keep,fun b p h=>⟨Nat.lt_of_lt_of_le (inv.ownb b p h).1 hk.size,fun _=>by rw[h];simp⟩,.tup (vs:=[]) rfl (fun i v x h _=>by simp at h),by rw[hn];rfl,fun i o hi=> ?_⟩⟩
 match i,hi with
 | 0,hi=>
  simp only[List.getElem?_cons_zero,Option.some.injEq]at hi
  subst hi
  refine⟨rfl,iv l',by simp,by simp[hll],by rw[←hc];exact hl,?_,?_⟩
  ·rcases hm with hm | ⟨b,o,e1,e2,e3⟩
   ·exact .inl (by rw[←hc,hm])
   ·rcases hm' with hm' | ⟨b',o',e1',e2'⟩
    ·exact .inl (by rw[←hc,hm'])
    ·rw[e1]at e1'
     cases e1'
     exact .inr ⟨b,o,by rw[←ha,e1],e2,by rw[←hc,Nat.mul_one];exact e2'⟩
  ·intro i v x h1 h2
   by_cases hi:i<l'.length
   ·rw[T.ints_at hi]at h1
    simp only[iv,List.getElem?_map,hi,List.getElem?_eq_getElem,Option.map_some,Option.some.injEq]at h1 h2
    subst h1 h2
    exact .sc rfl
   ·rw[List.getElem?_eq_none (by simp;omega)]at h1;cases h1
 | i+1,hi=>simp at hi
end Go.Eng
namespace Go.Eng.T
open Go.Lib Go.RowKit
theorem Arb {Ae:Nat→Option FuncId} {w:Go.World} {P:Nat→Prop} {l:List Int} {x:Value} (h:Rd Ae w P (.sl 1 1 l.length (ints l)) x):
 ∃a cap,x= .slice a l.length cap∧l.length≤cap∧(l=[]∨∃b o,a=some ⟨b,o,none⟩∧P b∧∀j,j<l.length→w.cell? ⟨b,o+j,none⟩=some (.int .i64 (l.getD j 0))):=by
 cases h with
 | @sl _ _ _ _ a cap vs hle hwd hvl hm hcs=>
  refine⟨a,cap,rfl,hle,?_⟩
  rcases hm with hm | ⟨b,o,rfl,hbk,hr⟩
  ·left
   cases l with
   | nil=>rfl
   | cons x r=>simp[ints]at hm
  ·right
   have hvlen:vs.length=l.length:=by rw[hvl];simp
   refine⟨b,o,rfl,hbk,fun j hj=> ?_⟩
   rw[hr.2 j (by omega)]
   have hv:vs[j]? =some vs[j]:=by simp
   rw[hv]
   have hrd:=hcs j (.sc (.int .i64 l[j])) vs[j] (by simp[ints,hj]) hv
   generalize vs[j]=y at hrd⊢
   cases hrd with
   | sc _=>simp[hj]
theorem AF4 {P:Program} {Ae:Nat→Option FuncId} {G:Gl} {g k:Nat} (hid:Ae g=some k)
 (hc:∀(b off n c:Nat) (zs:List Int) (w:Go.World),0<n→n≤zs.length→n≤9223372036854775807→(∀j,j<zs.length→w.cell? ⟨b,off+j,none⟩=some (.int .i64 (zs.getD j 0)))→
  Calls P k #[.slice (some ⟨b,off,none⟩) n c] w fun e w'=>e= .returned (.int .i64 (Lib.maxOf (zs.take n)))∧w' =w):AGX (Den P Ae G g):=by
 intro xs h1 h2
 refine AC6 (v:= .int .i64 (AFk xs)) rfl (fun a ha=> ?_) ?_
 ·simp only[List.mem_singleton]at ha;subst ha;trivial
 intro id hi w hw ys hx
 rw[hid]at hi
 cases hi
 cases hx with
 | sl h3 h4=>
  cases h4
  obtain⟨a,cap,rfl,hle,hm⟩:=Arb h3
  rcases hm with rfl | ⟨b,o,rfl,hb,hcell⟩
  ·simp at h1
  ·refine(hc b o xs.length cap xs w h1 (Nat.le_refl _) (by omega) hcell).mono fun e w' ⟨he,hw'⟩=>⟨?_,by rw[hw'];exact Below.refl _ _⟩
   rw[he,List.take_length];rfl
theorem Avo {w:Go.World} {base:Nat} {t:TypeId} {v:Value} {l:List Int} (h:w.ownsRow base t 1 v l.length (iv l)):
 ∃a cap,v= .slice a l.length cap∧(l.length≤cap∧cap≤9223372036854775807)∧(cap=0∨∃b o,a=some ⟨b,o,none⟩∧Has w b o (iv l) cap∧base≤b):=by
 obtain⟨_,h | ⟨g,cap,cur,rfl,h1,h2,h3,h4,h5,h6⟩⟩:=h
 ·obtain⟨rfl,h⟩:=h
  exact⟨none,0,by rw[h],⟨by omega,by omega⟩,.inl rfl⟩
 ·refine⟨_,cap,rfl,⟨h3,by unfold maxLen at h4;omega⟩,.inr ⟨g,0,rfl,⟨Zy l,cur,t,h2,by omega,by simpa using h3,fun i hi=> ?_⟩,h1⟩⟩
  rw[Nat.zero_add,←h6,Nat.mul_one]
  simp only[AwD]at hi
  rw[List.getElem?_take,if_pos hi,Array.getElem?_toList]
theorem Awa {F:Fr} {w':Go.World} (h:Below F.w0.heap.size F.w0 w'):Kept F w':=⟨h.size,h.os,h.tape,h.output,fun b hb _=>h.block b hb⟩
theorem AAd {P:Program} {Ae:Nat→Option FuncId} {G:Gl} {g k:Nat} {t:TypeId} (hid:Ae g=some k)
 (hn:∀(n c:Nat) (w:Go.World),Calls P k #[.slice none n c] w fun e w'=>e= .returned (.slice none 0 0)∧w' =w)
 (hz:∀(a:Addr) (c:Nat) (w:Go.World),Calls P k #[.slice (some a) 0 c] w fun e w'=>∃v',e= .returned v'∧w'.ownsRow w.heap.size t 1 v' 0 []∧v'≠ .slice none 0 0∧Below w.heap.size w w')
 (hc:∀(b off n c:Nat) (zs:List Int) (w:Go.World),n≤zs.length→n*8≤140737488355328→(∀j,j<zs.length→w.cell? ⟨b,off+j,none⟩=some (.int .i64 (zs.getD j 0)))→
  Calls P k #[.slice (some ⟨b,off,none⟩) n c] w fun e w'=>∃v',e= .returned v'∧w'.ownsRow w.heap.size t 1 v' n ((zs.take n).map (Value.int .i64))∧v'≠ .slice none 0 0∧Below w.heap.size w w'):Avp (Den P Ae G g):=by
 intro l hl
 refine Y3 (given:=[]) (l':=l) fun id hi F hF inv xs hx=> ?_
 rw[hid]at hi
 cases hi
 have hr:=Afg (F:=F) rfl (fun a ha=>by simp only[List.mem_singleton]at ha;subst ha;trivial) hx
 cases hr with
 | sl h3 h4=>
  cases h4
  obtain⟨a,cap,rfl,hle,hm⟩:=Arb h3
  have fin:∀ {v':Value} {w':Go.World},w'.ownsRow F.w0.heap.size t 1 v' l.length (iv l)→Below F.w0.heap.size F.w0 w'→
   ∃a cap,Ending.returned v' = .returned (.slice a l.length cap)∧(l.length≤cap∧cap≤9223372036854775807)∧(cap=0∨∃b o,a=some ⟨b,o,none⟩∧Has w' b o (iv l) cap∧(b<F.w0.heap.size→F.own0 b≠none))∧Kept F w':=by
   intro v' w' ho hb
   obtain⟨a,cap,rfl,h5,h6⟩:=Avo ho
   refine⟨a,cap,rfl,h5,?_,Awa hb⟩
   rcases h6 with h6 | ⟨b,o,h7,h8,h9⟩
   ·exact .inl h6
   ·exact .inr ⟨b,o,h7,h8,fun h=>absurd h (by omega)⟩
  rcases hm with rfl | ⟨b,o,rfl,hb,hcell⟩
  ·cases a with
   | none=>exact(hn _ _ _).mono fun e w' ⟨he,hw⟩=>⟨none,0,he,⟨by simp,by omega⟩,.inl rfl,by rw[hw];exact Kept.refl F⟩
   | some a=>exact(hz a cap F.w0).mono fun e w' ⟨v',he,hown,_,hbel⟩=>by subst he;exact fin hown hbel
  ·exact(hc b o l.length cap l F.w0 (Nat.le_refl _) (by omega) hcell).mono fun e w' ⟨v',he,hown,_,hbel⟩=>by
    subst he
    rw[List.take_length]at hown
    exact fin hown hbel
end Go.Eng.T
namespace Go.Eng
open Go.Lib Go.RowKit Go.Sort
theorem WM (w:World) (b:Nat) (f:Array Value→Array Value):(mapBlock w b f).heap[b]? =(w.heap[b]?).map (onCells f):=by
 simp[mapBlock,Array.getElem?_modify]
theorem WN (w:World) {b k:Nat} (f:Array Value→Array Value) (h:k≠b):(mapBlock w b f).heap[k]? =w.heap[k]? :=by
 simp[mapBlock,Array.getElem?_modify,Ne.symm h]
theorem J4 (w:World) (b:Nat) (f:Array Value→Array Value):(mapBlock w b f).heap.size=w.heap.size:=by simp[mapBlock]
theorem Ajq {w w':World} {b o n:Nat} {vs vs':List Value} {f:Array Value→Array Value} (h:Has w b o vs n) (hw:w'.heap[b]? =(w.heap[b]?).map (onCells f)) (hs:∀c,(f c).size=c.size)
 (hf:∀c:Array Value,o+n≤c.size→(∀i,i<vs.length→c[o+i]? =vs[i]?)→∀i,i<vs'.length→(f c)[o+i]? =vs'[i]?) (ho:FJ vs') (hl:vs'.length≤n):Has w' b o vs' n:=by
 obtain⟨_,c,et,hb,h2,h3,h4⟩:=h
 exact⟨ho,f c,et,by rw[hw,hb];rfl,by rw[hs];exact h2,hl,hf c h2 h4⟩
theorem Ao2 {w:World} {b o n:Nat} {l:List Int} (h:Has w b o (iv l) n):Holds (Value.int .i64) w b o l.toArray:=by
 intro j hj
 simp only[List.size_toArray]at hj
 have hr:=(DT h).2 j (by simpa using hj)
 obtain⟨_,c,et,hb,_,_,_⟩:=h
 refine⟨?_,?_⟩
 ·rw[hr]
  simp[iv,hj]
 ·unfold World.frozen?
  simp only[hb]
  simp
theorem Aay {α:Type} [Inhabited α] (enc:α→Value) (o:Nat) (d:Array α) (c:Array Value):(putCells enc o d c).size=c.size:=by simp[putCells]
theorem AgT (l:List Int) (o:Nat) (c:Array Value) {i:Nat} (hi:i<l.length) (hc:o+i<c.size):(putCells (Value.int .i64) o l.toArray c)[o+i]? =(iv l)[i]? :=by
 simp only[putCells,Array.getElem?_mapIdx,Array.getElem?_eq_getElem hc,Option.map_some]
 rw[if_pos ⟨by omega,by simp;omega⟩]
 simp[iv,hi]
def Aub (l:List Int):List Int:=l.mergeSort fun x y=>decide (x≤y)
theorem Afp (l:List Int):(Aub l).length=l.length:=by simp[Aub]
theorem ADB {P:Program} {Ae:Nat→Option FuncId} {G:Gl} {g k:Nat} (hid:Ae g=some k)
 (h0:∀(p:Option Addr) (cap:Nat) (w:World),Calls P k #[.slice p 0 cap] w fun e w'=>e= .returned (.tuple #[])∧w' =w)
 (hc:∀(blk off cap:Nat) (zs:List Int) (w:World),Holds (Value.int .i64) w blk off zs.toArray→blk<w.heap.size→zs.length<4611686018427387904→
  Calls P k #[.slice (some ⟨blk,off,none⟩) zs.length cap] w fun e w'=>e= .returned (.tuple #[])∧∃n os,w' =grow (putRow (Value.int .i64) (Sort.ahead w n) blk off (zs.mergeSort fun x y=>decide (x≤y)).toArray) os)
 (l:List Int) (hl:l.length≤4194304):Den P Ae G g [.arr 0] [.arr 1 0 l.length (T.ints l)] (.tup []) [.arr 1 0 l.length (T.ints (Aub l))]:=by
 refine Ay7 (Afp l) fun id hi F hF inv a cap hcap hm=> ?_
 rw[hid]at hi
 cases hi
 rcases hm with hm | ⟨b,o,rfl,hown,hhas⟩
 ·subst hm
  have:l=[]:=List.eq_nil_of_length_eq_zero (by omega)
  subst this
  refine(h0 a 0 F.w0).mono fun e w' ⟨he,hw⟩=>⟨he,.inl rfl,?_⟩
  rw[hw];exact Kept.refl F
 ·refine(hc b o cap l F.w0 (Ao2 hhas) (Qw hhas) (by omega)).mono fun e w' ⟨he,n,os,hw⟩=>⟨he,.inr ⟨b,o,rfl,?_⟩,?_⟩
  ·refine Ajq (f:=putCells (Value.int .i64) o (Aub l).toArray) hhas ?_ (Aay _ _ _) (fun c h1 _ i h2=> ?_) (Zy _) (by simp[Afp];exact hcap)
   ·have hb:=Qw hhas
    rw[hw]
    simp only[grow,putRow]
    rw[Array.getElem?_append,if_pos (by rw[J4];exact hb),WM]
    rfl
   ·simp only[AwD]at h2
    exact AgT (Aub l) o c h2 (by rw[Afp]at h2;omega)
  ·rw[hw]
   refine⟨by simp[grow,putRow,J4,Sort.ahead],rfl,rfl,rfl,fun b' h1 h2=> ?_⟩
   have hne:b'≠b:=by intro e;rw[e,hown]at h2;cases h2
   simp only[grow,putRow]
   rw[Array.getElem?_append,if_pos (by rw[J4];exact h1),WN _ _ hne]
   rfl
theorem Auc {P:Program} {Ae:Nat→Option FuncId} {G:Gl} {g k:Nat} (hid:Ae g=some k)
 (h0:∀(p:Option Addr) (cap:Nat) (w:World),Calls P k #[.slice p 0 cap] w fun e w'=>e= .returned (.slice p 0 cap)∧w' =w)
 (hc:∀(blk off cap:Nat) (zs:List Int) (w:World),Holds (Value.int .i64) w blk off zs.toArray→zs.length≤9223372036854775807→zs.length≤cap→
  Calls P k #[.slice (some ⟨blk,off,none⟩) zs.length cap] w fun e w'=>e= .returned (.slice (some ⟨blk,off,none⟩) (compact zs).length cap)∧∃q,w' =putRow (Value.int .i64) (Sort.ahead w q) blk off (compact zs++List.replicate (zs.length-(compact zs).length) 0).toArray)
 (l:List Int) (hl:l.length≤4194304) (hcl:(compact l).length≤l.length):Den P Ae G g [.arr 0] [.arr 1 0 l.length (T.ints l)] (.sl 0 1 (compact l).length (T.ints (compact l))) [.dead]:=by
 refine Y3 (given:=[.arr 1 0 l.length (T.ints l)]) fun id hi F hF inv xs hx=> ?_
 rw[hid]at hi
 cases hi
 obtain⟨x,r,rfl,h1,h2⟩:=hx.IZ
 obtain rfl:=h2.NQ
 obtain⟨a,cap,rfl,hcap,_,_,hm⟩:=AsX inv rfl h1
 rcases hm with hm | ⟨b,o,rfl,hown,hhas⟩
 ·subst hm
  have:l=[]:=List.eq_nil_of_length_eq_zero (by omega)
  subst this
  refine(h0 a 0 F.w0).mono fun e w' ⟨he,hw⟩=>⟨a,0,he,⟨Nat.le_refl _,by omega⟩,.inl rfl,?_⟩
  rw[hw];exact Kept.refl F
 ·refine(hc b o cap l F.w0 (Ao2 hhas) (by omega) hcap.1).mono fun e w' ⟨he,q,hw⟩=>⟨_,cap,he,⟨by omega,hcap.2⟩,.inr ⟨b,o,rfl,?_,fun _=>by rw[hown];simp⟩,?_⟩
  ·refine Ajq (f:=putCells (Value.int .i64) o (compact l++List.replicate (l.length-(compact l).length) 0).toArray) hhas ?_ (Aay _ _ _) (fun c h1 _ i h2=> ?_) (Zy _) (by simp;omega)
   ·rw[hw]
    simp only[putRow]
    rw[WM]
    rfl
   ·simp only[AwD]at h2
    rw[AgT _ o c (by simp;omega) (by omega)]
    simp[iv,List.getElem?_append,h2]
  ·rw[hw]
   refine⟨by simp[putRow,J4,Sort.ahead],rfl,rfl,rfl,fun b' h1 h2=> ?_⟩
   have hne:b'≠b:=by intro e;rw[e,hown]at h2;cases h2
   simp only[putRow]
   rw[WN _ _ hne]
   rfl
end Go.Eng
namespace Go.Eng
open Go.Lib Go.RowKit Go.Sort
def Le:Nat→List Value→Array Value→Array Value
 | _,[],c=>c
 | o,v::r,c=>Le (o+1) r (c.setIfInBounds o v)
theorem FZ:∀(vs:List Value) (o:Nat) (c:Array Value),(Le o vs c).size=c.size
 | [],_,_=>rfl
 | v::r,o,c=>by rw[Le,FZ r];simp
theorem IG:∀(vs:List Value) (o k:Nat) (c:Array Value),k<o∨o+vs.length≤k→(Le o vs c)[k]? =c[k]?
 | [],_,_,_,_=>rfl
 | v::r,o,k,c,h=>by
  simp only[List.length_cons]at h
  rw[Le,IG r (o+1) k _ (by omega),Array.getElem?_setIfInBounds,if_neg (by omega)]
theorem Sc:∀(vs:List Value) (o i:Nat) (c:Array Value),i<vs.length→o+vs.length≤c.size→(Le o vs c)[o+i]? =vs[i]?
 | v::r,o,0,c,_,hc=>by
  simp only[List.length_cons]at hc
  rw[Le,IG r (o+1) (o+0) _ (by omega),Array.getElem?_setIfInBounds,if_pos (by omega),if_pos (by omega)]
  rfl
 | v::r,o,i+1,c,hi,hc=>by
  simp only[List.length_cons]at hc hi
  rw[Le,show o+(i+1)=o+1+i by omega,Sc r (o+1) i _ (by omega) (by simp;omega)]
  simp
theorem Ep (b:Nat):∀(vs:List Value) (o:Nat) (w:World),w.setCells b o vs=mapBlock w b (Le o vs)
 | [],o,w=>(mapBlock_id w b _ fun _ _ _ _=>rfl).symm
 | v::r,o,w=>by
  rw[World.setCells,Ep b r,setCell_eq,mapBlock_mapBlock]
  rfl
def AFf (l:List Int) (i:Nat) (v:Int):List Int:=l.take i++v::l.drop i
theorem ACP {l:List Int} {i j:Nat} {v:Int} (hi:i≤l.length):(AFf l i v)[j]? =if j<i then l[j]? else if j=i then some v else l[j-1]? :=by
 unfold AFf
 have hm:min i l.length=i:=by omega
 rw[List.getElem?_append]
 simp only[List.length_take,hm]
 split
 ·rename_i h;rw[List.getElem?_take,if_pos h]
 ·split
  ·rename_i h1 h2;subst h2;simp
  ·rename_i h1 h2
   obtain⟨d,rfl⟩:∃d,j=i+(d+1):=⟨j-i-1,by omega⟩
   rw[show i+(d+1)-i=d+1 by omega,List.getElem?_cons_succ,List.getElem?_drop]
   congr 1
theorem Awf {l:List Int} {j:Nat}:(iv l)[j]? =(l[j]?).map (Value.int .i64):=by simp[iv]
theorem AG7 {l:List Int} {i j:Nat} {v:Int} (hi:i≤l.length):(iv (AFf l i v))[j]? =if j<i then(iv l)[j]? else if j=i then some (.int .i64 v)else(iv l)[j-1]? :=by
 rw[Awf,ACP hi]
 split
 ·rw[Awf]
 ·split
  ·rfl
  ·rw[Awf]
theorem At0 {w:World} {b o n:Nat} {vs:List Value} (h:Has w b o vs n) {j:Nat} {v:Value} (hj:vs[j]? =some v):w.cell? ⟨b,o+j,none⟩=some v:=by
 have hl:=(List.getElem?_eq_some_iff.1 hj).1
 rw[(DT h).2 j hl,hj]
theorem AtV {w:World} {b o n:Nat} {vs:List Value} (h:Has w b o vs n) {j:Nat} (hj:j<n):(w.cell? ⟨b,o+j,none⟩).isSome=true:=by
 obtain⟨_,c,et,hb,h2,_,_⟩:=h
 unfold World.cell?
 simp only[hb]
 have:o+j<c.size:=by omega
 simp[this]
theorem Aco {w:World} {b o n:Nat} {vs:List Value} (h:Has w b o vs n) (x:Nat):w.frozen? ⟨b,x,none⟩=false:=by
 obtain⟨_,c,et,hb,_⟩:=h
 unfold World.frozen?
 simp only[hb]
 simp
theorem Ao7 {w:World} {b o n:Nat} {vs:List Value} (h:Has w b o vs n):∃t k,w.shape? b=some (t,k)∧o+n≤k:=by
 obtain⟨_,c,et,hb,h2,_⟩:=h
 exact⟨et,c.size,by unfold World.shape?;simp only[hb],h2⟩
theorem alloc_at (w:World) (o:Obj):(w.alloc o).heap[w.heap.size]? =some o:=by
 show(w.heap.push o)[w.heap.size]? =some o
 rw[Array.getElem?_push,if_pos rfl]
theorem VU (w:World) (o:Obj) {k:Nat} (h:k<w.heap.size):(w.alloc o).heap[k]? =w.heap[k]? :=by
 show(w.heap.push o)[k]? =w.heap[k]?
 rw[Array.getElem?_push,if_neg (by omega)]
theorem OE (w:World) (o:Obj):(w.alloc o).heap.size=w.heap.size+1:=Array.size_push _
theorem Agi {l:List Int} {off i n:Nat} {v:Int} (hi:i≤l.length) (hn:l.length+1≤n) (c:Array Value) (hc:off+n≤c.size) (hl:∀j,j<i→c[off+j]? =(iv l)[j]?) (j:Nat) (hj:j<l.length+1):
 (Le (off+i) (iv [v]) (Le (off+(i+1)) ((iv l).drop i) c))[off+j]? =(iv (AFf l i v))[j]? :=by
 rw[AG7 hi]
 by_cases h1:j<i
 ·rw[if_pos h1,IG _ _ _ _ (.inl (by omega)),IG _ _ _ _ (.inl (by omega)),hl j h1]
 ·rw[if_neg h1]
  by_cases h2:j=i
  ·subst h2
   rw[if_pos rfl]
   have:=Sc (iv [v]) (off+j) 0 (Le (off+(j+1)) ((iv l).drop j) c) (by simp) (by rw[FZ];simp;omega)
   simp only[Nat.add_zero]at this
   rw[this];rfl
  ·rw[if_neg h2,IG _ _ _ _ (.inr (by simp;omega))]
   have:=Sc ((iv l).drop i) (off+(i+1)) (j-(i+1)) c (by simp;omega) (by simp;omega)
   rw[show off+(i+1)+(j-(i+1))=off+j by omega]at this
   rw[this,List.getElem?_drop]
   congr 1;omega
end Go.Eng
namespace Go.Eng.T
open Go.Lib Go.RowKit Go.Sort
theorem AAn {P:Program} {Ae:Nat→Option FuncId} {G:Gl} {g k:Nat} (hid:Ae g=some k)
 (h0:∀(p:Option Addr) (cap:Nat) (w:Go.World),Calls P k #[.slice p 0 cap] w fun e w'=>e= .returned (.tuple #[])∧w' =w)
 (hc:∀(blk off cap:Nat) (zs:List Int) (w:Go.World),Holds (Value.int .i64) w blk off zs.toArray→blk<w.heap.size→zs.length<4611686018427387904→
  Calls P k #[.slice (some ⟨blk,off,none⟩) zs.length cap] w fun e w'=>e= .returned (.tuple #[])∧∃n os,w' =grow (putRow (Value.int .i64) (Sort.ahead w n) blk off (zs.mergeSort fun x y=>decide (x≤y)).toArray) os):
 ADY (Den P Ae G g):=fun l hl=>ADB hid h0 hc l hl
theorem ArJ {P:Program} {Ae:Nat→Option FuncId} {G:Gl} {g k:Nat} (hid:Ae g=some k)
 (h0:∀(p:Option Addr) (cap:Nat) (w:Go.World),Calls P k #[.slice p 0 cap] w fun e w'=>e= .returned (.slice p 0 cap)∧w' =w)
 (hc:∀(blk off cap:Nat) (zs:List Int) (w:Go.World),Holds (Value.int .i64) w blk off zs.toArray→zs.length≤9223372036854775807→zs.length≤cap→
  Calls P k #[.slice (some ⟨blk,off,none⟩) zs.length cap] w fun e w'=>e= .returned (.slice (some ⟨blk,off,none⟩) (compact zs).length cap)∧∃q,w' =putRow (Value.int .i64) (Sort.ahead w q) blk off (compact zs++List.replicate (zs.length-(compact zs).length) 0).toArray):
 CompactS (Den P Ae G g):=fun l hl=>Auc hid h0 hc l hl (compact_length_le l)
end Go.Eng.T
namespace Go.Eng
open Go.Lib Go.RowKit Go.Sort
theorem Aya {F:Fr} {given:List O} {k e len:Nat} {cs:List V} {x:Value} (inv:Inv F F.β0 F.own0 (hp given) F.w0) (hk:hp given k= .arr e 0 len cs) (h:VR F F.β0 F.own0 (hp given) F.w0 (.arr k) x):
 ∃a cap vs,x= .slice a len cap∧(len≤cap∧cap≤9223372036854775807)∧vs.length=cs.length∧cs.length=len*e∧
  (cap*e=0∨∃b o,a=some ⟨b,o,none⟩∧F.own0 b=some (k,[])∧Has F.w0 b o vs (cap*e))∧
  ∀(i:Nat) (v:V) (x:Value),cs[i]? =some v→vs[i]? =some x→Ow F.Ae F.w0 F.own0 (F.S F.w0 F.own0) 0 k [i] v x:=by
 have ho:=inv.objs k
 rw[hk]at ho
 obtain⟨vs,h1,h2,h3,h4,h5⟩:=ho
 cases h with
 | @arr _ e' t len' cs' he=>
  rw[hk]at he
  simp only[Ah,Option.some.injEq,Prod.mk.injEq]at he
  obtain⟨rfl,rfl,rfl,rfl⟩:=he
  exact⟨_,_,vs,rfl,h3,h1,h2,h4,h5⟩
 | goneA hd=>rw[hk]at hd;cases hd
def AGT (P:Program) (k:Nat):Prop:=∀(a:Option Addr) (n cap i vb vo vc:Nat) (vs ds:List Value) (w:World),i≤n→n≤4194304→(n≤cap∧cap≤9223372036854775807)→vs.length=n*2→ds.length=2→
 (cap=0∨∃b o,a=some ⟨b,o,none⟩∧Has w b o vs (cap*2)∧b≠vb)→Has w vb vo ds (vc*2)→1≤vc→
 Calls P k #[.slice a n cap,.int .i64 i,.slice (some ⟨vb,vo,none⟩) 1 vc] w fun e w'=>∃b' o' cap',e= .returned (.slice (some ⟨b',o',none⟩) (n+1) cap')∧(n+1≤cap'∧cap'≤9223372036854775807)∧
  Has w' b' o' (vs.take (i*2)++ds++vs.drop (i*2)) (cap'*2)∧(w.heap.size≤b'∨∃o,a=some ⟨b',o,none⟩∧cap≠0)∧
  w.heap.size≤w'.heap.size∧w'.os=w.os∧w'.tape=w.tape∧w'.output=w.output∧∀b,b<w.heap.size→b≠b'→w'.heap[b]? =w.heap[b]?
def XT (own:Nat→Option (Nat×List Nat)) (b' i:Nat):Nat→Option (Nat×List Nat):=fun b=>
 if b=b' then some (2,[])else match own b with
 | some (0,j::q)=>some (2,(if j<i*2 then j else j+2)::q)
 | some (1,j::q)=>some (2,(i*2+j)::q)
 | _=>none
theorem AB8 {P:Program} {Ae:Nat→Option FuncId} {G:Gl} {g k:Nat} (hid:Ae g=some k) (hC:AGT P k) {cs ds:List V} {n i:Nat} (hn:n≤4194304) (hi:i≤n) (hcs:cs.length=n*2) (hds:ds.length=2):
 Den P Ae G g [.arr 0,.sc (.int .i64 i),.arr 1] [.arr 2 0 n cs,.arr 2 0 1 ds] (.sl 0 2 (n+1) (cs.take (i*2)++ds++cs.drop (i*2))) [.dead,.dead]:=by
 intro id hid' F hF hG hb ht hgn inv xs hx
 rw[hid]at hid'
 cases hid'
 obtain⟨x0,r0,rfl,h1,h2⟩:=hx.IZ
 obtain⟨x1,r1,rfl,h3,h4⟩:=h2.IZ
 obtain⟨x2,r2,rfl,h5,h6⟩:=h4.IZ
 obtain rfl:=h6.NQ
 obtain⟨a,cap,vs,rfl,hcap,hv1,_,hm,hel⟩:=Aya (k:=0) inv rfl h1
 obtain⟨a2,cap2,ws,rfl,hcap2,hw1,_,hm2,hel2⟩:=Aya (k:=1) inv rfl h5
 cases h3
 obtain⟨vb,vo,rfl,hvown,hvhas⟩:∃vb vo,a2=some ⟨vb,vo,none⟩∧F.own0 vb=some (1,[])∧Has F.w0 vb vo ws (cap2*2):=by
  rcases hm2 with h | h
  ·omega
  ·exact h
 have hm':cap=0∨∃b o,a=some ⟨b,o,none⟩∧Has F.w0 b o vs (cap*2)∧b≠vb:=by
  rcases hm with h | ⟨b,o,e1,e2,e3⟩
  ·exact .inl (by omega)
  ·exact .inr ⟨b,o,e1,e3,fun e=>by rw[e,hvown]at e2;cases e2⟩
 refine(hC a n cap i vb vo cap2 vs ws F.w0 hi hn hcap (by omega) (by omega) hm' hvhas hcap2.1).mono fun e w' ⟨b',o',cap',he,hcap',hhas,hpl,hsz,hos,htp,hou,hkeep⟩=> ?_
 subst he
 have hb':b' <F.w0.heap.size→F.own0 b' =some (0,[]):=by
  intro hlt
  rcases hpl with h | ⟨o,e1,e0⟩
  ·omega
  ·rcases hm with h | ⟨b,o2,e2,e3,_⟩
   ·omega
   ·rw[e2]at e1;cases e1;exact e3
 have hne:∀b k j q,F.own0 b=some (k,j::q)→b≠b'∧b<F.w0.heap.size:=by
  intro b k j q h
  have hlt:=(inv.ownb b _ h).1
  refine⟨fun e=> ?_,hlt⟩
  subst e
  rw[hb' hlt]at h
  cases h
 refine⟨XT F.own0 b' i,⟨hsz,hos,htp,hou,fun b h1 h2=> ?_,fun b p h=> ?_,?_,by rw[hgn];rfl,fun j o hj=> ?_⟩⟩
 ·refine hkeep b h1 (fun e=> ?_)
  subst e
  rw[hb' h1]at h2;cases h2
 ·unfold XT at h
  split at h
  ·rename_i e;subst e
   exact⟨Qw hhas,fun hlt=>by rw[hb' hlt];simp⟩
  ·split at h
   ·rename_i j q e;exact⟨Nat.lt_of_lt_of_le (inv.ownb b _ e).1 hsz,fun _=>by rw[e];simp⟩
   ·rename_i j q e;exact⟨Nat.lt_of_lt_of_le (inv.ownb b _ e).1 hsz,fun _=>by rw[e];simp⟩
   ·cases h
 ·have hng:F.ngiven=2:=by rw[hgn];rfl
  rw[hng]
  refine .own hcap' ?_ ?_ (.inr ⟨b',o',rfl,by unfold XT;rw[if_pos rfl],hhas⟩) ?_
  ·simp[hcs,hds];omega
  ·simp[hcs,hds,hv1,hw1]
  ·intro j v x hv hx
   simp only[List.nil_append]
   have mv:∀(k j0:Nat),Ow F.Ae F.w0 F.own0 (F.S F.w0 F.own0) 0 k [j0] v x→(∀b q,F.own0 b=some (k,j0::q)→XT F.own0 b' i b=some (2,j::q))→
    Ow F.Ae w' (XT F.own0 b' i) (fun _ b=>F.G b) 0 2 [j] v x:=by
    intro k j0 h hl
    refine h.move (Nat.le_refl 0) (fun fl b h1 h2 h3=> ?_) (fun fl b h1 h2 h3=> ?_) (fun b q hb=> ?_)
    ·have:fl=3:=by
      match fl,h1,h2 with
      | 1,_,h2=>simp[lv]at h2
      | 2,_,h2=>simp[lv]at h2
      | 3,_,_=>rfl
      | m+4,_,h2=>simp[lv]at h2
     subst this
     exact h3
    ·have:fl=3:=by
      match fl,h1,h2 with
      | 1,_,h2=>simp[lv]at h2
      | 2,_,h2=>simp[lv]at h2
      | 3,_,_=>rfl
      | m+4,_,h2=>simp[lv]at h2
     subst this
     have hg:=inv.glob b h3
     refine hkeep b hg.1 (fun e=> ?_)
     subst e
     rw[hb' hg.1]at hg;cases hg.2.1
    ·have hb2:F.own0 b=some (k,j0::q):=hb
     have hn:=hne b k j0 q hb2
     exact⟨hl b q hb2,hkeep b hn.2 hn.1⟩
   have hlen1:(cs.take (i*2)).length=i*2:=by simp[hcs];omega
   have hlen2:(vs.take (i*2)).length=i*2:=by simp[hv1,hcs];omega
   by_cases g1:j<i*2
   ·rw[List.append_assoc,List.getElem?_append_left (by omega),List.getElem?_take,if_pos g1]at hv hx
    refine mv 0 j (hel j v x hv hx) (fun b q hb=> ?_)
    unfold XT
    rw[if_neg (hne b _ _ q hb).1,hb]
    simp[g1]
   ·by_cases g2:j<i*2+2
    ·rw[List.append_assoc,List.getElem?_append_right (by omega),List.getElem?_append_left (by omega)]at hv hx
     rw[hlen1]at hv
     rw[hlen2]at hx
     refine mv 1 (j-i*2) (hel2 _ v x hv hx) (fun b q hb=> ?_)
     unfold XT
     rw[if_neg (hne b _ _ q hb).1,hb]
     simp;omega
    ·rw[List.append_assoc,List.getElem?_append_right (by omega),List.getElem?_append_right (by omega),List.getElem?_drop]at hv hx
     rw[hlen1,hds]at hv
     rw[hlen2,hw1,hds]at hx
     have e:i*2+(j-i*2-2)=j-2:=by omega
     rw[e]at hv hx
     refine mv 0 (j-2) (hel _ v x hv hx) (fun b q hb=> ?_)
     unfold XT
     rw[if_neg (hne b _ _ q hb).1,hb]
     have:¬j-2<i*2:=by omega
     simp[this];omega
 ·match j,hj with
  | 0,hj=>simp only[List.getElem?_cons_zero,Option.some.injEq]at hj;subst hj;trivial
  | 1,hj=>simp only[List.getElem?_cons_succ,List.getElem?_cons_zero,Option.some.injEq]at hj;subst hj;trivial
  | j+2,hj=>simp at hj
end Go.Eng
namespace Go.Eng.T
open Go.Lib Go.RowKit Go.Sort
theorem AuW {P:Program} {Ae:Nat→Option FuncId} {G:Gl} {g k:Nat} (hid:Ae g=some k) (hC:AGT P k):AqZ (Den P Ae G g):=by
 intro l i x hl hi
 have h:=AB8 (G:=G) (g:=g) hid hC (cs:=l.flatMap Bw) (ds:=Bw x) (n:=l.length) (i:=i) hl hi (RP l) rfl
 have e1:l.flatMap Bw=(l.take i).flatMap Bw++(l.drop i).flatMap Bw:=by rw[←List.flatMap_append,List.take_append_drop]
 have h1:((l.take i).flatMap Bw).length=i*2:=by rw[RP];simp;omega
 have e2:(l.flatMap Bw).take (i*2)=(l.take i).flatMap Bw:=by rw[e1,List.take_left' h1]
 have e3:(l.flatMap Bw).drop (i*2)=(l.drop i).flatMap Bw:=by rw[e1,List.drop_left' h1]
 rw[e2,e3]at h
 have e4:(l.take i++x::l.drop i).flatMap Bw=(l.take i).flatMap Bw++Bw x++(l.drop i).flatMap Bw:=by simp
 rw[e4]
 exact h
theorem AAj {P:Program} {Ae:Nat→Option FuncId} {G:Gl} {g k:Nat} {t:TypeId} (hid:Ae g=some k)
 (h0:∀w,Calls P k #[.slice none 0 0,.int .i64 0] w fun e w'=>e= .returned (.slice none 0 0)∧w' =w)
 (h1:∀(n:Nat) (w:Go.World),0<n→n≤16777216→Calls P k #[.slice none 0 0,.int .i64 n] w fun e w'=>e= .returned (.slice (some ⟨w.heap.size,0,none⟩) 0 (grownCap w n 0 t))∧
  w' =w.drew.alloc (.cells (([]:List Value).toArray++Builtin.zeroCells #[.int .i64 0] n++Builtin.zeroCells #[.int .i64 0] (grownCap w n 0 t-n)) t)):ADW (Den P Ae G g):=by
 intro n hn
 refine Y3 (given:=[]) (l':=[]) fun id hi F hF inv xs hx=> ?_
 rw[hid]at hi
 cases hi
 obtain⟨x0,r0,rfl,g1,g2⟩:=hx.IZ
 obtain⟨x1,r1,rfl,g3,g4⟩:=g2.IZ
 obtain rfl:=g4.NQ
 cases g1
 cases g3
 by_cases hz:n=0
 ·subst hz
  refine(h0 F.w0).mono fun e w' ⟨he,hw⟩=>⟨none,0,he,⟨by simp,by omega⟩,.inl rfl,?_⟩
  rw[hw];exact Kept.refl F
 ·refine(h1 n F.w0 (by omega) hn).mono fun e w' ⟨he,hw⟩=> ?_
  have hgc:=Yq F.w0 n 0 t
  have hgb:=Xj F.w0 n 0 t (by omega)
  subst hw
  refine⟨_,_,he,⟨by simp,hgb⟩,.inr ⟨_,_,rfl,⟨Zy [],_,t,alloc_at F.w0.drew _,?_,by simp,fun i hi=>by simp at hi⟩,fun h=>absurd h (by omega)⟩,?_⟩
  ·simp[Builtin.zeroCells];omega
  ·exact⟨by rw[OE];simp,rfl,rfl,rfl,fun b hb _=>VU F.w0.drew _ hb⟩
theorem Alg {F:Fr} {w':Go.World} (h1:w'.heap.size=F.w0.heap.size+1) (h2:w'.os=F.w0.os) (h3:w'.tape=F.w0.tape) (h4:w'.output=F.w0.output) (h5:∀b,b<F.w0.heap.size→w'.heap[b]? =F.w0.heap[b]?):Kept F w':=
 ⟨by omega,h2,h3,h4,fun b hb _=>h5 b hb⟩
theorem AuR {P:Program} {Ae:Nat→Option FuncId} {G:Gl} {g k:Nat} {t:TypeId} (hid:Ae g=some k)
 (h0:∀(b o cap:Nat) (w:Go.World),Calls P k #[.slice (some ⟨b,o,none⟩) 1 cap,.int .i64 0] w fun e w'=>e= .returned (.slice (some ⟨w.heap.size,0,none⟩) 0 0)∧w' =w.alloc (.cells #[] t))
 (h1:∀(b o cap:Nat) (v:Int) (w:Go.World),w.cell? ⟨b,o,none⟩=some (.int .i64 v)→Calls P k #[.slice (some ⟨b,o,none⟩) 1 cap,.int .i64 1] w fun e w'=>e= .returned (.slice (some ⟨w.heap.size,0,none⟩) 1 1)∧w' =(w.alloc (.cells #[.int .i64 0] t)).setCells w.heap.size 0 [.int .i64 v])
 (h2:∀(b o cap:Nat) (v:Int) (w:Go.World),w.cell? ⟨b,o,none⟩=some (.int .i64 v)→Calls P k #[.slice (some ⟨b,o,none⟩) 1 cap,.int .i64 2] w fun e w'=>e= .returned (.slice (some ⟨w.heap.size,0,none⟩) 2 2)∧
  w' =(((w.alloc (.cells #[.int .i64 0,.int .i64 0] t)).setCells w.heap.size 0 [.int .i64 v]).drew).setCells w.heap.size 1 [.int .i64 v]):Aqm (Den P Ae G g):=by
 intro v n hn
 have hll:(List.replicate n v).length=n:=List.length_replicate
 have key:Den P Ae G g [.sl 1 1 1 (ints [v]),I n] [] (.sl 0 1 (List.replicate n v).length (ints (List.replicate n v))) []:=by
  refine Y3 (given:=[]) (l':=List.replicate n v) fun id hi F hF inv xs hx=> ?_
  rw[hid]at hi
  cases hi
  obtain⟨x0,r0,rfl,g1,g2⟩:=hx.IZ
  obtain⟨x1,r1,rfl,g3,g4⟩:=g2.IZ
  obtain rfl:=g4.NQ
  cases g3
  cases g1 with
  | rd _ g1=>
  obtain⟨a,cap,rfl,hle,hm⟩:=Arb (l:=[v]) g1
  rcases hm with hm | ⟨b,o,rfl,hb,hcell⟩
  ·cases hm
  have hc:=hcell 0 (by simp)
  simp only[Nat.add_zero,List.getD_cons_zero]at hc
  have off:∀(f:Array Value→Array Value) (W:Go.World) (ob:Obj),W.heap=(F.w0.alloc ob).heap→∀b,b<F.w0.heap.size→(mapBlock W F.w0.heap.size f).heap[b]? =F.w0.heap[b]? :=fun f W ob hW b hb=>by rw[WN _ _ (by omega),hW];exact VU F.w0 ob hb
  match n,hn with
  | 0,_=>
   refine(h0 b o cap F.w0).mono fun e w' ⟨he,hw⟩=>⟨_,0,he,⟨by simp,by omega⟩,.inl rfl,?_⟩
   rw[hw]
   exact Alg (OE _ _) rfl rfl rfl (fun b hb=>VU _ _ hb)
  | 1,_=>
   refine(h1 b o cap v F.w0 hc).mono fun e w' ⟨he,hw⟩=>⟨_,1,he,⟨by simp,by omega⟩,.inr ⟨_,_,rfl,?_,fun h=>absurd h (by omega)⟩,?_⟩
   ·rw[hw,Ep]
    refine⟨Zy _,Le 0 [Value.int .i64 v] #[Value.int .i64 0],t,?_,?_,by simp,fun i hi=> ?_⟩
    ·rw[WM,alloc_at];rfl
    ·rw[FZ];simp
    ·simp at hi;subst hi;rfl
   ·rw[hw,Ep]
    exact Alg (by rw[J4,OE]) rfl rfl rfl (fun b hb=>off _ _ _ rfl b hb)
  | 2,_=>
   refine(h2 b o cap v F.w0 hc).mono fun e w' ⟨he,hw⟩=>⟨_,2,he,⟨by simp,by omega⟩,.inr ⟨_,_,rfl,?_,fun h=>absurd h (by omega)⟩,?_⟩
   ·rw[hw,Ep,Ep]
    refine⟨Zy _,Le 1 [Value.int .i64 v] (Le 0 [Value.int .i64 v] #[Value.int .i64 0,Value.int .i64 0]),t,?_,?_,by simp,fun i hi=> ?_⟩
    ·rw[WM]
     simp only[World.drew]
     rw[WM,alloc_at];rfl
    ·rw[FZ,FZ];simp
    ·simp at hi
     match i,hi with
     | 0,_=>rfl
     | 1,_=>rfl
   ·rw[hw,Ep,Ep]
    refine Alg ?_ rfl rfl rfl (fun b hb=> ?_)
    ·rw[J4];simp only[World.drew];rw[J4,OE]
    ·rw[WN _ _ (by omega)]
     simp only[World.drew]
     exact off _ _ _ rfl b hb
 rw[hll]at key
 exact key
end Go.Eng.T
namespace Go.Proofs
open Go.Shelf
def Tryz.Ar7:Go.Shelf.Ren:=⟨fun | 189=>202 | 125=>249 | 257=>248 | 128=>288 | 129=>289 | 294=>279 | 295=>280 | 296=>281 | 297=>282 | 298=>283 | 299=>284 | 216=>285 | 300=>286 | 301=>287 | 328=>318 | 329=>319 | 330=>320 | 331=>321 | 332=>322 | 215=>323 | 343=>364 | n=>n,fun | 28=>22 | 3=>3 | 46=>203 | 0=>0 | 51=>246 | 53=>248 | 4=>4 | 183=>239 | 182=>238 | 131=>243 | 5=>5 | 9=>9 | 218=>274 | 222=>278 | 228=>293 | 229=>184 | n=>n,fun | n=>n⟩
theorem Tryz.Ax2:Go.Proofs.Lays.n189 Tryz.prog Tryz.Ar7:={
 mixed:=by kernel_rfl
 f125:=Tryz.func249.trans (congrArg some (by kernel_rfl))
 f128:=Tryz.func288.trans (congrArg some (by kernel_rfl))
 f129:=Tryz.func289.trans (congrArg some (by kernel_rfl))
 f189:=Tryz.func202.trans (congrArg some (by kernel_rfl))
 f215:=Tryz.func323.trans (congrArg some (by kernel_rfl))
 f216:=Tryz.func285.trans (congrArg some (by kernel_rfl))
 f257:=Tryz.func248.trans (congrArg some (by kernel_rfl))
 f294:=Tryz.func279.trans (congrArg some (by kernel_rfl))
 f295:=Tryz.func280.trans (congrArg some (by kernel_rfl))
 f296:=Tryz.func281.trans (congrArg some (by kernel_rfl))
 f297:=Tryz.func282.trans (congrArg some (by kernel_rfl))
 f298:=Tryz.func283.trans (congrArg some (by kernel_rfl))
 f299:=Tryz.func284.trans (congrArg some (by kernel_rfl))
 f300:=Tryz.func286.trans (congrArg some (by kernel_rfl))
 f301:=Tryz.func287.trans (congrArg some (by kernel_rfl))
 f328:=Tryz.func318.trans (congrArg some (by kernel_rfl))
 f329:=Tryz.func319.trans (congrArg some (by kernel_rfl))
 f330:=Tryz.func320.trans (congrArg some (by kernel_rfl))
 f331:=Tryz.func321.trans (congrArg some (by kernel_rfl))
 f332:=Tryz.func322.trans (congrArg some (by kernel_rfl))
 f343:=Tryz.func364.trans (congrArg some (by kernel_rfl))
 t0:=Tryz.underlying0
 a0:=Tryz.isAgg0
 z0:=Tryz.sizeOf0
 v0:=Tryz.zeroValue0
 t3:=Tryz.underlying3
 a3:=Tryz.isAgg3
 z3:=Tryz.sizeOf3
 v3:=Tryz.zeroValue3
 t4:=Tryz.underlying4
 a4:=Tryz.isAgg4
 z4:=Tryz.sizeOf4
 v4:=Tryz.zeroValue4
 t5:=Tryz.underlying5
 a5:=Tryz.isAgg5
 z5:=Tryz.sizeOf5
 v5:=Tryz.zeroValue5
 t9:=Tryz.underlying9
 a9:=Tryz.isAgg9
 z9:=Tryz.sizeOf9
 v9:=Tryz.zeroValue9
 t28:=Tryz.underlying22
 a28:=Tryz.isAgg22
 z28:=Tryz.sizeOf22
 v28:=Tryz.zeroValue22
 t46:=Tryz.underlying203
 a46:=Tryz.isAgg203
 z46:=Tryz.sizeOf203
 v46:=Tryz.zeroValue203
 t51:=Tryz.underlying246
 a51:=Tryz.isAgg246
 z51:=Tryz.sizeOf246
 v51:=Tryz.zeroValue246
 t53:=Tryz.underlying248
 a53:=Tryz.isAgg248
 z53:=Tryz.sizeOf248
 v53:=Tryz.zeroValue248
 t131:=Tryz.underlying243
 a131:=Tryz.isAgg243
 z131:=Tryz.sizeOf243
 v131:=Tryz.zeroValue243
 t182:=Tryz.underlying238
 a182:=Tryz.isAgg238
 z182:=Tryz.sizeOf238
 v182:=Tryz.zeroValue238
 t183:=Tryz.underlying239
 a183:=Tryz.isAgg239
 z183:=Tryz.sizeOf239
 v183:=Tryz.zeroValue239
 t218:=Tryz.underlying274
 a218:=Tryz.isAgg274
 z218:=Tryz.sizeOf274
 v218:=Tryz.zeroValue274
 t222:=Tryz.underlying278
 a222:=Tryz.isAgg278
 z222:=Tryz.sizeOf278
 v222:=Tryz.zeroValue278
 t228:=Tryz.underlying293
 a228:=Tryz.isAgg293
 z228:=Tryz.sizeOf293
 v228:=Tryz.zeroValue293
 t229:=Tryz.underlying184
 a229:=Tryz.isAgg184
 z229:=Tryz.sizeOf184
 v229:=Tryz.zeroValue184}
open Go.Sort Go.RowKit in
theorem Tryz.slices_Sort_int (blk off cap:Nat) (zs:List Int) (w:World) (hH:Holds (Value.int .i64) w blk off zs.toArray) (hblk:blk<w.heap.size) (hsz:zs.length<4611686018427387904):
 Calls Tryz.prog 202 #[.slice (some ⟨blk,off,none⟩) zs.length cap] w fun e w'=>
  e= .returned (.tuple #[])∧∃n os,w' =grow (putRow (Value.int .i64) (Sort.ahead w n) blk off (zs.mergeSort fun x y=>decide (x≤y)).toArray) os:=Any.slices_Sort_int Tryz.Ax2 blk off cap zs w hH hblk hsz
def Tryz.Aur:Go.Shelf.Ren:=⟨fun | 113=>360 | n=>n,fun | 28=>22 | 3=>3 | 4=>4 | 9=>9 | 20=>20 | 0=>0 | n=>n,fun | n=>n⟩
theorem Tryz.AFM:Go.Proofs.Lays.n113 Tryz.prog Tryz.Aur:={
 mixed:=by kernel_rfl
 f113:=Tryz.func360.trans (congrArg some (by kernel_rfl))
 t0:=Tryz.underlying0
 a0:=Tryz.isAgg0
 z0:=Tryz.sizeOf0
 v0:=Tryz.zeroValue0
 t3:=Tryz.underlying3
 a3:=Tryz.isAgg3
 z3:=Tryz.sizeOf3
 v3:=Tryz.zeroValue3
 t4:=Tryz.underlying4
 a4:=Tryz.isAgg4
 z4:=Tryz.sizeOf4
 v4:=Tryz.zeroValue4
 t9:=Tryz.underlying9
 a9:=Tryz.isAgg9
 z9:=Tryz.sizeOf9
 v9:=Tryz.zeroValue9
 t20:=Tryz.underlying20
 a20:=Tryz.isAgg20
 z20:=Tryz.sizeOf20
 v20:=Tryz.zeroValue20
 t28:=Tryz.underlying22
 a28:=Tryz.isAgg22
 z28:=Tryz.sizeOf22
 v28:=Tryz.zeroValue22}
open Go.Lib in
theorem Tryz.slices_Max_int (b off n c:Nat) (zs:List Int) (w:World) (hn:0<n) (hz:n≤zs.length) (hbig:n≤9223372036854775807) (hc:∀j,j<zs.length→w.cell? ⟨b,off+j,none⟩=some (.int .i64 (zs.getD j 0))):
 Calls Tryz.prog 360 #[.slice (some ⟨b,off,none⟩) n c] w fun e w'=>e= .returned (.int .i64 (Lib.maxOf (zs.take n)))∧w' =w:=Any.slices_Max_int Tryz.AFM b off n c zs w hn hz hbig hc
def Tryz.Am2:Go.Shelf.Ren:=⟨fun | 15=>315 | n=>n,fun | 22=>22 | 3=>3 | 4=>4 | n=>n,fun | n=>n⟩
theorem Tryz.Afw:Go.Proofs.Lays2.n15 Tryz.prog Tryz.Am2:={
 mixed:=by kernel_rfl
 f15:=Tryz.func315.trans (congrArg some (by kernel_rfl))
 t3:=Tryz.underlying3
 a3:=Tryz.isAgg3
 z3:=Tryz.sizeOf3
 v3:=Tryz.zeroValue3
 t4:=Tryz.underlying4
 a4:=Tryz.isAgg4
 z4:=Tryz.sizeOf4
 v4:=Tryz.zeroValue4
 t22:=Tryz.underlying22
 a22:=Tryz.isAgg22
 z22:=Tryz.sizeOf22
 v22:=Tryz.zeroValue22
 i3:=by kernel_rfl}
open Go.RowKit Go.Lib in
theorem Tryz.slices_Clone_int (b off n c:Nat) (zs:List Int) (w:World) (hz:n≤zs.length) (hbig:n*8≤140737488355328) (hc:∀j,j<zs.length→w.cell? ⟨b,off+j,none⟩=some (.int .i64 (zs.getD j 0))):
 Calls Tryz.prog 315 #[.slice (some ⟨b,off,none⟩) n c] w fun e w'=>∃v',e= .returned v'∧w'.ownsRow w.heap.size 3 1 v' n ((zs.take n).map (Value.int .i64))∧v'≠ .slice none 0 0∧Below w.heap.size w w':=Any.slices_Clone_int Tryz.Afw b off n c zs w hz hbig hc
open Go.RowKit Go.Lib in
theorem Tryz.slices_Clone_int_nil (n c:Nat) (w:World):
 Calls Tryz.prog 315 #[.slice none n c] w fun e w'=>e= .returned (.slice none 0 0)∧w' =w:=Any.slices_Clone_int_nil Tryz.Afw n c w
open Go.RowKit Go.Lib in
theorem Tryz.slices_Clone_int_zero (a:Addr) (c:Nat) (w:World):
 Calls Tryz.prog 315 #[.slice (some a) 0 c] w fun e w'=>∃v',e= .returned v'∧w'.ownsRow w.heap.size 3 1 v' 0 []∧v'≠ .slice none 0 0∧Below w.heap.size w w':=Any.slices_Clone_int_zero Tryz.Afw a c w
def Tryz.Anv:Go.Shelf.Ren:=⟨fun | 20=>208 | n=>n,fun | 22=>22 | 3=>3 | 4=>4 | 0=>0 | n=>n,fun | n=>n⟩
theorem Tryz.Apz:Go.Proofs.Lays2.n20 Tryz.prog Tryz.Anv:={
 mixed:=by kernel_rfl
 f20:=Tryz.func208.trans (congrArg some (by kernel_rfl))
 t0:=Tryz.underlying0
 a0:=Tryz.isAgg0
 z0:=Tryz.sizeOf0
 v0:=Tryz.zeroValue0
 t3:=Tryz.underlying3
 a3:=Tryz.isAgg3
 z3:=Tryz.sizeOf3
 v3:=Tryz.zeroValue3
 t4:=Tryz.underlying4
 a4:=Tryz.isAgg4
 z4:=Tryz.sizeOf4
 v4:=Tryz.zeroValue4
 t22:=Tryz.underlying22
 a22:=Tryz.isAgg22
 z22:=Tryz.sizeOf22
 v22:=Tryz.zeroValue22
 i3:=by kernel_rfl}
open Go.RowKit Go.Lib Go.Sort in
theorem Tryz.slices_Compact_int (blk off cap:Nat) (zs:List Int) (w:World) (hH:Holds (Value.int .i64) w blk off zs.toArray) (hsz:zs.length≤9223372036854775807) (hcap:zs.length≤cap):
 Calls Tryz.prog 208 #[.slice (some ⟨blk,off,none⟩) zs.length cap] w fun e w'=>e= .returned (.slice (some ⟨blk,off,none⟩) (Lib.compact zs).length cap)∧∃q,w' =putRow (Value.int .i64) (Sort.ahead w q) blk off (Lib.compact zs++List.replicate (zs.length-(Lib.compact zs).length) 0).toArray:=Any.slices_Compact_int Tryz.Apz blk off cap zs w hH hsz hcap
open Go.RowKit Go.Lib Go.Sort in
theorem Tryz.slices_Compact_int_empty (a:Option Addr) (cap:Nat) (w:World):
 Calls Tryz.prog 208 #[.slice a 0 cap] w fun e w'=>e= .returned (.slice a 0 cap)∧w' =w:=Any.slices_Compact_int_empty Tryz.Apz a cap w
open Go.RowKit Go.Sort in
theorem Tryz.slices_Sort_int_none (p:Option Addr) (cap:Nat) (w:World):
 Calls Tryz.prog 202 #[.slice p 0 cap] w fun e w'=>e= .returned (.tuple #[])∧w' =w:=Any.slices_Sort_int_none Tryz.Ax2 p cap w
end Go.Proofs
namespace Go.Eng.Ins
open Go Go.Proofs Go.Shelf Go.RowKit Go.Lib Go.Sort Go.Eng
set_option maxRecDepth 100000
theorem inf:∃i:TypeInfo,Tryz.prog.info? 209=some i∧i.size=2∧i.bytes=32∧i.zero=some (.agg #[.int .i64 0,.slice none 0 0]):=by
 have h:(Tryz.prog.info? 209).isSome=true:=by kernel_rfl
 obtain⟨i,hi⟩:=Option.isSome_iff_exists.1 h
 have h1:(Tryz.prog.info? 209).map (·.size)=some 2:=by kernel_rfl
 have h2:(Tryz.prog.info? 209).map (·.bytes)=some 32:=by kernel_rfl
 have h3:(Tryz.prog.info? 209).bind (·.zero)=some (.agg #[.int .i64 0,.slice none 0 0]):=by kernel_rfl
 rw[hi]at h1 h2 h3
 simp only[Option.map_some,Option.some.injEq,Option.bind_some]at h1 h2 h3
 exact⟨i,hi,h1,h2,h3⟩
theorem Gx {P:Program} (w:World) (dT sT ty elem:TypeId) (s:Nat) (b o dLen dCap:Nat) (a:Addr) (sLen sCap:Nat) (cs:List Value)
 (hu:P.underlying dT=some (.slice elem)) (hs:(P.info? elem).map (·.size)=some s) (hn:cs.length=Nat.min sLen dLen*s)
 (hsrc:∀j v,cs[j]? =some v→w.cell? (a.add j)=some v) (hc:∀j,j<cs.length→(w.cell? ⟨b,o+j,none⟩).isSome=true) (hf:∀j,j<cs.length→w.frozen? ⟨b,o+j,none⟩=false) (h1:∀v∈cs,v.oneCell' =true):
 (Builtin.copy_ #[dT,sT] ty #[.slice (some ⟨b,o,none⟩) dLen dCap,.slice (some a) sLen sCap]).run P w= .ok (goInt (Nat.min sLen dLen)) (w.setCells b o cs):=by
 have hl:=run_loadCells_list (P:=P) w a cs hsrc
 have hst:=run_storeCells_cells (P:=P) b o cs 0 w (by simpa using hc) (by simpa using hf) h1
 cases hq:P.info? elem with
 | none=>simp[hq]at hs
 | some i=>
  have hi:i.size=s:=by simpa[hq]using hs
  rw[hn]at hl
  simp[Builtin.copy_,run_underlying hu,Builtin.lenOf,Builtin.firstCells,sizeOf,typeInfo,hq,hi,hl,hst]
set_option maxHeartbeats 4000000 in
theorem AyN (b off n c i vb voff vc:Nat) (cs vs:List Value) (w:World) (hi:i<n) (hroom:n+1≤c) (hc63:c≤9223372036854775807) (hvb:vb≠b)
 (hcl:cs.length=n*2) (hvl:vs.length=2)
 (hcs:∀j v,cs[j]? =some v→w.cell? ⟨b,off+j,none⟩=some v) (hsp:∀j,j<(n+1)*2→(w.cell? ⟨b,off+j,none⟩).isSome=true) (hfz:∀j,j<(n+1)*2→w.frozen? ⟨b,off+j,none⟩=false)
 (hvs:∀j v,vs[j]? =some v→w.cell? ⟨vb,voff+j,none⟩=some v) (h1c:∀v∈cs,v.oneCell' =true) (h1v:∀v∈vs,v.oneCell' =true)
 (tA tB:TypeId) (kA kB:Nat) (hsa:w.shape? vb=some (tA,kA)) (hsb:w.shape? b=some (tB,kB)) (hkB:kB≠0) (hfa:w.frozen? ⟨vb,voff,none⟩=false) (hfe:w.frozen? ⟨vb,kA,none⟩=false):
 Calls Tryz.prog 273 #[.slice (some ⟨b,off,none⟩) n c,.int .i64 i,.slice (some ⟨vb,voff,none⟩) 1 vc] w fun e w'=>
  e= .returned (.slice (some ⟨b,off,none⟩) (n+1) c)∧w' =(w.drew.setCells b (off+(i+1)*2) (cs.drop (i*2))).setCells b (off+i*2) vs:=by
 have hz1:¬((1:Int)=0):=by omega
 have hz2:¬((i:Int)=(n:Int)):=by omega
 obtain⟨i0,hi0,hs0,hb0,hz0⟩:=inf
 have hsz:(Tryz.prog.info? 209).map (·.size)=some 2:=by rw[hi0];simp[hs0]
 have hso:∀w,(Go.sizeOf 209).run Tryz.prog w= .ok 2 w:=fun w=>by simp[Go.sizeOf,typeInfo,hi0,hs0]
 have hov:∀lb cb,(callFunc 312 #[.slice (some ⟨vb,voff,none⟩) 1 vc,.slice (some ⟨b,off+(i+1)*2,none⟩) lb cb]).run Tryz.prog w= .ok (.value (.bool false)) w:=fun lb cb=>by
  rw[run_callFunc_extern Tryz.func312 (by kernel_rfl) (by kernel_rfl) (by kernel_rfl) (e:=Extern.SlicesOverlaps.overlaps #[174,174] #[4]) (by kernel_rfl),
   Lib.run_overlaps_apart w 174 4 209 Tryz.underlying174 2 hso ⟨vb,voff,none⟩ ⟨b,off+(i+1)*2,none⟩ 1 vc lb cb hvb tA tB kA kB hsa hsb hkB hfa hfe]
  rfl
 have hdl:(cs.drop (i*2)).length=(n-i)*2:=by rw[List.length_drop,hcl];omega
 have hw1:IntKind.i64.wrap ((i:Int)+1)=(i:Int)+1:=by rw[IntKind.wrap_i64];omega
 have hb1:(0:Int)≤(i:Int)+1:=by omega
 have hin:i≤n:=by omega
 have htn:((i:Int)+1).toNat=i+1:=by omega
 have hb2:¬(c=i+1):=by omega
 have hb3:(i:Int)≤(n:Int)+1:=by omega
 have hb4:¬(c=i):=by omega
 have hb5:(i:Int)≤((n+1:Nat):Int):=by omega
 have mixed:Tryz.prog.follows .mixedOrders=true:=by kernel_rfl
 have hcp1:∀ty dc sc,(Builtin.copy_ #[174,174] ty #[.slice (some ⟨b,off+(i+1)*2,none⟩) (n-i) dc,.slice (some ⟨b,off+i*2,none⟩) (n+1-i) sc]).run Tryz.prog w.drew= .ok (goInt ((n-i:Nat):Int)) (w.drew.setCells b (off+(i+1)*2) (cs.drop (i*2))):=fun ty dc sc=>by
  have hmin:Nat.min (n+1-i) (n-i)=n-i:=by simp only[Nat.min_def];split<;>omega
  have:=Gx (P:=Tryz.prog) w.drew 174 174 ty 209 2 b (off+(i+1)*2) (n-i) dc ⟨b,off+i*2,none⟩ (n+1-i) sc (cs.drop (i*2)) Tryz.underlying174 hsz (by rw[hdl,hmin])
   (fun j v hj=>by rw[Addr.add_lit,Nat.add_assoc];exact hcs (i*2+j) v (by rwa [List.getElem?_drop]at hj))
   (fun j hj=>by rw[Nat.add_assoc];exact hsp _ (by omega)) (fun j hj=>by rw[Nat.add_assoc];exact hfz _ (by omega)) (fun v hv=>h1c v (List.mem_of_mem_drop hv))
  rw[hmin]at this
  exact this
 obtain⟨W1,hW1⟩:∃W1,W1=w.drew.setCells b (off+(i+1)*2) (cs.drop (i*2)):=⟨_,rfl⟩
 have hsp1:∀k,k<(n+1)*2→(W1.cell? ⟨b,off+k,none⟩).isSome=true:=fun k hk=>by
  rw[hW1]
  exact isSome_setCells b _ _ _ (fun j hj=>by rw[Nat.add_assoc];exact hsp _ (by omega)) _ (hsp k hk)
 have hcp2:∀(W:World),(∀x,W.cell? x=W1.cell? x)→(∀x,W.frozen? x=W1.frozen? x)→∀ty dc,(Builtin.copy_ #[174,174] ty #[.slice (some ⟨b,off+i*2,none⟩) (n+1-i) dc,.slice (some ⟨vb,voff,none⟩) 1 vc]).run Tryz.prog W= .ok (goInt 1) (W.setCells b (off+i*2) vs):=fun W hWc hWf ty dc=>by
  have hmin:Nat.min 1 (n+1-i)=1:=by simp only[Nat.min_def];split<;>omega
  have:=Gx (P:=Tryz.prog) W 174 174 ty 209 2 b (off+i*2) (n+1-i) dc ⟨vb,voff,none⟩ 1 vc vs Tryz.underlying174 hsz (by rw[hvl,hmin])
   (fun j v hj=>by
    rw[Addr.add_lit,hWc,hW1,World.cell?_setCells_out b _ _ _ _ (fun h _=>absurd h hvb)]
    exact hvs j v hj)
   (fun j hj=>by rw[hWc,Nat.add_assoc];exact hsp1 _ (by omega)) (fun j hj=>by rw[hWf,hW1,World.frozen?_setCells,Nat.add_assoc];exact hfz _ (by omega)) h1v
  rw[hmin]at this
  exact this
 rw[←hW1]at hcp1
 go_enter Tryz.func273,Tryz.ntmps273
 go_wp2_with (simp only[hov])
 go_region_law_o (refine step_copy_runI rfl _ _ 174 174 rfl _ _ (by simp[Act.eval,Act.put]) (by simp[Act.eval,Act.put]) (hcp1 _ _ _) ?_)
 go_wp2_with (at_builtin;refine wpList_copy_runI _ rfl _ _ 174 174 rfl _ _ rfl rfl (hcp2 _ (fun _=>rfl) (fun _=>rfl) _ _) ?_)
 go_ret
 first | exact⟨rfl,rfl⟩ | exact⟨rfl,by rw[hW1]⟩
set_option maxHeartbeats 4000000 in
theorem ArD (b off n c vb voff vc:Nat) (vs:List Value) (w:World) (hroom:n+1≤c) (hc63:c≤9223372036854775807) (hvl:vs.length=2)
 (hsp:∀j,j<2→(w.cell? ⟨b,off+n*2+j,none⟩).isSome=true) (hfz:∀j,j<2→w.frozen? ⟨b,off+n*2+j,none⟩=false)
 (hvs:∀j v,vs[j]? =some v→w.cell? ⟨vb,voff+j,none⟩=some v) (h1v:∀v∈vs,v.oneCell' =true):
 Calls Tryz.prog 273 #[.slice (some ⟨b,off,none⟩) n c,.int .i64 n,.slice (some ⟨vb,voff,none⟩) 1 vc] w fun e w'=>
  e= .returned (.slice (some ⟨b,off,none⟩) (n+1) c)∧w' =w.setCells b (off+n*2) vs:=by
 have hz1:¬((1:Int)=0):=by omega
 obtain⟨i0,hi0,hs0,hb0,hz0⟩:=inf
 have mixed:Tryz.prog.follows .mixedOrders=true:=by kernel_rfl
 have hsrc:Go.Src Tryz.prog i0.size 174 (.slice (some ⟨vb,voff,none⟩) 1 vc) 1 vs w:=Go.Src.ofSlice w Tryz.underlying174 ⟨vb,voff,none⟩ 1 vc vs (by omega) (fun j u hj=>by rw[Addr.add_lit];exact hvs j u hj) h1v
 have hrun:∀ty,(Builtin.append_ #[174,174] ty #[.slice (some ⟨b,off,none⟩) n c,.slice (some ⟨vb,voff,none⟩) 1 vc]).run Tryz.prog w= .ok (.slice (some ⟨b,off,none⟩) (n+1) c) (w.setCells b (off+n*2) vs):=fun ty=>by
  have:=run_append_room_src w 174 174 ty 209 i0 Tryz.underlying174 hi0 b off n c (.slice (some ⟨vb,voff,none⟩) 1 vc) 1 vs hsrc hroom (fun j hj=>by rw[hs0];exact hsp j (by omega)) (fun j hj=>by rw[hs0];exact hfz j (by omega))
  rw[hs0]at this
  exact this
 go_enter Tryz.func273,Tryz.ntmps273
 go_wp2_with (at_builtin;refine Lib.wpList_append_run _ rfl _ _ _ _ rfl _ _ rfl rfl _ _ (hrun _) ?_)
 go_ret
 exact⟨rfl,rfl⟩
set_option maxHeartbeats 4000000 in
theorem Ap6 (base:Option Addr) (n c vb voff vc:Nat) (cs vs:List Value) (w:World) (hnc:n≤c) (hroom:c<n+1) (hbig:(n+1)*32≤140737488355328)
 (hcl:cs.length=n*2) (hvl:vs.length=2) (hnil:base=none→n=0)
 (hcs:∀a,base=some a→∀j v,cs[j]? =some v→w.cell? (a.add j)=some v)
 (hvs:∀j v,vs[j]? =some v→w.cell? ⟨vb,voff+j,none⟩=some v) (h1v:∀v∈vs,v.oneCell' =true):
 Calls Tryz.prog 273 #[.slice base n c,.int .i64 n,.slice (some ⟨vb,voff,none⟩) 1 vc] w fun e w'=>
  e= .returned (.slice (some ⟨w.heap.size,0,none⟩) (n+1) (grownCap w (n+1) c 209))∧
  w' =w.drew.alloc (.cells ((cs++vs).toArray++Builtin.zeroCells #[.int .i64 0,.slice none 0 0] (grownCap w (n+1) c 209-(n+1))) 209):=by
 have hz1:¬((1:Int)=0):=by omega
 obtain⟨i0,hi0,hs0,hb0,hz0⟩:=inf
 have mixed:Tryz.prog.follows .mixedOrders=true:=by kernel_rfl
 have hsrc:Go.Src Tryz.prog i0.size 174 (.slice (some ⟨vb,voff,none⟩) 1 vc) 1 vs w:=Go.Src.ofSlice w Tryz.underlying174 ⟨vb,voff,none⟩ 1 vc vs (by omega) (fun j u hj=>by rw[Addr.add_lit];exact hvs j u hj) h1v
 have hold:(Builtin.firstCells i0.size n (.slice base n c)).run Tryz.prog w.drew= .ok cs.toArray w.drew:=by
  rw[hs0]
  cases base with
  | none=>
   have h0:=hnil rfl
   subst h0
   have hc0:cs=[]:=List.length_eq_zero_iff.1 (by simpa using hcl)
   rw[hc0]
   exact run_firstCells_none w.drew 2 0 0 c
  | some a=>exact run_firstCells_some w.drew 2 n a n c cs (by omega) (fun j v hj=>hcs a rfl j v hj)
 have hrun:∀ty,(Builtin.append_ #[174,174] ty #[.slice base n c,.slice (some ⟨vb,voff,none⟩) 1 vc]).run Tryz.prog w=
  .ok (.slice (some ⟨w.heap.size,0,none⟩) (n+1) (grownCap w (n+1) c 209)) (w.drew.alloc (.cells ((cs++vs).toArray++Builtin.zeroCells #[.int .i64 0,.slice none 0 0] (grownCap w (n+1) c 209-(n+1))) 209)):=fun ty=>
  run_append_grow_src w 174 174 ty 209 i0 _ Tryz.underlying174 hi0 hz0 base n c cs hold _ 1 vs hsrc hroom (by omega) (by rw[hb0];exact growslice_fits hroom hbig)
 go_enter Tryz.func273,Tryz.ntmps273
 cases base with
 | none=>
  have h0:=hnil rfl
  subst h0
  go_wp2_with (at_builtin;refine Lib.wpList_append_run _ rfl _ _ _ _ rfl _ _ rfl rfl _ _ (hrun _) ?_)
  go_ret
  exact⟨rfl,rfl⟩
 | some a=>
  obtain⟨ab,ao,asp⟩:=a
  go_wp2_with (at_builtin;refine Lib.wpList_append_run _ rfl _ _ _ _ rfl _ _ rfl rfl _ _ (hrun _) ?_)
  all_goals (go_ret;exact⟨rfl,rfl⟩)
set_option maxHeartbeats 4000000 in
theorem ADQ (b off n c i vb voff vc:Nat) (cs vs:List Value) (w:World) (hi:i<n) (hnc:n≤c) (hroom:c<n+1) (hbig:(n+1)*32≤140737488355328)
 (hcl:cs.length=n*2) (hvl:vs.length=2)
 (hcs:∀j v,cs[j]? =some v→w.cell? ⟨b,off+j,none⟩=some v)
 (hvs:∀j v,vs[j]? =some v→w.cell? ⟨vb,voff+j,none⟩=some v) (h1c:∀v∈cs,v.oneCell' =true) (h1v:∀v∈vs,v.oneCell' =true):
 Calls Tryz.prog 273 #[.slice (some ⟨b,off,none⟩) n c,.int .i64 i,.slice (some ⟨vb,voff,none⟩) 1 vc] w fun e w'=>
  e= .returned (.slice (some ⟨w.heap.size,0,none⟩) (n+1) (grownCap w (n+1) c 209))∧
  w' =(((w.alloc (.cells ((cs.take (i*2)).toArray++Builtin.zeroCells #[.int .i64 0,.slice none 0 0] (n+1-i)++Builtin.zeroCells #[.int .i64 0,.slice none 0 0] (grownCap w (n+1) c 209-(n+1))) 209)).drew.setCells w.heap.size (i*2) vs).drew).setCells w.heap.size ((i+1)*2) (cs.drop (i*2)):=by
 have hz1:¬((1:Int)=0):=by omega
 have hz2:¬((i:Int)=(n:Int)):=by omega
 have hz3:(c:Int)<(n:Int)+1:=by omega
 obtain⟨i0,hi0,hs0,hb0,hz0⟩:=inf
 have mixed:Tryz.prog.follows .mixedOrders=true:=by kernel_rfl
 have hsz:(Tryz.prog.info? 209).map (·.size)=some 2:=by rw[hi0];simp[hs0]
 have hbw:b<w.heap.size:=block_lt_of_cell (hcs 0 _ (List.getElem?_eq_getElem (by omega)))
 have hvw:vb<w.heap.size:=block_lt_of_cell (hvs 0 _ (List.getElem?_eq_getElem (by omega)))
 have hkk:(n:Int)+1-(i:Int)=((n+1-i:Nat):Int):=by omega
 have hik:i+(n+1-i)=n+1:=by omega
 have hold:(Builtin.firstCells i0.size i (.slice (some ⟨b,off,none⟩) i c)).run Tryz.prog w.drew= .ok (cs.take (i*2)).toArray w.drew:=by
  rw[hs0]
  exact run_firstCells_some w.drew 2 i ⟨b,off,none⟩ i c (cs.take (i*2)) (by rw[List.length_take];omega) (fun j v hj=>by
   rw[Addr.add_lit]
   rw[List.getElem?_take]at hj
   split at hj
   ·exact hcs j v hj
   ·cases hj)
 have hrz:∀ty,(Builtin.append_ #[174,3] ty #[.slice (some ⟨b,off,none⟩) i c,.int .i64 ((n:Int)+1-(i:Int))]).run Tryz.prog w=
  .ok (.slice (some ⟨w.heap.size,0,none⟩) (n+1) (grownCap w (n+1) c 209)) (w.drew.alloc (.cells ((cs.take (i*2)).toArray++Builtin.zeroCells #[.int .i64 0,.slice none 0 0] (n+1-i)++Builtin.zeroCells #[.int .i64 0,.slice none 0 0] (grownCap w (n+1) c 209-(n+1))) 209)):=fun ty=>by
  have h:=Lib.run_append_grow_zeros w 174 3 ty 209 i0 _ .i64 .i64 Tryz.underlying174 Tryz.underlying3 hi0 hz0 (some ⟨b,off,none⟩) i c (cs.take (i*2)) hold (n+1-i) (by omega) (by omega) (by omega) (by omega) (by rw[hb0];omega) (by rw[hb0,hik];exact growslice_fits hroom hbig)
  rw[hik]at h
  rw[hkk]
  exact h
 obtain⟨G,hG⟩:∃G,G=grownCap w (n+1) c 209:=⟨_,rfl⟩
 obtain⟨ROW,hROW⟩:∃ROW:Array Value,ROW=(cs.take (i*2)).toArray++Builtin.zeroCells #[.int .i64 0,.slice none 0 0] (n+1-i)++Builtin.zeroCells #[.int .i64 0,.slice none 0 0] (G-(n+1)):=⟨_,rfl⟩
 rw[←hG]at hrz⊢
 rw[←hROW]at hrz⊢
 have hRl:(n+1)*2≤ROW.size:=by
  rw[hROW]
  simp[Builtin.zeroCells]
  omega
 obtain⟨W1,hW1⟩:∃W1,W1=w.drew.alloc (.cells ROW 209):=⟨_,rfl⟩
 rw[←hW1]at hrz
 have hN:∀j,j<(n+1)*2→(W1.cell? ⟨w.heap.size,j,none⟩).isSome=true:=fun j hj=>by
  rw[hW1,World.cell?_alloc_at (w:=w.drew) ROW _ w.heap.size j rfl,Array.getElem?_eq_getElem (by omega)];rfl
 have hNf:∀j,W1.frozen? ⟨w.heap.size,j,none⟩=false:=fun j=>by rw[hW1];exact World.frozen?_alloc_at (w:=w.drew) ROW _ w.heap.size j rfl
 have hOb:∀j v,w.cell? ⟨b,j,none⟩=some v→W1.cell? ⟨b,j,none⟩=some v:=fun j v h=>by rw[hW1,World.cell?_alloc_past (w:=w.drew) _ b j hbw];exact h
 have hOv:∀j v,w.cell? ⟨vb,j,none⟩=some v→W1.cell? ⟨vb,j,none⟩=some v:=fun j v h=>by rw[hW1,World.cell?_alloc_past (w:=w.drew) _ vb j hvw];exact h
 have hcpA:∀(W:World),(∀x,W.cell? x=W1.cell? x)→(∀x,W.frozen? x=W1.frozen? x)→∀ty dc,(Builtin.copy_ #[174,174] ty #[.slice (some ⟨w.heap.size,i*2,none⟩) (n+1-i) dc,.slice (some ⟨vb,voff,none⟩) 1 vc]).run Tryz.prog W= .ok (goInt 1) (W.setCells w.heap.size (i*2) vs):=fun W hWc hWf ty dc=>by
  have hmin:Nat.min 1 (n+1-i)=1:=by simp only[Nat.min_def];split<;>omega
  have:=Gx (P:=Tryz.prog) W 174 174 ty 209 2 w.heap.size (i*2) (n+1-i) dc ⟨vb,voff,none⟩ 1 vc vs Tryz.underlying174 hsz (by rw[hvl,hmin])
   (fun j v hj=>by rw[Addr.add_lit,hWc];exact hOv _ v (hvs j v hj))
   (fun j hj=>by rw[hWc];exact hN _ (by omega)) (fun j hj=>by rw[hWf];exact hNf _) h1v
  rw[hmin]at this
  exact this
 have hGn:n+1≤G:=by rw[hG];exact grownCap_ge w _ _ _
 have hG63:G≤9223372036854775807:=by
  have:=grownCap_le_maxLen w (n+1) c 209 (by unfold maxLen;omega)
  rw[←hG]at this
  unfold maxLen at this
  omega
 have hGi:¬(G=i):=by omega
 have hGim:¬(G=i+1):=by omega
 have hci:¬(c=i):=by omega
 have hbN:b≠w.heap.size:=by omega
 have hdl:(cs.drop (i*2)).length=(n-i)*2:=by rw[List.length_drop,hcl];omega
 have hcpB:∀(W:World),(∀x,W.cell? x=(W1.setCells w.heap.size (i*2) vs).cell? x)→(∀x,W.frozen? x=(W1.setCells w.heap.size (i*2) vs).frozen? x)→∀ty dc sc,(Builtin.copy_ #[174,174] ty #[.slice (some ⟨w.heap.size,(i+1)*2,none⟩) (n-i) dc,.slice (some ⟨b,off+i*2,none⟩) (n-i) sc]).run Tryz.prog W= .ok (goInt ((n-i:Nat):Int)) (W.setCells w.heap.size ((i+1)*2) (cs.drop (i*2))):=fun W hWc hWf ty dc sc=>by
  have hmin:Nat.min (n-i) (n-i)=n-i:=by simp only[Nat.min_def];split<;>omega
  have:=Gx (P:=Tryz.prog) W 174 174 ty 209 2 w.heap.size ((i+1)*2) (n-i) dc ⟨b,off+i*2,none⟩ (n-i) sc (cs.drop (i*2)) Tryz.underlying174 hsz (by rw[hdl,hmin])
   (fun j v hj=>by
    rw[Addr.add_lit,hWc,World.cell?_setCells_out _ _ _ _ _ (fun h _=>absurd h hbN),Nat.add_assoc]
    exact hOb _ v (hcs (i*2+j) v (by rwa [List.getElem?_drop]at hj)))
   (fun j hj=>by rw[hWc];exact isSome_setCells _ _ _ _ (fun t ht=>hN _ (by omega)) _ (hN _ (by omega)))
   (fun j hj=>by rw[hWf,World.frozen?_setCells];exact hNf _) (fun v hv=>h1c v (List.mem_of_mem_drop hv))
  rw[hmin]at this
  exact this
 subst hW1
 have hE1:∀x,((w.alloc (.cells ROW 209)).drew).cell? x=(w.drew.alloc (.cells ROW 209)).cell? x:=fun x=>rfl
 have hE2:∀x,((w.alloc (.cells ROW 209)).drew).frozen? x=(w.drew.alloc (.cells ROW 209)).frozen? x:=fun x=>rfl
 have hF1:∀x,(((w.alloc (.cells ROW 209)).drew.setCells w.heap.size (i*2) vs).drew).cell? x=((w.drew.alloc (.cells ROW 209)).setCells w.heap.size (i*2) vs).cell? x:=fun x=>rfl
 have hF2:∀x,(((w.alloc (.cells ROW 209)).drew.setCells w.heap.size (i*2) vs).drew).frozen? x=((w.drew.alloc (.cells ROW 209)).setCells w.heap.size (i*2) vs).frozen? x:=fun x=>rfl
 have hw1:IntKind.i64.wrap ((i:Int)+1)=(i:Int)+1:=by rw[IntKind.wrap_i64];omega
 have hb1:(0:Int)≤(i:Int)+1:=by omega
 have hin:i≤n:=by omega
 have htn:((i:Int)+1).toNat=i+1:=by omega
 have hb3:(i:Int)≤(n:Int):=by omega
 clear hkk hik hold hROW hG hRl
 go_enter Tryz.func273,Tryz.ntmps273
 go_wp2_with (first
  | (at_builtin;refine Lib.wpList_append_run _ rfl _ _ _ _ rfl _ _ rfl rfl _ _ (hrz _) ?_)
  | (at_builtin;refine wpList_copy_runI _ rfl _ _ 174 174 rfl _ _ rfl rfl (hcpA _ hE1 hE2 _ _) ?_)
  | (at_builtin;refine wpList_copy_runI _ rfl _ _ 174 174 rfl _ _ rfl rfl (hcpB _ (fun _=>rfl) (fun _=>rfl) _ _ _) ?_))
 go_region_law_o (refine step_copy_runI rfl _ _ 174 174 rfl (.slice (some ⟨w.heap.size,(i+1)*2,none⟩) (n-i) (G-(i+1))) (.slice (some ⟨b,off+i*2,none⟩) (n-i) (c-i)) (by simp[Act.eval,Act.put]) (by simp[Act.eval,Act.put]) (hcpB _ hF1 hF2 3 (G-(i+1)) (c-i)) ?_)
 go_wp2
 go_ret
 exact⟨rfl,rfl⟩
theorem Agi {l d:List Value} {off i n:Nat} (hi:i≤l.length) (hn:l.length+d.length≤n) (c:Array Value) (hc:off+n≤c.size) (hl:∀j,j<i→c[off+j]? =l[j]?) (j:Nat) (hj:j<l.length+d.length):
 (Le (off+i) d (Le (off+i+d.length) (l.drop i) c))[off+j]? =(l.take i++d++l.drop i)[j]? :=by
 have ht:(l.take i).length=i:=by simp;omega
 by_cases h1:j<i
 ·rw[IG _ _ _ _ (.inl (by omega)),IG _ _ _ _ (.inl (by omega)),hl j h1,List.append_assoc,List.getElem?_append_left (by omega),List.getElem?_take,if_pos h1]
 ·by_cases h2:j<i+d.length
  ·have:=Sc d (off+i) (j-i) (Le (off+i+d.length) (l.drop i) c) (by omega) (by rw[FZ];omega)
   rw[show off+i+(j-i)=off+j by omega]at this
   rw[this,List.append_assoc,List.getElem?_append_right (by omega),List.getElem?_append_left (by omega),ht]
  ·rw[IG _ _ _ _ (.inr (by omega))]
   have:=Sc (l.drop i) (off+i+d.length) (j-i-d.length) c (by simp;omega) (by simp;omega)
   rw[show off+i+d.length+(j-i-d.length)=off+j by omega]at this
   rw[this,List.append_assoc,List.getElem?_append_right (by omega),List.getElem?_append_right (by omega),ht]
theorem Acz {l d:List Value} {i:Nat} (h1:FJ l) (h2:FJ d):FJ (l.take i++d++l.drop i):=by
 intro v hv
 rcases List.mem_append.1 hv with hv | hv
 ·rcases List.mem_append.1 hv with hv | hv
  ·exact h1 v (List.mem_of_mem_take hv)
  ·exact h2 v hv
 ·exact h1 v (List.mem_of_mem_drop hv)
theorem AJy:AGT Tryz.prog 273:=by
 intro a n cap i vb vo vc vs ds w hi hn hcap hvl hdl hm hV hvc
 have hds:∀j x,ds[j]? =some x→w.cell? ⟨vb,vo+j,none⟩=some x:=fun j x hj=>At0 hV hj
 have hdo:FJ ds:=hV.1
 have hgc:=Yq w (n+1) cap 209
 have hgb:=Xj w (n+1) cap 209 (by omega)
 have hlen:(vs.take (i*2)++ds++vs.drop (i*2)).length=(n+1)*2:=by simp[hvl,hdl];omega
 have zc:∀k,(Builtin.zeroCells #[Value.int .i64 0,.slice none 0 0] k).size=k*2:=fun k=>by simp[Builtin.zeroCells]
 have endGrow:cap<n+1→i=n→FJ vs→(∀a0,a=some a0→∀j x,vs[j]? =some x→w.cell? (a0.add j)=some x)→(a=none→n=0)→_:=fun hc hin ho hcells hnil=>
  (Ap6 a n cap vb vo vc vs ds w hcap.1 hc (by omega) hvl hdl hnil hcells hds hdo).mono
   (R':=fun e w'=>∃b' o' cap',e= .returned (.slice (some ⟨b',o',none⟩) (n+1) cap')∧(n+1≤cap'∧cap'≤9223372036854775807)∧
    Has w' b' o' (vs.take (i*2)++ds++vs.drop (i*2)) (cap'*2)∧(w.heap.size≤b'∨∃o,a=some ⟨b',o,none⟩∧cap≠0)∧
    w.heap.size≤w'.heap.size∧w'.os=w.os∧w'.tape=w.tape∧w'.output=w.output∧∀b,b<w.heap.size→b≠b'→w'.heap[b]? =w.heap[b]?)
   fun e w' ⟨he,hw⟩=>by
    subst hw
    refine⟨_,_,_,he,⟨hgc,hgb⟩,⟨Acz ho hdo,_,209,alloc_at w.drew _,?_,by rw[hlen];exact Nat.mul_le_mul_right _ hgc,fun j hj=> ?_⟩,.inl (Nat.le_refl _),by rw[OE];simp,rfl,rfl,rfl,fun b hb _=>VU w.drew _ hb⟩
    ·simp[zc,hvl,hdl];omega
    ·rw[hlen]at hj
     have e1:vs.take (i*2)=vs:=List.take_of_length_le (by omega)
     have e2:vs.drop (i*2)=[]:=List.drop_eq_nil_of_le (by omega)
     rw[Nat.zero_add,e1,e2,List.append_nil,Array.getElem?_append,if_pos (by simp[hvl,hdl];omega)]
     simp
 rcases hm with hm | ⟨b,o,rfl,hhas,hbne⟩
 ·subst hm
  obtain rfl:n=0:=by omega
  obtain rfl:i=0:=by omega
  have hv0:vs=[]:=List.length_eq_zero_iff.1 (by omega)
  subst hv0
  exact endGrow (by omega) rfl (fun v hv=>by cases hv) (fun a0 _ j x hj=>by simp at hj) (fun _=>rfl)
 ·have ho:FJ vs:=hhas.1
  have hcs:∀j x,vs[j]? =some x→w.cell? ⟨b,o+j,none⟩=some x:=fun j x hj=>At0 hhas hj
  have hbl:=Qw hhas
  have keep:∀(f:Array Value→Array Value) (W:World),W.heap=w.heap→∀b2,b2<w.heap.size→b2≠b→(mapBlock W b f).heap[b2]? =w.heap[b2]? :=fun f W hW b2 _ h2=>by rw[WN _ _ h2,hW]
  by_cases hroom:n+1≤cap
  ·by_cases hin:i=n
   ·subst hin
    refine(ArD b o i cap vb vo vc ds w hroom hcap.2 hdl (fun j hj=> ?_) (fun j _=>Aco hhas _) hds hdo).mono fun e w' ⟨he,hw⟩=> ?_
    ·have:=AtV hhas (j:=i*2+j) (by omega)
     rwa [←Nat.add_assoc]at this
    ·rw[Ep]at hw
     subst hw
     refine⟨b,o,cap,he,⟨hroom,hcap.2⟩,?_,.inr ⟨o,rfl,by omega⟩,by rw[J4];exact Nat.le_refl _,rfl,rfl,rfl,fun b2 h1 h2=>keep _ w rfl b2 h1 h2⟩
     refine Ajq hhas (WM _ _ _) (FZ _ _) (fun c h1 h2 j hj=> ?_) (Acz ho hdo) (by rw[hlen];omega)
     have:=Agi (l:=vs) (d:=ds) (off:=o) (i:=i*2) (n:=cap*2) (by omega) (by omega) c h1 (fun j hj=>h2 j (by omega)) j (by rw[hlen]at hj;omega)
     have e2:vs.drop (i*2)=[]:=List.drop_eq_nil_of_le (by omega)
     rw[e2]at this⊢
     exact this
   ·obtain⟨tA,kA,hsa,_⟩:=Ao7 hV
    obtain⟨tB,kB,hsb,hkB⟩:=Ao7 hhas
    refine(AyN b o n cap i vb vo vc vs ds w (by omega) hroom hcap.2 (Ne.symm hbne) hvl hdl hcs (fun j hj=>AtV hhas (by omega)) (fun j _=>Aco hhas _) hds ho hdo tA tB kA kB hsa hsb (by omega) (Aco hV _) (Aco hV _)).mono fun e w' ⟨he,hw⟩=> ?_
    rw[Ep,Ep,mapBlock_mapBlock]at hw
    subst hw
    refine⟨b,o,cap,he,⟨hroom,hcap.2⟩,?_,.inr ⟨o,rfl,by omega⟩,by rw[J4];exact Nat.le_refl _,rfl,rfl,rfl,fun b2 h1 h2=>keep _ w.drew rfl b2 h1 h2⟩
    refine Ajq hhas (WM _ _ _) (fun c=>by rw[FZ,FZ]) (fun c h1 h2 j hj=> ?_) (Acz ho hdo) (by rw[hlen];omega)
    have:=Agi (l:=vs) (d:=ds) (off:=o) (i:=i*2) (n:=cap*2) (by omega) (by omega) c h1 (fun j hj=>h2 j (by omega)) j (by rw[hlen]at hj;omega)
    rw[hdl,show o+i*2+2=o+(i+1)*2 by omega]at this
    exact this
  ·by_cases hin:i=n
   ·rw[hin]
    rw[hin]at endGrow
    refine endGrow (by omega) rfl ho (fun a0 ha j x hj=> ?_) (fun h=>by cases h)
    cases ha
    rw[Addr.add_lit]
    exact hcs j x hj
   ·refine(ADQ b o n cap i vb vo vc vs ds w (by omega) hcap.1 (by omega) (by omega) hvl hdl hcs hds ho hdo).mono fun e w' ⟨he,hw⟩=> ?_
    rw[Ep,Ep]at hw
    have hsz:w'.heap.size=w.heap.size+1:=by
     rw[hw,J4];simp only[World.drew];rw[J4,OE]
    have hoff:∀b',b' <w.heap.size→w'.heap[b']? =w.heap[b']? :=by
     intro b' hb'
     rw[hw,WN _ _ (by omega)]
     simp only[World.drew]
     rw[WN _ _ (by omega)]
     exact VU w _ hb'
    refine⟨w.heap.size,0,_,he,⟨hgc,hgb⟩,?_,.inl (Nat.le_refl _),by omega,by rw[hw];rfl,by rw[hw];rfl,by rw[hw];rfl,fun b' hb' _=>hoff b' hb'⟩
    obtain⟨R0,hR0⟩:∃R0:Array Value,R0=(vs.take (i*2)).toArray++Builtin.zeroCells #[.int .i64 0,.slice none 0 0] (n+1-i)++Builtin.zeroCells #[.int .i64 0,.slice none 0 0] (grownCap w (n+1) cap 209-(n+1)):=⟨_,rfl⟩
    have hR0s:R0.size=grownCap w (n+1) cap 209*2:=by rw[hR0];simp[zc,hvl];omega
    have hat:w'.heap[w.heap.size]? =some (.cells (Le ((i+1)*2) (vs.drop (i*2)) (Le (i*2) ds R0)) 209 (0,0)):=by
     rw[hw,WM]
     simp only[World.drew]
     rw[WM]
     simp only[]
     rw[alloc_at,←hR0]
     rfl
    refine⟨Acz ho hdo,_,209,hat,?_,by rw[hlen];exact Nat.mul_le_mul_right _ hgc,fun j hj=> ?_⟩
    ·rw[FZ,FZ,hR0s];omega
    ·rw[hlen]at hj
     have hg2:(n+1)*2≤grownCap w (n+1) cap 209*2:=Nat.mul_le_mul_right _ hgc
     have ht:(vs.take (i*2)).length=i*2:=by simp;omega
     rw[Nat.zero_add]
     by_cases q1:j<i*2
     ·rw[IG _ _ _ _ (.inl (by omega)),IG _ _ _ _ (.inl q1),hR0,List.append_assoc,List.getElem?_append_left (by omega),Array.getElem?_append,if_pos (by simp[zc,hvl];omega),Array.getElem?_append,if_pos (by simp;omega)]
      simp
     ·by_cases q2:j<i*2+2
      ·rw[IG _ _ _ _ (.inl (by omega))]
       have:=Sc ds (i*2) (j-i*2) R0 (by omega) (by omega)
       rw[show i*2+(j-i*2)=j by omega]at this
       rw[this,List.append_assoc,List.getElem?_append_right (by omega),List.getElem?_append_left (by omega),ht]
      ·have:=Sc (vs.drop (i*2)) ((i+1)*2) (j-(i+1)*2) (Le (i*2) ds R0) (by simp;omega) (by rw[FZ];simp;omega)
       rw[show(i+1)*2+(j-(i+1)*2)=j by omega]at this
       rw[this,List.append_assoc,List.getElem?_append_right (by omega),List.getElem?_append_right (by omega),ht,hdl]
       congr 1;omega
end Go.Eng.Ins
namespace Go.Eng.Ins
open Go Go.Proofs Go.Shelf Go.RowKit Go.Lib Go.Sort Go.Eng
set_option maxRecDepth 100000
theorem mk2 (w:World):(Instr.makeSlice 22 (.int .i64 2) (.int .i64 2)).run Tryz.prog w= .ok (.slice (some ⟨w.heap.size,0,none⟩) 2 2) (w.alloc (.cells #[.int .i64 0,.int .i64 0] 3)):=by kernel_rfl
theorem mk1 (w:World):(Instr.makeSlice 22 (.int .i64 1) (.int .i64 1)).run Tryz.prog w= .ok (.slice (some ⟨w.heap.size,0,none⟩) 1 1) (w.alloc (.cells #[.int .i64 0] 3)):=by kernel_rfl
theorem mk0 (w:World):(Instr.makeSlice 22 (.int .i64 0) (.int .i64 0)).run Tryz.prog w= .ok (.slice (some ⟨w.heap.size,0,none⟩) 0 0) (w.alloc (.cells #[] 3)):=by kernel_rfl
theorem siz:(Tryz.prog.info? 3).map (·.size)=some 1:=by kernel_rfl
set_option maxHeartbeats 4000000 in
theorem AJq (b o cap:Nat) (v:Int) (w:World) (hv:w.cell? ⟨b,o,none⟩=some (.int .i64 v)):
 Calls Tryz.prog 271 #[.slice (some ⟨b,o,none⟩) 1 cap,.int .i64 2] w fun e w'=>e= .returned (.slice (some ⟨w.heap.size,0,none⟩) 2 2)∧w' =(((w.alloc (.cells #[.int .i64 0,.int .i64 0] 3)).setCells w.heap.size 0 [.int .i64 v]).drew).setCells w.heap.size 1 [.int .i64 v]:=by
 have mixed:Tryz.prog.follows .mixedOrders=true:=by kernel_rfl
 have hbw:b<w.heap.size:=block_lt_of_cell hv
 obtain⟨W1,hW1⟩:∃W1,W1=w.alloc (.cells #[.int .i64 0,.int .i64 0] 3):=⟨_,rfl⟩
 have hN:∀j,j<2→(W1.cell? ⟨w.heap.size,j,none⟩).isSome=true:=fun j hj=>by
  rw[hW1,World.cell?_alloc_at (w:=w) _ _ w.heap.size j rfl,Array.getElem?_eq_getElem (by simpa using hj)];rfl
 have hNf:∀j,W1.frozen? ⟨w.heap.size,j,none⟩=false:=fun j=>by rw[hW1];exact World.frozen?_alloc_at (w:=w) _ _ w.heap.size j rfl
 have hOv:W1.cell? ⟨b,o,none⟩=some (.int .i64 v):=by rw[hW1,World.cell?_alloc_past (w:=w) _ b o hbw];exact hv
 have hcA:∀ty,(Builtin.copy_ #[22,22] ty #[.slice (some ⟨w.heap.size,0,none⟩) 2 2,.slice (some ⟨b,o,none⟩) 1 cap]).run Tryz.prog W1= .ok (goInt 1) (W1.setCells w.heap.size 0 [.int .i64 v]):=fun ty=>by
  have:=Gx (P:=Tryz.prog) W1 22 22 ty 3 1 w.heap.size 0 2 2 ⟨b,o,none⟩ 1 cap [.int .i64 v] Tryz.underlying22 siz rfl
   (fun j x hj=>by
    match j,hj with
    | 0,hj=>simp at hj;subst hj;rw[Addr.add_lit];exact hOv
    | j+1,hj=>simp at hj)
   (fun j hj=>by rw[Nat.zero_add];simp at hj;exact hN j (by omega)) (fun j hj=>by rw[Nat.zero_add];exact hNf j) (by simp[Value.oneCell'])
  exact this
 obtain⟨W2,hW2⟩:∃W2,W2=W1.setCells w.heap.size 0 [.int .i64 v]:=⟨_,rfl⟩
 rw[←hW2]at hcA
 have hcB:∀ty dc sc,(Builtin.copy_ #[22,22] ty #[.slice (some ⟨w.heap.size,1,none⟩) 1 dc,.slice (some ⟨w.heap.size,0,none⟩) 1 sc]).run Tryz.prog W2.drew= .ok (goInt 1) (W2.drew.setCells w.heap.size 1 [.int .i64 v]):=fun ty dc sc=>by
  have:=Gx (P:=Tryz.prog) W2.drew 22 22 ty 3 1 w.heap.size 1 1 dc ⟨w.heap.size,0,none⟩ 1 sc [.int .i64 v] Tryz.underlying22 siz rfl
   (fun j x hj=>by
    match j,hj with
    | 0,hj=>
     simp at hj;subst hj;rw[Addr.add_lit]
     have:=World.cell?_setCells_in w.heap.size [Value.int .i64 v] 0 W1 (fun j hj=>by rw[Nat.zero_add];simp at hj;exact hN j (by omega)) 0 (by simp)
     rw[←hW2]at this
     simpa using this
    | j+1,hj=>simp at hj)
   (fun j hj=>by
    simp at hj;subst hj
    show(W2.cell? _).isSome=true
    rw[hW2]
    exact isSome_setCells _ _ _ _ (fun j hj=>by rw[Nat.zero_add];simp at hj;exact hN j (by omega)) _ (hN 1 (by omega))) (fun j hj=>by
    show W2.frozen? _=false
    rw[hW2,World.frozen?_setCells];exact hNf _) (by simp[Value.oneCell'])
  exact this
 subst hW2
 subst hW1
 clear hN hNf hOv
 go_enter Tryz.func271,Tryz.ntmps271
 go_wp2_with (first
  | go_in
  | (simp only[mk2])
  | (at_builtin;refine wpList_copy_runI _ rfl _ _ 22 22 rfl _ _ rfl rfl (hcA _) ?_))
 refine wp_loop_rounds 2 ?_
 simp only[Code.rounds]
 go_wp2
 go_region_law_o (refine step_copy_runI rfl _ _ 22 22 rfl _ _ (by simp[Act.eval,Act.put]) (by simp[Act.eval,Act.put]) (hcB _ _ _) ?_)
 go_wp2
 go_ret
 exact⟨rfl,rfl⟩
set_option maxHeartbeats 4000000 in
theorem AJv (b o cap:Nat) (v:Int) (w:World) (hv:w.cell? ⟨b,o,none⟩=some (.int .i64 v)):
 Calls Tryz.prog 271 #[.slice (some ⟨b,o,none⟩) 1 cap,.int .i64 1] w fun e w'=>e= .returned (.slice (some ⟨w.heap.size,0,none⟩) 1 1)∧w' =(w.alloc (.cells #[.int .i64 0] 3)).setCells w.heap.size 0 [.int .i64 v]:=by
 have mixed:Tryz.prog.follows .mixedOrders=true:=by kernel_rfl
 have hbw:b<w.heap.size:=block_lt_of_cell hv
 have hcA:∀ty,(Builtin.copy_ #[22,22] ty #[.slice (some ⟨w.heap.size,0,none⟩) 1 1,.slice (some ⟨b,o,none⟩) 1 cap]).run Tryz.prog (w.alloc (.cells #[.int .i64 0] 3))= .ok (goInt 1) ((w.alloc (.cells #[.int .i64 0] 3)).setCells w.heap.size 0 [.int .i64 v]):=fun ty=>by
  have:=Gx (P:=Tryz.prog) (w.alloc (.cells #[.int .i64 0] 3)) 22 22 ty 3 1 w.heap.size 0 1 1 ⟨b,o,none⟩ 1 cap [.int .i64 v] Tryz.underlying22 siz rfl
   (fun j x hj=>by
    match j,hj with
    | 0,hj=>simp at hj;subst hj;rw[Addr.add_lit,World.cell?_alloc_past (w:=w) _ b _ hbw];exact hv
    | j+1,hj=>simp at hj)
   (fun j hj=>by rw[Nat.zero_add];simp at hj;subst hj;rw[World.cell?_alloc_at (w:=w) _ _ w.heap.size 0 rfl];rfl) (fun j hj=>by exact World.frozen?_alloc_at (w:=w) _ _ w.heap.size _ rfl) (by simp[Value.oneCell'])
  exact this
 go_enter Tryz.func271,Tryz.ntmps271
 go_wp2_with (first
  | go_in
  | (simp only[mk1])
  | (at_builtin;refine wpList_copy_runI _ rfl _ _ 22 22 rfl _ _ rfl rfl (hcA _) ?_))
 refine wp_loop_rounds 1 ?_
 simp only[Code.rounds]
 go_wp2
 go_ret
 exact⟨rfl,rfl⟩
set_option maxHeartbeats 4000000 in
theorem AJu (b o cap:Nat) (w:World):
 Calls Tryz.prog 271 #[.slice (some ⟨b,o,none⟩) 1 cap,.int .i64 0] w fun e w'=>e= .returned (.slice (some ⟨w.heap.size,0,none⟩) 0 0)∧w' =w.alloc (.cells #[] 3):=by
 have mixed:Tryz.prog.follows .mixedOrders=true:=by kernel_rfl
 have hcA:∀ty,(Builtin.copy_ #[22,22] ty #[.slice (some ⟨w.heap.size,0,none⟩) 0 0,.slice (some ⟨b,o,none⟩) 1 cap]).run Tryz.prog (w.alloc (.cells #[] 3))= .ok (goInt 0) (w.alloc (.cells #[] 3)):=fun ty=>by
  have:=Gx (P:=Tryz.prog) (w.alloc (.cells #[] 3)) 22 22 ty 3 1 w.heap.size 0 0 0 ⟨b,o,none⟩ 1 cap [] Tryz.underlying22 siz rfl
   (fun j x hj=>by simp at hj) (fun j hj=>by simp at hj) (fun j hj=>by simp at hj) (by simp)
  exact this
 go_enter Tryz.func271,Tryz.ntmps271
 go_wp2_with (first
  | go_in
  | (simp only[mk0])
  | (at_builtin;refine wpList_copy_runI _ rfl _ _ 22 22 rfl _ _ rfl rfl (hcA _) ?_))
 refine wp_loop_rounds 1 ?_
 simp only[Code.rounds]
 go_wp2
 go_ret
 exact⟨rfl,rfl⟩
theorem AJz:∃i:TypeInfo,Tryz.prog.info? 3=some i∧i.size=1∧i.bytes=8∧i.zero=some (.int .i64 0):=by
 have h:(Tryz.prog.info? 3).isSome=true:=by kernel_rfl
 obtain⟨i,hi⟩:=Option.isSome_iff_exists.1 h
 have h1:(Tryz.prog.info? 3).map (·.size)=some 1:=by kernel_rfl
 have h2:(Tryz.prog.info? 3).map (·.bytes)=some 8:=by kernel_rfl
 have h3:(Tryz.prog.info? 3).bind (·.zero)=some (.int .i64 0):=by kernel_rfl
 rw[hi]at h1 h2 h3
 simp only[Option.map_some,Option.some.injEq,Option.bind_some]at h1 h2 h3
 exact⟨i,hi,h1,h2,h3⟩
set_option maxHeartbeats 4000000 in
theorem AIE (w:World):Calls Tryz.prog 386 #[.slice none 0 0,.int .i64 0] w fun e w'=>e= .returned (.slice none 0 0)∧w' =w:=by
 have mixed:Tryz.prog.follows .mixedOrders=true:=by kernel_rfl
 go_enter Tryz.func386,Tryz.ntmps386
 go_wp2
 go_ret
 exact⟨rfl,rfl⟩
set_option maxHeartbeats 4000000 in
theorem AIy (n:Nat) (w:World) (h0:0<n) (hn:n≤16777216):Calls Tryz.prog 386 #[.slice none 0 0,.int .i64 n] w fun e w'=>e= .returned (.slice (some ⟨w.heap.size,0,none⟩) 0 (grownCap w n 0 3))∧
 w' =w.drew.alloc (.cells (([]:List Value).toArray++Builtin.zeroCells #[.int .i64 0] n++Builtin.zeroCells #[.int .i64 0] (grownCap w n 0 3-n)) 3):=by
 have mixed:Tryz.prog.follows .mixedOrders=true:=by kernel_rfl
 obtain⟨i0,hi0,hs0,hb0,hz0⟩:=AJz
 have h1:¬((n:Int)<0):=by omega
 have h3:wrap64 ((n:Int)-((0:Int)-(0:Int)))=(n:Int):=by unfold wrap64;omega
 have h3':wrap64 ((n:Int)-(0:Int))=(n:Int):=by unfold wrap64;omega
 have h4:(n:Int)>0:=by omega
 have hold:(Builtin.firstCells i0.size 0 (.slice none 0 0)).run Tryz.prog w.drew= .ok ([]:List Value).toArray w.drew:=run_firstCells_none w.drew i0.size 0 0 0
 have hrz:∀ty,(Builtin.append_ #[22,3] ty #[.slice none 0 0,.int .i64 (n:Int)]).run Tryz.prog w=
  .ok (.slice (some ⟨w.heap.size,0,none⟩) n (grownCap w n 0 3)) (w.drew.alloc (.cells (([]:List Value).toArray++Builtin.zeroCells #[.int .i64 0] n++Builtin.zeroCells #[.int .i64 0] (grownCap w n 0 3-n)) 3)):=fun ty=>by
  have h:=Lib.run_append_grow_zeros w 22 3 ty 3 i0 _ .i64 .i64 Tryz.underlying22 Tryz.underlying3 hi0 hz0 none 0 0 [] hold n (by omega) (by omega) (by omega) (by omega) (by rw[hb0];omega) (by rw[hb0];exact growslice_fits (by omega) (by omega))
  simp only[Nat.zero_add]at h
  exact h
 have hGn:n≤grownCap w n 0 3:=grownCap_ge w _ _ _
 obtain⟨G,hG⟩:∃G,G=grownCap w n 0 3:=⟨_,rfl⟩
 rw[←hG]at hrz hGn⊢
 have hG63:G≤9223372036854775807:=by
  have:=grownCap_le_maxLen w n 0 3 (by unfold maxLen;omega)
  rw[←hG]at this
  unfold maxLen at this
  omega
 clear hold hG
 go_enter Tryz.func386,Tryz.ntmps386
 go_wp2_with (at_builtin;refine Lib.wpList_append_run _ rfl _ _ _ _ rfl _ _ rfl rfl _ _ (hrz _) ?_)
 all_goals (go_ret;exact⟨rfl,rfl⟩)
end Go.Eng.Ins
namespace Go.Eng.T
theorem AIB {cs:List V} (h:Dat (.int .u8) cs):∃n:Int,cs=[V.sc (.int .u8 n)]∧(0≤n∧n≤255):=by
 simp only[Dat]at h
 obtain⟨n,h1,h2⟩:=h
 simp only[Lit.wf,IntKind.min,IntKind.max,IntKind.bits,IntKind.signed,Bool.and_eq_true,decide_eq_true_eq]at h1
 exact⟨n,h2,by simpa using h1.1,by simpa using h1.2⟩
theorem AJt {avs:List V} (h:Aj7 avs):∃bs:List Int,(bs.length≤maxLen∧∀b,b∈bs→0≤b∧b≤255)∧avs=[.sl 3 1 bs.length (u8s bs)]:=by
 obtain⟨c,hd,rfl⟩:=h
 obtain⟨ds,h1,h2,h3⟩:=AG8 (f:=fun n=> [V.sc (.int .u8 n)]) (p:=fun n:Int=>0≤n∧n≤255) (fun cs h=>AIB h) hd
 refine⟨ds,⟨h2,h3⟩,?_⟩
 have e:ds.flatMap (fun n=> [V.sc (.int .u8 n)])=u8s ds:=by
  clear h1 h2 h3
  induction ds with
  | nil=>rfl
  | cons a ds ih=>rw[List.flatMap_cons,ih];rfl
 rw[e]at h1
 have h4:c= .sl 0 (Ty.int IntKind.u8).cells ds.length (u8s ds):=by simpa using h1
 rw[h4]
 rfl
theorem KA {R R':Rel} (h:∀a gi r o,R a gi r o→R' a gi r o) {args:List V} {c:Cur} {α:Type} {P:α→Prop} {res:α→V} (hd:Aaa R args c P res):Aaa R' args c P res:=by
 obtain⟨a,c',h1,h2,h3⟩:=hd
 exact⟨a,c',h1,h2,h _ _ _ _ h3⟩
theorem Asf {R R':Rel} (h:∀a gi r o,R a gi r o→R' a gi r o) {bs:List Int} {α:Type} {P:α→Prop} {res:α→V} (hd:Ayr R bs P res):Ayr R' bs P res:=by
 obtain⟨a,h1,h3⟩:=hd
 exact⟨a,h1,h _ _ _ _ h3⟩
theorem AHR {R R':Rel} (h:∀a gi r o,R a gi r o→R' a gi r o) {args:List V} (hd:∃c:Cur,IA c∧R args [] (.rptr 0 (Dr c) 0) []):∃c:Cur,IA c∧R' args [] (.rptr 0 (Dr c) 0) []:=by
 obtain⟨c,h1,h3⟩:=hd
 exact⟨c,h1,h _ _ _ _ h3⟩
end Go.Eng.T
