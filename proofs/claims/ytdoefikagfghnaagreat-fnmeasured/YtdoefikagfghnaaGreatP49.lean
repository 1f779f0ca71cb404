/- Own work: part 49 of the proof of FnMeasured. -/
import Derived.Test.YtdoefikagfghnaaGreatEngAR
import Derived.Below
import Derived.Sort.Grow
import Derived.Deep.Draws
import Derived.Lib.LaidTab
import Derived.Sort.Row
import Derived.Laws.IdiomCopy
import Derived.Lib.Slices
import Derived.Shelf.Small.Bits
import Derived.Shelf.Strconv.Itoa0
import Derived.Shelf.Sort.Plain
import Derived.Shelf.Bits.Mul64
import Derived.Shelf.Slices.Turned
import Derived.Shelf.Slices.Reverse
import Derived.Ground.Names2Prog
import Derived.Shelf.Slices.Clone
import Derived.Shelf.Slices.CompactI
import Derived.Shelf.Slices.SearchI
import Derived.Shelf.Slices.Cells
import Derived.Shelf.Slices.In.SortNone
import Derived.Ground.SlgnProg
import Derived.Shelf.SlicesE.Clone
import Derived.Test.YtdoefikagfghnaaGreatProg
set_option linter.unusedSimpArgs false
set_option linter.unusedVariables false
namespace Go.Eng.T
set_option maxRecDepth 20000
set_option maxHeartbeats 1000000
structure Cur where
 bs:List Int
 i:Nat
 h:Int
def u8s (bs:List Int):List V:=bs.map fun b=> .sc (.int .u8 b)
abbrev CR (c:Cur):List V:=[.sl 3 1 c.bs.length (u8s c.bs),.sc (.int .i64 c.i),.sc (.int .i64 c.h)]
def Fg (c:Cur):Prop:=c.bs.length≤1048576∧(∀b,b∈c.bs→0≤b∧b≤255)∧c.i≤c.bs.length
def Rs (R:Rel) (args:List V) (c:Cur) {α:Type} (P:α→Prop) (res:α→V):Prop:=∃a c',P a∧Fg c'∧R (.ptr 0 0::args) [.var (CR c)] (res a) [.var (CR c')]
theorem Hu {D:Dn} {f:Bh} {args:List V} {c:Cur} {α:Type} {P:α→Prop} {res:α→V} (h:∀Q:V→List O→Prop,(∀a c',P a→Fg c'→Q (res a) [.var (CR c')])→AiC D f (.ptr 0 0::args) [.var (CR c)] Q):
 Rs (Body D f) args c P res:=by
 obtain⟨v,o,⟨a,c',h1,h2,rfl,rfl⟩,h3⟩:=Aev (P:=fun v o=>∃a c',P a∧Fg c'∧v=res a∧o=[.var (CR c')]) (fun Q hQ=>h Q (fun a c' h1 h2=>hQ _ _ ⟨a,c',h1,h2,rfl,rfl⟩))
 exact⟨a,c',h1,h2,h3⟩
@[simp high] theorem Apg {bs:List Int} {j:Nat} (h:j<bs.length):(u8s bs)[j]? =some (.sc (.int .u8 bs[j])):=by simp[u8s,h]
@[simp high] theorem Ao3 (bs:List Int):(u8s bs).length=bs.length:=by simp[u8s]
@[simp] theorem Api (bs:List Int) (fl:Nat):(u8s bs).map (AZ fl)=u8s bs:=by simp[u8s,AZ]
abbrev Aak (R:Rel):Prop:=∀c:Cur,Fg c→Rs R [] c (fun x:Int=>0≤x∧x≤255) (fun x=>I x)
theorem AlQ (n:Nat):∃x:Nat,x≤255∧IntKind.i64.wrap ((n&&&255 % 2 ^ IntKind.i64.bits:Nat):Int)=x:=by
 have e:(255 % 2 ^ IntKind.i64.bits:Nat)=255:=by decide
 rw[e]
 have h:n&&&255≤255:=Nat.and_le_right
 exact⟨n&&&255,h,Ad (by omega) (by omega)⟩
theorem Al4 (D:Dn):Aak (Body D KM):=by
 intro c hc
 refine Hu (fun Q hQ=> ?_)
 have h1:=hc.1
 by_cases h:c.i<c.bs.length
 ·have hw:IntKind.i64.wrap ((c.i:Int)+1)=(c.i+1:Nat):=by rw[Ad (by omega) (by omega)];simp
  simp -implicitDefEqProofs [h,AF5,EG]
  generalize IntKind.i64.wrap (IntKind.i64.wrap (c.h*6364136223846793005)+1442695040888963407)=h'
  generalize Int.toNat _=n1
  obtain⟨x,hx,e⟩:=AlQ n1
  rw[e,hw]
  exact hQ x ⟨c.bs,c.i+1,h'⟩ ⟨by omega,by omega⟩ ⟨hc.1,hc.2.1,h⟩
 ·simp -implicitDefEqProofs [h,AF5,EG]
  generalize IntKind.i64.wrap (IntKind.i64.wrap (c.h*6364136223846793005)+1442695040888963407)=h'
  generalize Int.toNat _=n1
  obtain⟨x,hx,e⟩:=AlQ n1
  rw[e]
  exact hQ x ⟨c.bs,c.i,h'⟩ ⟨by omega,by omega⟩ ⟨hc.1,hc.2.1,hc.2.2⟩
abbrev EP (R:Rel):Prop:=∀(c:Cur) (n:Int),Fg c→n≤1000000000→Rs R [I n] c (fun x:Int=>0≤x∧(n≤0→x=0)∧(0<n→x<n)) (fun x=>I x)
theorem Ang {x n:Int} (h:0≤x) (hn:0<n):0≤x.tmod n∧x.tmod n<n:=⟨Int.tmod_nonneg n h,Int.tmod_lt_of_pos x hn⟩
theorem Ajy (D:Dn) (hB:Aak (D AC7)):EP (Body D IZ):=by
 intro c n hc hn
 refine Hu (fun Q hQ=> ?_)
 by_cases h0:n≤0
 ·simp -implicitDefEqProofs [h0,AF5,EG]
  exact hQ 0 c ⟨by omega,fun _=>rfl,fun h=>by omega⟩ hc
 have hne:¬n=0:=by omega
 by_cases h1:n≤256
 ·simp -implicitDefEqProofs [h0,h1]
  obtain⟨x,c1,hx,hc1,px⟩:=hB c hc
  simp -implicitDefEqProofs [CR]at px
  refine Aa (px) ?_
  simp -implicitDefEqProofs [h0,hne,AF5,EG]
  have:=Ang (n:=n) hx.1 (by omega)
  exact hQ _ c1 ⟨this.1,fun h=>absurd h h0,fun _=>this.2⟩ hc1
 ·simp -implicitDefEqProofs [h0,h1]
  obtain⟨x,c1,hx,hc1,px⟩:=hB c hc
  simp -implicitDefEqProofs [CR]at px
  refine Aa (px) ?_
  simp -implicitDefEqProofs [h0]
  obtain⟨y,c2,hy,hc2,py⟩:=hB c1 hc1
  simp -implicitDefEqProofs [CR]at py
  refine Aa (py) ?_
  simp -implicitDefEqProofs [h0]
  obtain⟨z,c3,hz,hc3,pz⟩:=hB c2 hc2
  simp -implicitDefEqProofs [CR]at pz
  refine Aa (pz) ?_
  simp -implicitDefEqProofs [h0,hne,AF5,EG]
  have w1:IntKind.i64.wrap (x*65536)=x*65536:=Ad (by omega) (by omega)
  have w2:IntKind.i64.wrap (y*256)=y*256:=Ad (by omega) (by omega)
  have w3:IntKind.i64.wrap (x*65536+y*256)=x*65536+y*256:=Ad (by omega) (by omega)
  have w4:IntKind.i64.wrap (x*65536+y*256+z)=x*65536+y*256+z:=Ad (by omega) (by omega)
  rw[w1,w2,w3,w4]
  have:=Ang (x:=x*65536+y*256+z) (n:=n) (by omega) (by omega)
  exact hQ _ c3 ⟨this.1,fun h=>absurd h h0,fun _=>this.2⟩ hc3
abbrev Abx (R:Rel):Prop:=∀(c:Cur) (xs:List Int),Fg c→0<xs.length→xs.length≤1000000→Rs R [.sl 1 1 xs.length (ints xs)] c (fun x:Int=>x∈xs) (fun x=>I x)
theorem Am5 (D:Dn) (hB:EP (D ACm)):Abx (Body D Mf):=by
 intro c xs hc h0 hl
 refine Hu (fun Q hQ=> ?_)
 simp -implicitDefEqProofs
 obtain⟨x,c1,hx,hc1,px⟩:=hB c xs.length hc (by omega)
 simp -implicitDefEqProofs [CR]at px
 refine Aa (px) ?_
 obtain⟨n,rfl⟩:∃n:Nat,x=n:=⟨x.toNat,by omega⟩
 have hn:n<xs.length:=by have:=hx.2.2 (by omega);omega
 simp -implicitDefEqProofs [hn,AF5,EG]
 exact hQ _ c1 (List.getElem_mem hn) hc1
abbrev Afj (R:Rel):Prop:=∀bs:List Int,bs.length≤1048576→(∀b,b∈bs→0≤b∧b≤255)→∃c:Cur,Fg c∧R [.sl 3 1 bs.length (u8s bs)] [] (.rptr 0 (CR c) 0) []
theorem Aml (D:Dn):Afj (Body D Jm):=by
 intro bs hl hb
 obtain⟨v,o,⟨c,h1,rfl,rfl⟩,h3⟩:=Aev (P:=fun v o=>∃c:Cur,Fg c∧v= .rptr 0 (CR c) 0∧o=[]) (D:=D) (f:=Jm) (args:=[.sl 3 1 bs.length (u8s bs)]) (given:=[]) (fun Q hQ=>by
  simp -implicitDefEqProofs
  obtain⟨h0,hh0⟩:∃h0,h0=IntKind.i64.wrap (193017+(bs.length:Int)):=⟨_,rfl⟩
  rw[←hh0]
  refine Ae (fun k s=>∃j h,j+k=min bs.length 4000∧s=⟨[.sl 3 1 bs.length (u8s bs),.undef,I h,I j,.undef],[.free]⟩) ?_ (min bs.length 4000) _ ⟨0,h0,by simp,by simp⟩
  intro k s ⟨j,h,hj,hs⟩
  subst hs
  by_cases hjn:j<bs.length
  ·by_cases hj4:j<4000
   ·have hw:IntKind.i64.wrap ((j:Int)+1)=(j+1:Nat):=by rw[Ad (by omega) (by omega)];simp
    have hj4':(j:Int)<4000:=by omega
    simp -implicitDefEqProofs [hjn,hj4,hj4']
    refine⟨k-1,by omega,j+1,by omega,?_⟩
    simp[hw]
   ·have hj4':¬(j:Int)<4000:=by omega
    simp -implicitDefEqProofs [hjn,hj4,hj4']
    exact hQ _ _ ⟨⟨bs,0,h⟩,⟨hl,hb,Nat.zero_le _⟩,rfl,rfl⟩
  ·simp -implicitDefEqProofs [hjn]
   exact hQ _ _ ⟨⟨bs,0,h⟩,⟨hl,hb,Nat.zero_le _⟩,rfl,rfl⟩)
 exact⟨c,h1,h3⟩
end Go.Eng.T
namespace Go.Eng.T
set_option maxRecDepth 20000
set_option maxHeartbeats 1000000
theorem Al7 {l:List Int} (h:Up l) {i j:Nat} (hij:i<j) (hj:j<l.length):l[i]<l[j]:=List.pairwise_iff_getElem.1 h i j (by omega) hj hij
theorem Aap {l:List Int} (h:Up l) (h1:∀x,x∈l→1≤x∧x≤9) (h0:0<l.length):A9 l=true:=by
 unfold A9
 simp only[Bool.and_eq_true,decide_eq_true_eq]
 refine⟨?_,h0⟩
 unfold K9
 rw[List.all_eq_true]
 intro i hi
 have hi:=List.mem_range.1 hi
 rw[Xm hi]
 have:=h1 _ (List.getElem_mem hi)
 simp only[Bool.and_eq_true,Bool.or_eq_true,decide_eq_true_eq]
 refine⟨⟨by omega,by omega⟩,?_⟩
 by_cases hz:i=0
 ·exact .inl hz
 ·right
  rw[Xm (by omega:i-1<l.length)]
  exact Al7 h (by omega) hi
theorem AjS {l:List Int} (h:Up l) (h1:∀x,x∈l→1≤x∧x≤100):Nv l l.length=true:=by
 unfold Nv
 rw[List.all_eq_true]
 intro i hi
 have hi:=List.mem_range.1 hi
 rw[getD_at hi]
 have:=h1 _ (List.getElem_mem hi)
 simp only[Bool.and_eq_true,Bool.or_eq_true,decide_eq_true_eq]
 refine⟨⟨by omega,by omega⟩,?_⟩
 by_cases hz:i=0
 ·exact .inl hz
 ·right
  rw[getD_at (by omega:i-1<l.length)]
  exact Al7 h (by omega) hi
theorem Abe {l:List Int} {a b:Int} (h1:∀x,x∈l→a≤x∧x≤b):allIn l a b=true:=by
 unfold allIn
 rw[List.all_eq_true]
 intro x hx
 have:=h1 x hx
 simpa using this
theorem AiO {l:List Int} (h:Up l) (h1:∀x,x∈l→0≤x∧x≤255):HZ l=true:=by
 unfold HZ
 simp only[Bool.and_eq_true]
 refine⟨?_,Abe h1⟩
 rw[Ayu]
 intro i hi
 by_cases hz:i=0
 ·subst hz;exact Ad6 l
 ·rw[YF hz hi (by omega)]
  simpa using Al7 h (by omega) hi
def VP (l:List Int) (b:Int) (m:Nat):Prop:=Up l∧(∀x,x∈l→1≤x∧x≤b)∧l.length≤m
theorem Aa6 {l:List Int} {b:Int} {m:Nat} {v:Int} (h:VP l b m) (hv:1≤v∧v≤b):VP (TV l v) b (m+1):=by
 refine⟨ADc v h.1,?_,Nat.le_trans (ABj l v) (by have:=h.2.2;omega)⟩
 intro x hx
 rcases(ABL l v x).1 hx with hx | rfl
 ·exact h.2.1 x hx
 ·exact hv
theorem QC {l:List Int} {b:Int} {m m':Nat} (h:VP l b m) (hm:m≤m'):VP l b m':=⟨h.1,h.2.1,by have:=h.2.2;omega⟩
theorem Ae9 (b:Int):VP [] b 0:=⟨List.Pairwise.nil,by simp,by simp⟩
theorem AkY {b v:Int} (hv:1≤v∧v≤b):VP [v] b 1:=⟨by simp,by simpa using hv,by simp⟩
theorem put_pos (l:List Int) (v:Int):0<(TV l v).length:=List.length_pos_of_mem ((ABL l v v).2 (.inr rfl))
abbrev Vr (R:Rel):Prop:=∀c:Cur,Fg c→Rs R [] c (fun l:List Int=>VP l 6 4∧0<l.length) (fun l=> .sl 0 1 l.length (ints l))
theorem AkN (D:Dn) (hB:EP (D ACm)) (hP:Apd (D ArV)):Vr (Body D IE):=by
 intro c hc
 refine Hu (fun Q hQ=> ?_)
 simp -implicitDefEqProofs
 obtain⟨x,c1,hx,hc1,px⟩:=hB c 4 hc (by omega)
 simp -implicitDefEqProofs [CR,ints]at px
 refine Aa (px) ?_
 have hx4:=hx.2.2 (by omega)
 have w1:IntKind.i64.wrap (1+x)=1+x:=Ad (by omega) (by omega)
 simp -implicitDefEqProofs [w1]
 obtain⟨y,c2,hy,hc2,py⟩:=hB c1 4 hc1 (by omega)
 simp -implicitDefEqProofs [CR,ints]at py
 refine Aa (py) ?_
 have hy4:=hy.2.2 (by omega)
 obtain⟨n,rfl⟩:∃n:Nat,y=n:=⟨y.toNat,by omega⟩
 simp -implicitDefEqProofs
 obtain⟨LI,hLI⟩:∃LI:Nat→St→Prop,LI=fun k s=>∃j cc l o2,j+k=n∧Fg cc∧VP l 6 (1+j)∧0<l.length∧s=⟨[.ptr 0 0,.undef,.arr 3,I k,.undef],[.var (CR cc),.free,o2,.arr 1 0 l.length (ints l)]⟩:=⟨_,rfl⟩
 refine Ae LI ?_ (n) _ (by rw[hLI];exact⟨0,c2,[1+x],.free,by simp,hc2,AkY (by omega),by simp,by simp[ints]⟩)
 intro k s hs
 rw[hLI]at hs
 obtain⟨j,cc,l,o2,hj,hcc,hl,hl0,hs⟩:=hs
 subst hs
 by_cases hk:0<k
 ·have hwk:IntKind.i64.wrap ((k:Int)-1)=(k-1:Nat):=by rw[Ad (by omega) (by omega)];omega
  simp -implicitDefEqProofs [hk]
  obtain⟨z,c3,hz,hc3,pz⟩:=hB cc 6 hcc (by omega)
  simp -implicitDefEqProofs [CR,ints]at pz
  refine Aa (pz) ?_
  have hz4:=hz.2.2 (by omega)
  have w2:IntKind.i64.wrap (1+z)=1+z:=Ad (by omega) (by omega)
  simp -implicitDefEqProofs [w2]
  refine Aa (hP l (1+z) (by have:=hl.2.2;omega)) ?_
  simp -implicitDefEqProofs [hwk]
  refine⟨k-1,by omega,?_⟩
  rw[hLI]
  exact⟨j+1,c3,TV l (1+z),.free,by omega,hc3,Aa6 hl (by omega),put_pos _ _,rfl⟩
 ·have hk0:k=0:=by omega
  subst hk0
  simp -implicitDefEqProofs [AF5,EG]
  exact hQ l cc ⟨QC hl (by omega),hl0⟩ hcc
abbrev Ql (R:Rel):Prop:=∀c:Cur,Fg c→Rs R [] c (fun l:List Int=>VP l 200 4) (fun l=> .sl 0 1 l.length (ints l))
theorem Apk {x:Int} (h:x∈[1,2,3,10,40,(200:Int)]):1≤x∧x≤200:=by simp at h;omega
theorem Ajk (D:Dn) (hB:EP (D ACm)) (hI:Abx (D AEG)) (hP:Apd (D ArV)):Ql (Body D Iw):=by
 intro c hc
 refine Hu (fun Q hQ=> ?_)
 simp -implicitDefEqProofs
 obtain⟨y,c2,hy,hc2,py⟩:=hB c 5 hc (by omega)
 simp -implicitDefEqProofs [CR,ints]at py
 refine Aa (py) ?_
 have hy4:=hy.2.2 (by omega)
 obtain⟨n,rfl⟩:∃n:Nat,y=n:=⟨y.toNat,by omega⟩
 simp -implicitDefEqProofs
 obtain⟨LI,hLI⟩:∃LI:Nat→St→Prop,LI=fun k s=>∃j cc l o2,j+k=n∧Fg cc∧VP l 200 j∧s=⟨[.ptr 0 0,.undef,.arr 4,I k,.undef],[.var (CR cc),.free,o2,.free,.arr 1 0 l.length (ints l)]⟩:=⟨_,rfl⟩
 refine Ae LI ?_ (n) _ (by rw[hLI];exact⟨0,c2,[],.free,by simp,hc2,Ae9 _,by simp[ints]⟩)
 intro k s hs
 rw[hLI]at hs
 obtain⟨j,cc,l,o2,hj,hcc,hl,hs⟩:=hs
 subst hs
 by_cases hk:0<k
 ·have hwk:IntKind.i64.wrap ((k:Int)-1)=(k-1:Nat):=by rw[Ad (by omega) (by omega)];omega
  simp -implicitDefEqProofs [hk]
  obtain⟨z,c3,hz,hc3,pz⟩:=hI cc [1,2,3,10,40,200] hcc (by simp) (by simp)
  simp -implicitDefEqProofs [CR,ints]at pz
  refine Aa (pz) ?_
  simp -implicitDefEqProofs
  refine Aa (hP l z (by have:=hl.2.2;omega)) ?_
  simp -implicitDefEqProofs [hwk]
  refine⟨k-1,by omega,?_⟩
  rw[hLI]
  exact⟨j+1,c3,TV l z,_,by omega,hc3,Aa6 hl (Apk hz),rfl⟩
 ·have hk0:k=0:=by omega
  subst hk0
  simp -implicitDefEqProofs [AF5,EG]
  exact hQ l cc (QC hl (by omega)) hcc
end Go.Eng.T
namespace Go.Eng.T
set_option maxRecDepth 20000
set_option maxHeartbeats 1000000
def Aba (b:Gu):Prop:=Hz b=true∧b.drops.length≤4∧b.strips.length≤4
theorem Wp {b:Gu} (h0:0≤b.limit∧b.limit≤9) (h1:VP b.drops 200 4) (h2:VP b.strips 200 4):Aba b:=by
 refine⟨?_,h1.2.2,h2.2.2⟩
 unfold Hz
 rw[Abe (fun x hx=>by have:=h1.2.1 x hx;omega),Abe (fun x hx=>by have:=h2.2.1 x hx;omega)]
 have:=h1.2.2
 have:=h2.2.2
 simp only[Bool.and_eq_true,decide_eq_true_eq]
 exact⟨⟨⟨⟨⟨by omega,by omega⟩,by omega⟩,by omega⟩,trivial⟩,trivial⟩
abbrev Qj (R:Rel):Prop:=∀c:Cur,Fg c→Rs R [] c Aba (fun b=> .agg (CF b))
theorem Akb (D:Dn) (hB:EP (D ACm)) (hT:Ql (D ACy)):Qj (Body D Ik):=by
 intro c hc
 refine Hu (fun Q hQ=> ?_)
 have hn:=QC (Ae9 200) (show 0≤4 by omega)
 simp -implicitDefEqProofs
 obtain⟨x,c1,hx,hc1,px⟩:=hB c 7 hc (by omega)
 simp -implicitDefEqProofs [CR,ints]at px
 refine Aa (px) ?_
 by_cases g0:x=0
 ·simp -implicitDefEqProofs [g0]
  obtain⟨y,c2,hy,hc2,py⟩:=hB c1 6 hc1 (by omega)
  simp -implicitDefEqProofs [CR,ints]at py
  refine Aa (py) ?_
  have hy6:=hy.2.2 (by omega)
  have w1:IntKind.i64.wrap (1+y)=1+y:=Ad (by omega) (by omega)
  simp -implicitDefEqProofs [w1,AF5,EG]
  exact hQ ⟨1+y,[],[],false⟩ c2 (Wp (by dsimp only;omega) hn hn) hc2
 by_cases g1:x=1
 ·simp -implicitDefEqProofs [g1]
  obtain⟨t,c2,ht,hc2,pt⟩:=hT c1 hc1
  simp -implicitDefEqProofs [CR,ints]at pt
  refine Aa (pt) ?_
  simp -implicitDefEqProofs [AF5,EG]
  exact hQ ⟨0,t,[],false⟩ c2 (Wp (by dsimp only;omega) ht hn) hc2
 by_cases g2:x=2
 ·simp -implicitDefEqProofs [g2]
  obtain⟨t,c2,ht,hc2,pt⟩:=hT c1 hc1
  simp -implicitDefEqProofs [CR,ints]at pt
  refine Aa (pt) ?_
  simp -implicitDefEqProofs [AF5,EG]
  exact hQ ⟨0,[],t,false⟩ c2 (Wp (by dsimp only;omega) hn ht) hc2
 by_cases g3:x=3
 ·simp -implicitDefEqProofs [g3,AF5,EG]
  exact hQ ⟨0,[],[],true⟩ c1 (Wp (by dsimp only;omega) hn hn) hc1
 simp -implicitDefEqProofs [g0,g1,g2,g3,AF5,EG]
 exact hQ ⟨0,[],[],false⟩ c1 (Wp (by dsimp only;omega) hn hn) hc1
def AoQ (b:Gu):Prop:=b.drops.length≤7∧b.strips.length≤7
def Aa9 (l:List Gu) (m:Nat):Prop:=l.length≤m∧∀b,b∈l→Aba b
abbrev Um (R:Rel):Prop:=∀c:Cur,Fg c→Rs R [] c (fun l:List Gu=>Aa9 l 3) (fun l=> .sl 0 4 l.length (l.flatMap CF))
theorem AlC {l:List Gu} {m:Nat} {b:Gu} (h:Aa9 l m) (hb:Aba b):Aa9 (l++ [b]) (m+1):=by
 refine⟨by have:=h.1;simp;omega,?_⟩
 intro x hx
 rcases List.mem_append.1 hx with hx | hx
 ·exact h.2 x hx
 ·simp at hx;subst hx;exact hb
theorem Akd (D:Dn) (hB:EP (D ACm)) (hT:Qj (D ACk)):Um (Body D Ij):=by
 intro c hc
 refine Hu (fun Q hQ=> ?_)
 simp -implicitDefEqProofs
 obtain⟨y,c2,hy,hc2,py⟩:=hB c 4 hc (by omega)
 simp -implicitDefEqProofs [CR,ints]at py
 refine Aa (py) ?_
 have hy4:=hy.2.2 (by omega)
 obtain⟨n,rfl⟩:∃n:Nat,y=n:=⟨y.toNat,by omega⟩
 simp -implicitDefEqProofs
 obtain⟨LI,hLI⟩:∃LI:Nat→St→Prop,LI=fun k s=>∃j cc l o2 o3 o4,j+k=n∧Fg cc∧Aa9 l j∧s=⟨[.ptr 0 0,.undef,.arr 6,I k,.undef],[.var (CR cc),.free,o2,o3,o4,.free,.arr 4 0 l.length (l.flatMap CF)]⟩:=⟨_,rfl⟩
 refine Ae LI ?_ (n) _ (by rw[hLI];exact⟨0,c2,[],.free,.free,.free,by simp,hc2,⟨by simp,by simp⟩,by simp⟩)
 intro k s hs
 rw[hLI]at hs
 obtain⟨j,cc,l,o2,o3,o4,hj,hcc,hl,hs⟩:=hs
 subst hs
 by_cases hk:0<k
 ·have hwk:IntKind.i64.wrap ((k:Int)-1)=(k-1:Nat):=by rw[Ad (by omega) (by omega)];omega
  have hll:=hl.1
  have hb1:(l.length+1)*64≤1099511627776:=by omega
  simp -implicitDefEqProofs [hk]
  obtain⟨b,c3,hb,hc3,pb⟩:=hT cc hcc
  simp -implicitDefEqProofs [CR,ints]at pb
  refine Aa (pb) ?_
  simp -implicitDefEqProofs [hb1,hwk]
  refine⟨k-1,by omega,?_⟩
  rw[hLI]
  exact⟨j+1,c3,l++ [b],.dead,.dead,.dead,by omega,hc3,AlC hl hb,by simp[CF,ints]⟩
 ·have hk0:k=0:=by omega
  subst hk0
  simp -implicitDefEqProofs [AF5,EG]
  exact hQ l cc ⟨by have:=hl.1;omega,hl.2⟩ hcc
def Ao1 (s:List Int):Prop:=VP s 100 3∧0<s.length∧s.getD (s.length-1) 0=100
def Ak8 (r:EH):Prop:=Ao1 r.stages∧(1≤r.version∧r.version≤6)
abbrev U6 (R:Rel):Prop:=∀c:Cur,Fg c→Rs R [] c Ak8 (fun r=> .agg (Gx r))
theorem AoR {l:List Int} (h:VP l 90 2):Ao1 (l++ [100]):=by
 obtain⟨h1,h2,h3⟩:=h
 refine⟨⟨?_,?_,by simp;omega⟩,by simp,by simp⟩
 ·refine List.pairwise_append.2 ⟨h1,by simp,?_⟩
  intro x hx y hy
  simp at hy
  have:=h2 x hx
  omega
 ·intro x hx
  rcases List.mem_append.1 hx with hx | hx
  ·have:=h2 x hx;omega
  ·simp at hx;omega
theorem Aju (D:Dn) (hB:EP (D ACm)) (hP:Apd (D ArV)):U6 (Body D Ip):=by
 intro c hc
 refine Hu (fun Q hQ=> ?_)
 simp -implicitDefEqProofs
 obtain⟨x,c1,hx,hc1,px⟩:=hB c 6 hc (by omega)
 simp -implicitDefEqProofs [CR,ints]at px
 refine Aa (px) ?_
 have hx6:=hx.2.2 (by omega)
 have w1:IntKind.i64.wrap (1+x)=1+x:=Ad (by omega) (by omega)
 simp -implicitDefEqProofs [w1]
 obtain⟨y,c2,hy,hc2,py⟩:=hB c1 3 hc1 (by omega)
 simp -implicitDefEqProofs [CR,ints]at py
 refine Aa (py) ?_
 have hy3:=hy.2.2 (by omega)
 obtain⟨n,rfl⟩:∃n:Nat,y=n:=⟨y.toNat,by omega⟩
 simp -implicitDefEqProofs
 obtain⟨LI,hLI⟩:∃LI:Nat→St→Prop,LI=fun k s=>∃j cc l o3,j+k=n∧Fg cc∧VP l 90 j∧s=⟨[.ptr 0 0,.ptr 1 0,.ptr 2 0,I k,.undef],[.var (CR cc),.var [I 0,.nil 1,I 0,B false],.var [I (1+x),.arr 6,I 0,B false],o3,.free,.free,.arr 1 0 l.length (ints l)]⟩:=⟨_,rfl⟩
 refine Ae LI ?_ (n) _ (by rw[hLI];exact⟨0,c2,[],.free,by simp,hc2,Ae9 _,by simp[ints]⟩)
 intro k s hs
 rw[hLI]at hs
 obtain⟨j,cc,l,o3,hj,hcc,hl,hs⟩:=hs
 subst hs
 by_cases hk:0<k
 ·have hwk:IntKind.i64.wrap ((k:Int)-1)=(k-1:Nat):=by rw[Ad (by omega) (by omega)];omega
  simp -implicitDefEqProofs [hk]
  obtain⟨z,c3,hz,hc3,pz⟩:=hB cc 90 hcc (by omega)
  simp -implicitDefEqProofs [CR,ints]at pz
  refine Aa (pz) ?_
  have hz4:=hz.2.2 (by omega)
  have w2:IntKind.i64.wrap (1+z)=1+z:=Ad (by omega) (by omega)
  simp -implicitDefEqProofs [w2]
  refine Aa (hP l (1+z) (by have:=hl.2.2;omega)) ?_
  simp -implicitDefEqProofs [hwk]
  refine⟨k-1,by omega,?_⟩
  rw[hLI]
  exact⟨j+1,c3,TV l (1+z),_,by omega,hc3,Aa6 hl (by omega),rfl⟩
 ·have hk0:k=0:=by omega
  subst hk0
  have hll:=hl.2.2
  have hb1:(l.length+1)*8≤1099511627776:=by omega
  simp -implicitDefEqProofs [hb1]
  have hst:=AoR (QC hl (by omega))
  obtain⟨z,c3,hz,hc3,pz⟩:=hB cc (l.length+1) hcc (by omega)
  simp -implicitDefEqProofs [CR,ints]at pz
  refine Aa (pz) ?_
  simp -implicitDefEqProofs [AF5,EG]
  have:=hQ ⟨1+x,l++ [100],z,false⟩ c3 ⟨hst,by dsimp only;omega⟩ hc3
  simpa[ints,Gx]using this
end Go.Eng.T
namespace Go.Eng.T
set_option maxRecDepth 20000
set_option maxHeartbeats 1000000
def Ajd (l:List Int) (m:Nat):Prop:=Up l∧(∀x,x∈l→x∈[1,2,3,40,(200:Int)])∧l.length≤m
theorem Amw {l:List Int} {m:Nat} {v:Int} (h:Ajd l m) (hv:v∈[1,2,3,40,(200:Int)]):Ajd (TV l v) (m+1):=by
 refine⟨ADc v h.1,?_,Nat.le_trans (ABj l v) (by have:=h.2.2;omega)⟩
 intro x hx
 rcases(ABL l v x).1 hx with hx | rfl
 ·exact h.2.1 x hx
 ·exact hv
structure AiX (e:AL):Prop where
 vers:VP e.versions 6 4
 pos:0<e.versions.length
 tags:Ajd e.tags 3
 path:Aa9 e.path 3
 cls:0≤e.cls∧e.cls≤5
theorem AoO {x:Int} (h:x∈[1,2,3,40,(200:Int)]):(0≤x∧x≤255)∧Am x=false:=by
 simp at h
 rcases h with rfl | rfl | rfl | rfl | rfl<;>exact⟨by omega,by decide⟩
theorem Anl {e:AL} (h:AiX e):Az e=true:=by
 unfold Az
 rw[Aap h.vers.1 (fun x hx=>by have:=h.vers.2.1 x hx;omega) h.pos,AiO h.tags.1 (fun x hx=>(AoO (h.tags.2.1 x hx)).1)]
 have h1:e.tags.any Am=false:=by
  rw[List.any_eq_false]
  intro x hx
  rw[(AoO (h.tags.2.1 x hx)).2]
  simp
 have h2:e.path.all Hz=true:=List.all_eq_true.2 fun b hb=>(h.path.2 b hb).1
 rw[h1,h2]
 have:=h.tags.2.2
 have:=h.path.1
 have:=h.cls
 simp only[Bool.true_and,Bool.and_true,Bool.not_false,Bool.and_eq_true,decide_eq_true_eq]
 exact⟨by omega,by omega,by omega,by omega⟩
abbrev Ue (R:Rel):Prop:=∀c:Cur,Fg c→Rs R [] c AiX (fun e=> .agg (Ak e))
theorem Aj3 (D:Dn) (hB:EP (D ACm)) (hI:Abx (D AEG)) (hV:Vr (D ACw)) (hP:Um (D ACu)) (hU:Apd (D ArV)):Ue (Body D II):=by
 intro c hc
 refine Hu (fun Q hQ=> ?_)
 simp -implicitDefEqProofs
 obtain⟨vs,c1,hvs,hc1,pvs⟩:=hV c hc
 simp -implicitDefEqProofs [CR,ints]at pvs
 refine Aa (pvs) ?_
 simp -implicitDefEqProofs
 obtain⟨pa,c2,hpa,hc2,ppa⟩:=hP c1 hc1
 simp -implicitDefEqProofs [CR,ints]at ppa
 refine Aa (ppa) ?_
 simp -implicitDefEqProofs
 obtain⟨cl,c3,hcl,hc3,pcl⟩:=hB c2 6 hc2 (by omega)
 simp -implicitDefEqProofs [CR,ints]at pcl
 refine Aa (pcl) ?_
 have hcl6:=hcl.2.2 (by omega)
 simp -implicitDefEqProofs
 obtain⟨y,c4,hy,hc4,py⟩:=hB c3 4 hc3 (by omega)
 simp -implicitDefEqProofs [CR,ints]at py
 refine Aa (py) ?_
 have hy4:=hy.2.2 (by omega)
 obtain⟨n,rfl⟩:∃n:Nat,y=n:=⟨y.toNat,by omega⟩
 simp -implicitDefEqProofs
 obtain⟨LI,hLI⟩:∃LI:Nat→St→Prop,LI=fun k s=>∃j cc l o5,j+k=n∧Fg cc∧Ajd l j∧s=⟨[.ptr 0 0,.ptr 1 0,.ptr 4 0,I k,.undef],[.var (CR cc),.var [.nil 1,.nil 1,.nil 4,I 0],.arr 1 0 vs.length (ints vs),.arr 4 0 pa.length (pa.flatMap CF),.var [.arr 2,.arr 7,.arr 3,I cl],o5,.free,.arr 1 0 l.length (ints l)]⟩:=⟨_,rfl⟩
 refine Ae LI ?_ (n) _ (by rw[hLI];exact⟨0,c4,[],.free,by simp,hc4,⟨List.Pairwise.nil,by simp,by simp⟩,by simp[ints]⟩)
 intro k s hs
 rw[hLI]at hs
 obtain⟨j,cc,l,o5,hj,hcc,hl,hs⟩:=hs
 subst hs
 by_cases hk:0<k
 ·have hwk:IntKind.i64.wrap ((k:Int)-1)=(k-1:Nat):=by rw[Ad (by omega) (by omega)];omega
  simp -implicitDefEqProofs [hk]
  obtain⟨z,c5,hz,hc5,pz⟩:=hI cc [1,2,3,40,200] hcc (by simp) (by simp)
  simp -implicitDefEqProofs [CR,ints]at pz
  refine Aa (pz) ?_
  simp -implicitDefEqProofs
  refine Aa (hU l z (by have:=hl.2.2;omega)) ?_
  simp -implicitDefEqProofs [hwk]
  refine⟨k-1,by omega,?_⟩
  rw[hLI]
  exact⟨j+1,c5,TV l z,_,by omega,hc5,Amw hl hz,rfl⟩
 ·have hk0:k=0:=by omega
  subst hk0
  simp -implicitDefEqProofs [AF5,EG]
  exact hQ ⟨vs,l,pa,cl⟩ cc ⟨hvs.1,hvs.2,⟨hl.1,hl.2.1,by have:=hl.2.2;dsimp only;omega⟩,hpa,by dsimp only;omega⟩ hcc
structure Apt (e:AL):Prop where
 vers:e.versions.length≤5
 tags:e.tags.length≤6
 path:e.path.length≤5
 box:∀b,b∈e.path→AoQ b
end Go.Eng.T
namespace Go.Eng.T
set_option maxRecDepth 20000
set_option maxHeartbeats 1000000
end Go.Eng.T
namespace Go.Eng.T
set_option maxRecDepth 20000
set_option maxHeartbeats 2000000
theorem max_mem:∀ {l:List Int} {a x:Int},x∈l→x≤l.foldl (fun a v=>if v>a then v else a) a
 | y::l,a,x,h=>by
  have ge:∀(l:List Int) (a:Int),a≤l.foldl (fun a v=>if v>a then v else a) a:=by
   intro l
   induction l with
   | nil=>intro a;exact Int.le_refl a
   | cons z l ih=>
    intro a
    simp only[List.foldl_cons]
    refine Int.le_trans ?_ (ih _)
    split<;>omega
  simp only[List.foldl_cons]
  rcases List.mem_cons.1 h with rfl | h
  ·refine Int.le_trans ?_ (ge l _)
   split<;>omega
  ·exact max_mem h
theorem Ako {s l:List Int} (hs:A9 s=true) (hl:A9 l=true) (h1:1∈s) (h2:1∈l):reach s l=true:=by
 unfold reach BJ
 rw[if_pos ⟨hs,hl⟩]
 have hm:(1:Int)∈common s l:=List.mem_filter.2 ⟨h1,by simpa using h2⟩
 have:=max_mem (a:=0) hm
 have:¬Y0 (common s l)=0:=by unfold Y0;omega
 simp[this]
def PI (y:Int):List Int:=TV [1] (2+y)
theorem QI {y:Int} (h:0≤y∧y<2):VP (PI y) 6 2∧1∈PI y∧0<(PI y).length:=
 ⟨Aa6 (AkY (by omega)) (by omega),(ABL _ _ _).2 (.inl (by simp)),put_pos _ _⟩
theorem Ajf {l:List Int} {m:Nat} (h:VP l 6 m) (h0:0<l.length):A9 l=true:=Aap h.1 (fun x hx=>by have:=h.2.1 x hx;omega) h0
def Amt (e:AL):Prop:=AiX e∧1∈e.versions∧∃y:Int,(0≤y∧y<2)∧e.versions=PI y
theorem AmK {e:AL} (h:AiX e):Ac e≤40:=by
 have h1:=h.vers.2.2
 have h2:=h.tags.2.2
 have h3:∀(l:List Gu),(∀b,b∈l→Aba b)→Bw Ct l≤9*l.length:=by
  intro l
  induction l with
  | nil=>intro _;simp[Bw]
  | cons b l ih=>
   intro hb
   have:=ih (fun x hx=>hb x (by simp[hx]))
   have hb0:=hb b (by simp)
   have e1:=hb0.2.1
   have e2:=hb0.2.2
   simp only[Bw,Ct,List.length_cons,List.map_cons,List.sum_cons]at *
   omega
 have:=h3 e.path h.path.2
 have:=h.path.1
 unfold Ac
 omega
theorem Ami {l:List AL} {m:Nat} (h:∀e,e∈l→Ac e≤m):Bw Ac l≤l.length*(m+1):=by
 induction l with
 | nil=>simp[Bw]
 | cons e l ih=>
  have:=ih (fun x hx=>h x (by simp[hx]))
  have:=h e (by simp)
  simp only[Bw,List.length_cons,List.map_cons,List.sum_cons,Nat.add_mul,Nat.mul_add,Nat.mul_one]at *
  omega
theorem Ak6 {l:List AL} {P:AL→Prop} {e:AL} (h:∀x,x∈l→P x) (he:P e):∀x,x∈l++ [e]→P x:=by
 intro x hx
 rcases List.mem_append.1 hx with hx | hx
 ·exact h x hx
 ·simp at hx;subst hx;exact he
abbrev zW:List V:=[.nil 1,.nil 1,I 0,.nil 4,I 0,.nil 1,I 0,B false,I 0,I 0,.nil 5,.nil 8,I 0,I 0,I 0]
structure AeF (w:World):Prop where
 ok:Ca w=true
 sz:Ay w≤400
 ends:0<w.ends.length
 eok:∀e,e∈w.ends→Amt e
 nolog:w.log=[]
 nostage:w.stage=[]
 few:w.ends.length≤5
 start:w.now=0∧w.hurt=0
 key:w.key=77∧w.reached=0
 ver:w.rollout.version=4∨w.rollout.version=5
theorem AgZ {y z:Int} {r:EH} {t:List Int} {es:List AL} (hy:0≤y∧y<2) (hz:0≤z∧z<2) (hr:Ak8 r) (ht:VP t 200 4) (he:∀e,e∈es→Amt e) (hl:0<es.length∧es.length≤5)
 {s:List Int} (hs:s=TV (TV [1] (2+y)) (4+z)) {v:Int} (hv:v∈s) (hv4:v=4∨v=5):AeF (Cj s t es ⟨v,r.stages,0,r.off⟩):=by
 have hs1:VP s 6 3:=by rw[hs];exact Aa6 (QI hy).1 (by omega)
 have hs2:1∈s:=by rw[hs];exact(ABL _ _ _).2 (.inl (QI hy).2.1)
 have hs3:0<s.length:=List.length_pos_of_mem hs2
 have hsv:=Ajf hs1 hs3
 obtain⟨⟨⟨q1,q2,q3⟩,q4,q5⟩,q6⟩:=hr
 have e1:Ii (Cj s t es ⟨v,r.stages,0,r.off⟩).server (GY (Cj s t es ⟨v,r.stages,0,r.off⟩))=true:=by
  show Ii s _=true
  unfold Ii
  rw[hsv,Bool.true_and,List.all_eq_true]
  intro l hl
  obtain⟨e,he',rfl⟩:=List.mem_map.1 hl
  have h1:=he e he'
  exact Ako hsv (Ajf h1.1.vers h1.1.pos) hs2 h1.2.1
 refine⟨?_,?_,hl.1,he,rfl,rfl,hl.2,⟨rfl,rfl⟩,⟨rfl,rfl⟩,hv4⟩
 ·have e2:HZ t=true:=AiO ht.1 (fun x hx=>by have:=ht.2.1 x hx;omega)
  have e3:es.all Az=true:=List.all_eq_true.2 fun e h=>Anl (he e h).1
  have e4:Bp ⟨v,r.stages,0,r.off⟩=true:=by
   unfold Bp
   dsimp only
   have hvb:=hs1.2.1 v hv
   rw[AjS q1 q2,q5]
   simp only[Bool.true_and,Bool.and_eq_true,decide_eq_true_eq]
   exact⟨⟨⟨⟨by omega,by omega⟩,by omega,by omega⟩,by trivial⟩,by omega,by omega⟩
  unfold Ca KD JO GH
  rw[e1]
  simp only[Cj,e2,e3,e4,Bool.true_and,Bool.and_true]
  simp -implicitDefEqProofs only[Bool.and_eq_true]
  exact⟨rfl,decide_eq_true (by omega),⟨decide_eq_true hv,decide_eq_true ⟨by omega,by omega⟩,decide_eq_true ⟨by omega,by omega⟩⟩,rfl,rfl,decide_eq_true ⟨by omega,by omega⟩,decide_eq_true ⟨by simp,by simp⟩,decide_eq_true ⟨by omega,by omega⟩⟩
 ·rw[Ale]
  have h1:=hs1.2.2
  have h2:=ht.2.2
  have h3:=Ami (l:=es) (m:=40) (fun e h=>AmK (he e h).1)
  have h4:es.length*41≤5*41:=Nat.mul_le_mul_right _ hl.2
  simp only[Bg]
  omega
theorem AlT {y z:Int} (hy:0≤y∧y<2) (hz:0≤z∧z<2) {s:List Int} (hs:s=TV (TV [1] (2+y)) (4+z)) (h:s.length-1<s.length):s[s.length-1]=4∨s[s.length-1]=5:=by
 have h1:y=0∨y=1:=by omega
 have h2:z=0∨z=1:=by omega
 subst hs
 rcases h1 with rfl | rfl<;>rcases h2 with rfl | rfl<;>revert h<;>decide
abbrev QH (R:Rel):Prop:=∀c:Cur,Fg c→Rs R [] c AeF (fun w=> .agg (EF w))
theorem AhY (D:Dn) (hB:EP (D ACm)) (hP:Apd (D ArV)) (hR:U6 (D ACq)) (hE:Ue (D ACB)) (hT:Ql (D ACy)) (hN:QZ (D AAW)):QH (Body D GN):=by
 intro c hc
 refine Hu (fun Q hQ=> ?_)
 simp -implicitDefEqProofs
 obtain⟨y,c1,hy,hc1,py⟩:=hB c 2 hc (by omega)
 simp -implicitDefEqProofs [CR,ints]at py
 refine Aa (py) ?_
 have hy2:=hy.2.2 (by omega)
 have w1:IntKind.i64.wrap (2+y)=2+y:=Ad (by omega) (by omega)
 simp -implicitDefEqProofs [w1]
 have pp:=hP [1] (2+y) (by simp)
 simp -implicitDefEqProofs [ints]at pp
 refine Aa (pp) ?_
 simp -implicitDefEqProofs
 obtain⟨z,c2,hz,hc2,pz⟩:=hB c1 2 hc1 (by omega)
 simp -implicitDefEqProofs [CR,ints]at pz
 refine Aa (pz) ?_
 have hz2:=hz.2.2 (by omega)
 have w2:IntKind.i64.wrap (4+z)=4+z:=Ad (by omega) (by omega)
 have hl2:=(QI (y:=y) ⟨by omega,by omega⟩).1.2.2
 unfold PI at hl2
 simp -implicitDefEqProofs [w2]
 have pp2:=hP (TV [1] (2+y)) (4+z) (by omega)
 simp -implicitDefEqProofs [ints]at pp2
 refine Aa (pp2) ?_
 obtain⟨sv,hs⟩:∃sv,sv=TV (TV [1] (2+y)) (4+z):=⟨_,rfl⟩
 have hsp:0<sv.length:=by rw[hs];exact put_pos _ _
 have hsl:sv.length≤3:=by rw[hs];exact Nat.le_trans (ABj _ _) (by omega)
 rw[←hs]
 simp -implicitDefEqProofs
 obtain⟨r,c3,hr,hc3,pr⟩:=hR c2 hc2
 simp -implicitDefEqProofs [CR,ints]at pr
 refine Aa (pr) ?_
 have hws:IntKind.i64.wrap ((sv.length:Int)-1)=(sv.length-1:Nat):=by rw[Ad (by omega) (by omega)];omega
 have hs1:sv.length-1<sv.length:=by omega
 simp -implicitDefEqProofs [hws,hs1]
 obtain⟨x,c4,hx,hc4,px⟩:=hB c3 4 hc3 (by omega)
 simp -implicitDefEqProofs [CR,ints]at px
 refine Aa (px) ?_
 have hx4:=hx.2.2 (by omega)
 have w3:IntKind.i64.wrap (2+x)=2+x:=Ad (by omega) (by omega)
 obtain⟨n,hn⟩:∃n:Nat,2+x=n:=⟨(2+x).toNat,by omega⟩
 simp -implicitDefEqProofs [w3,hn]
 have hv:sv[sv.length-1]∈sv:=List.getElem_mem hs1
 have hv4:=AlT ⟨by omega,by omega⟩ ⟨by omega,by omega⟩ hs hs1
 have w5:IntKind.i64.wrap (n:Int)=n:=Ad (by omega) (by omega)
 generalize sv[sv.length-1]=v at hv hv4
 obtain⟨LI,hLI⟩:∃LI:Nat→St→Prop,LI=fun k s=>∃j cc es o8 o9 o10 o11 o12 o13 o14,j+k=n∧Fg cc∧(es:List AL).length=j∧(∀e,e∈es→Amt e)∧s=⟨[.ptr 0 0,.ptr 1 0,.arr 4,.ptr 6 0,.arr 24,I k,.undef,.undef,.undef],[.var (CR cc),.var zW,.arr 1 0 1 [I 1],.arr 1 0 (TV [1] (2+y)).length (ints (TV [1] (2+y))),.arr 1 0 sv.length (ints sv),.arr 1 0 r.stages.length (ints r.stages),.var [I v,.arr 5,I 0,B r.off],.free,o8,o9,o10,o11,o12,o13,o14,.free,.free,.free,.free,.free,.free,.free,.free,.free,.arr 4 0 es.length (es.flatMap Ak)]⟩:=⟨_,rfl⟩
 refine Ae LI ?_ (n) _ (by rw[hLI];exact⟨0,c4,[],.free,.free,.free,.free,.free,.free,.free,by simp,hc4,rfl,by simp,by simp[ints,w5]⟩)
 intro k s hs
 rw[hLI]at hs
 obtain⟨j,cc,es,o8,o9,o10,o11,o12,o13,o14,hj,hcc,hel,hes,hs⟩:=hs
 subst hs
 by_cases hk:0<k
 ·have hwk:IntKind.i64.wrap ((k:Int)-1)=(k-1:Nat):=by rw[Ad (by omega) (by omega)];omega
  have hb1:(es.length+1)*80≤1099511627776:=by omega
  simp -implicitDefEqProofs [hk]
  obtain⟨e,c5,he,hc5,pe⟩:=hE cc hcc
  simp -implicitDefEqProofs [CR,ints]at pe
  refine Aa (pe) ?_
  simp -implicitDefEqProofs
  obtain⟨u,c6,hu,hc6,pu⟩:=hB c5 2 hc5 (by omega)
  simp -implicitDefEqProofs [CR,ints]at pu
  refine Aa (pu) ?_
  have hu2:=hu.2.2 (by omega)
  have w4:IntKind.i64.wrap (2+u)=2+u:=Ad (by omega) (by omega)
  simp -implicitDefEqProofs [w4]
  have pp3:=hP [1] (2+u) (by simp)
  simp -implicitDefEqProofs [ints]at pp3
  refine Aa (pp3) ?_
  simp -implicitDefEqProofs [hb1,hwk]
  have ho:=QI (y:=u) ⟨by omega,by omega⟩
  have he1:Amt ⟨PI u,e.tags,e.path,e.cls⟩:=⟨⟨QC ho.1 (by omega),ho.2.2,he.tags,he.path,he.cls⟩,ho.2.1,u,⟨by omega,by omega⟩,rfl⟩
  refine⟨k-1,by omega,?_⟩
  rw[hLI]
  exact⟨j+1,c6,es++ [⟨PI u,e.tags,e.path,e.cls⟩],_,_,_,_,_,_,_,by omega,hc6,by simp[hel],Ak6 hes he1,by simp[Ak,ints,PI];exact⟨rfl,rfl,rfl,rfl,rfl,rfl,rfl⟩⟩
 ·have hk0:k=0:=by omega
  subst hk0
  simp -implicitDefEqProofs
  obtain⟨t,c7,ht,hc7,pt⟩:=hT cc hcc
  simp -implicitDefEqProofs [CR,ints]at pt
  refine Aa (pt) ?_
  have hw:=AgZ (y:=y) (z:=z) (r:=r) (t:=t) (es:=es) ⟨by omega,by omega⟩ ⟨by omega,by omega⟩ hr ht hes ⟨by omega,by omega⟩ hs hv hv4
  have hnw:=hN sv t es ⟨v,r.stages,0,r.off⟩ (by have:=hw.sz;omega)
  have hne:Ji sv t es ⟨v,r.stages,0,r.off⟩=(Cj sv t es ⟨v,r.stages,0,r.off⟩,true):=by unfold Ji;rw[if_pos hw.ok]
  rw[hne]at hnw
  simp -implicitDefEqProofs
  simp -implicitDefEqProofs [CR,ints,Cj]at hnw
  refine Aa (hnw) ?_
  simp -implicitDefEqProofs [AF5,EG]
  exact hQ _ c7 hw hc7
end Go.Eng.T
namespace Go.Eng.T
set_option maxRecDepth 20000
set_option maxHeartbeats 4000000
def Cb (w:World) (r:EH):World:={w with rollout:=r}
def BU (w:World):World×Bool:=
 if w.reached=0 then(w,false)
 else if Ld w=1 then(if(Bu w.rollout).2=true then(enter (Cb w (Bu w.rollout).1),true)else(w,false))
 else if Ld w=2 then(if(BN w.rollout).2=true then(leave (Cb w (BN w.rollout).1),true)else(w,false))
 else(w,false)
abbrev Ox (R:Rel):Prop:=∀w:World,Ay w≤4194304→R [arg (EF w)] [] (.tup [.agg (EF (BU w).1),B (BU w).2]) []
theorem AiB (r:EH):Bg (Bu r).1=Bg r:=by unfold Bu;split<;>rfl
theorem Anb (r:EH):Bg (BN r).1=Bg r:=by unfold BN;split<;>rfl
theorem Aby (r:EH):(BN r).1.version=r.version:=by unfold BN;split<;>rfl
theorem Agv {w:World} {r:EH} (h:Bg r=Bg w.rollout):Ay (Cb w r)=Ay w:=by simp only[Ay,Cb,h]
theorem Ah4 {w:World} {r:EH} (h:r.version=w.rollout.version):leave (Cb w r)=Cb (leave w) r:=by
 have e:D6 (Cb w r)=D6 w:=by
  funext x
  unfold D6 Cb
  rw[h]
 unfold leave
 rw[e]
 rfl
theorem Aeg (D:Dn) (hC:Ef (D ACA)) (hN:OB (D AzL)) (hX:Oh (D Azs)) (hE:Je (D Ax6)) (hB:Og (D Azh)) (hL:IQ (D Aun)):Ox (Body D Jy):=by
 intro w hsz
 have hr:=Xn hsz
 simp -implicitDefEqProofs
 refine Aa (hC w hsz) ?_
 by_cases h0:w.reached=0
 ·have e:BU w=(w,false):=by unfold BU;rw[if_pos h0]
  simp -implicitDefEqProofs [h0,e]
 simp -implicitDefEqProofs [h0]
 refine Aa (hN w hsz) ?_
 by_cases g1:Ld w=1
 ·simp -implicitDefEqProofs [g1]
  refine Aa (hX w.rollout hr) ?_
  have hs:=AiB w.rollout
  by_cases hk:(Bu w.rollout).2=true
  ·have e:BU w=(enter (Cb w (Bu w.rollout).1),true):=by unfold BU;rw[if_neg h0,if_pos g1,if_pos hk]
   rw[e]
   generalize(Bu w.rollout).1=r at hs
   simp -implicitDefEqProofs [hk]
   refine Aa (hE (Cb w r) (by rw[Agv hs];exact hsz)) ?_
   simp -implicitDefEqProofs
  ·have e:BU w=(w,false):=by unfold BU;rw[if_neg h0,if_pos g1,if_neg hk]
   rw[e]
   generalize(Bu w.rollout).1=r
   simp -implicitDefEqProofs [hk]
 simp -implicitDefEqProofs [g1]
 by_cases g2:Ld w=2
 ·simp -implicitDefEqProofs [g2]
  refine Aa (hB w.rollout hr) ?_
  have hv:=Aby w.rollout
  by_cases hk:(BN w.rollout).2=true
  ·have e:BU w=(Cb (leave w) (BN w.rollout).1,true):=by unfold BU;rw[if_neg h0,if_neg g1,if_pos g2,if_pos hk,Ah4 hv]
   rw[e]
   generalize(BN w.rollout).1=r
   simp -implicitDefEqProofs [hk]
   refine Aa (hL w hsz) ?_
   simp -implicitDefEqProofs [Cb]
  ·have e:BU w=(w,false):=by unfold BU;rw[if_neg h0,if_neg g1,if_pos g2,if_neg hk]
   rw[e]
   generalize(BN w.rollout).1=r
   simp -implicitDefEqProofs [hk]
 have e:BU w=(w,false):=by unfold BU;rw[if_neg h0,if_neg g1,if_neg g2]
 rw[e]
 simp -implicitDefEqProofs [g2]
end Go.Eng.T
namespace Go.Eng.T
set_option maxRecDepth 20000
set_option maxHeartbeats 2000000
theorem Aii (p:Int→Bool) (l:List Ext):(kept p l).length≤l.length:=List.length_filter_le _ _
theorem AuB (b:Gu) (h:Hello):(BS b h).1.exts.length≤h.exts.length:=by
 unfold BS
 split
 ·exact Aii _ _
 ·simp[AQ]
theorem AnR:∀(path:List Gu) (h:Hello),(Iu path h).1.exts.length≤h.exts.length
 | [],h=>by simp[Iu]
 | b::r,h=>by
  have h1:=AuB b h
  have h2:=AnR r (BS b h).1
  unfold Iu
  split
  ·omega
  ·simp[AQ]
theorem ArC (path:List Gu) (h:Hello):(A7 path h).1.exts.length≤h.exts.length:=by
 unfold A7
 split
 ·exact AnR _ _
 ·simp[AQ]
theorem AEd (h:Hello) (a b:List Int):(Fh h a b).1.exts.length≤h.exts.length:=by
 unfold Fh
 split
 ·exact Aii (fun t=> !decide (t∈b)) h.exts
 ·simp[AQ]
theorem ADa (h:Hello) (path:List Gu):(Cr h path).1.exts.length≤h.exts.length:=by
 unfold Cr fallback
 have:=AEd h (Bj path h.versions) (Ff path (leftOf h.versions (Bj path h.versions)) h.exts)
 repeat' split
 all_goals simp[AQ]<;>omega
theorem AwR (h seen:Hello) (vs tags:List Int) (key:Int):(AdJ h seen vs tags key).tags.length≤seen.exts.length:=by
 unfold AdJ
 split
 ·have:(Bf vs tags seen).1.exts.length≤seen.exts.length:=by
   unfold Bf
   split
   ·exact Nat.le_trans (Aii (fun t=> !Am t) (KT seen.exts tags)) (Aii (fun t=>decide (t∈tags)) seen.exts)
   ·simp
  simpa[Aq]using this
 ·simp[FZ]
theorem AD2 (h:Hello) (path:List Gu) (vs tags:List Int) (key:Int):Al (Atd h path vs tags key)≤2*h.exts.length+h.versions.length:=by
 unfold Atd
 split
 ·have h1:=ADa h path
  have h2:=ArC path (Cr h path).1
  have h3:(UZ (Cr h path).1 path vs tags key).tags.length≤h.exts.length:=by
   unfold UZ
   split
   ·have:=AwR (Cr h path).1 (A7 path (Cr h path).1).1 vs tags key;omega
   ·simp[FZ]
  have h4:(QX h (Cr h path).1).length≤h.exts.length+h.versions.length:=by
   unfold QX leftOf
   have a1:=List.length_filter_le (fun v=> !decide (v∈(Cr h path).1.versions)) h.versions
   have a2:=List.length_filter_le (AfT (Aq (Cr h path).1.exts)) (Aq h.exts)
   have a3:(Aq h.exts).length=h.exts.length:=Nb _
   simp only[List.length_append,List.length_map]
   omega
  simp only[Al,E9]
  omega
 ·simp[Al,E9,FZ]
theorem AyM (l:List Ext) (seed:Int) (h:l.length≤5):(Dt l seed).length≤6:=by
 unfold Dt
 split
 ·simp;omega
 ·omega
theorem AvA (e:AL) (vs tags:List Int) (key seed:Int):Al (KX e vs tags key seed)≤21:=by
 unfold KX
 split
 ·rename_i h1
  have h5:=Vx h1
  have e1:He e seed=⟨e.versions,Dt (bare e.tags) seed⟩:=by unfold He;rw[if_pos h1]
  have h2:=AD2 (He e seed) e.path vs tags key
  have h3:=AyM (bare e.tags) seed (by rw[M0];exact h5)
  have h4:e.versions.length≤9:=by
   unfold Az at h1
   simp only[Bool.and_eq_true,decide_eq_true_eq]at h1
   exact Arj h1.1
  rw[e1]at h2⊢
  dsimp only at h2⊢
  omega
 ·simp[Al,E9,Mw,FZ]
theorem Aym (w:World) (i:Int):Al (MQ w i)≤21:=by
 unfold MQ
 repeat' split
 all_goals first | exact AvA _ _ _ _ _ | simp[Al,E9,Mw,FZ]
def Awc (w:World) (i:Int) (d:Cw) (on:Bool):World:=
 {w with log:=w.log++ [⟨i,w.now,on,d⟩],stage:=(if on=true then w.stage++ [d]else w.stage),hurt:=(if(on&&Pe w.rollout.version d)=true then IntKind.i64.wrap (w.hurt+1)else w.hurt)}
def AwO (w:World) (i:Int):Bool:=decide (SH i 0 ((w.ends.length:Int)-1))&&(decide (w.log.length<60)&&decide (w.stage.length<60))
def U8 (w:World) (i:Int):World×Bool:=if AwO w i=true then(Awc w i (MQ w i) (ADC w i),true)else(w,false)
abbrev QJ (R:Rel):Prop:=∀(w:World) (i:Int),Ay w≤4194304→R [arg (EF w),I i] [] (.tup [.agg (EF (U8 w i).1),B (U8 w i).2]) []
theorem Agq (D:Dn) (hC:Ef (D ACA)) (hI:SG (D CB)) (hDo:Te (D Ap3)) (hOn:TF (D ACQ)) (hCd:Nr (D AzC)) (hB:FU (D Ag5)):QJ (Body D LB):=by
 intro w i hsz
 have he:=JQ hsz
 have hw:IntKind.i64.wrap ((w.ends.length:Int)-1)=(w.ends.length:Int)-1:=Ad (by omega) (by omega)
 simp -implicitDefEqProofs
 refine Aa (hC w hsz) ?_
 simp -implicitDefEqProofs [hw]
 refine Aa (hI _ _ _) ?_
 by_cases h1:SH i 0 ((w.ends.length:Int)-1)
 rotate_left
 ·simp -implicitDefEqProofs [h1,U8,AwO]
 by_cases h2:w.log.length<60
 rotate_left
 ·have h2':(60:Int)≤w.log.length:=by omega
  simp -implicitDefEqProofs [h1,h2,h2',U8,AwO]
 have h2':¬(60:Int)≤w.log.length:=by omega
 by_cases h3:w.stage.length<60
 rotate_left
 ·have h3':(60:Int)≤w.stage.length:=by omega
  simp -implicitDefEqProofs [h1,h2,h2',h3,h3',U8,AwO]
 have h3':¬(60:Int)≤w.stage.length:=by omega
 have e:U8 w i=(Awc w i (MQ w i) (ADC w i),true):=by unfold U8 AwO;rw[if_pos (by simp[h1,h2,h3])]
 rw[e]
 have hds:=Aym w i
 simp -implicitDefEqProofs [h1,h2',h3']
 refine Aa (hDo w i hsz) ?_
 generalize MQ w i=d at hds
 simp -implicitDefEqProofs
 refine Aa (hOn w i hsz) ?_
 generalize ADC w i=on
 have b1:(w.log.length+1)*96≤1099511627776:=by omega
 have b2:(w.stage.length+1)*72≤1099511627776:=by omega
 have b3:d.up.length≤maxLen:=by unfold Al at hds;unfold maxLen;omega
 by_cases g:on=true
 rotate_left
 ·simp -implicitDefEqProofs [g,b1,Awc,Ar]
 simp -implicitDefEqProofs [g,b1]
 trace_state
 refine Aa (hCd d (by omega)) ?_
 simp -implicitDefEqProofs [g,b1,b2]
 refine Aa (hB d _ b3) ?_
 by_cases g2:Pe w.rollout.version d=true
 ·simp -implicitDefEqProofs [g,g2,b1,b2,Awc,Ar,AP]
 ·simp -implicitDefEqProofs [g,g2,b1,b2,Awc,Ar,AP]
theorem AqA (w:World) (i:Int):Ay (U8 w i).1+(60-(U8 w i).1.log.length)*50≤Ay w+(60-w.log.length)*50∧(U8 w i).1.ends=w.ends∧(U8 w i).1.rollout=w.rollout:=by
 unfold U8
 split
 ·rename_i h
  unfold AwO at h
  simp only[Bool.and_eq_true,decide_eq_true_eq]at h
  have hd:=Aym w i
  refine⟨?_,rfl,rfl⟩
  unfold Awc
  simp only[Ay,Bw,List.length_append,List.length_cons,List.length_nil,List.map_append,List.map_cons,List.map_nil,List.sum_append,List.sum_cons,List.sum_nil,Av]
  split
  ·simp only[List.length_append,List.length_cons,List.length_nil,List.map_append,List.map_cons,List.map_nil,List.sum_append,List.sum_cons,List.sum_nil];omega
  ·omega
 ·exact⟨Nat.le_refl _,rfl,rfl⟩
def Awq (w:World):Nat→World
 | 0=>w
 | n+1=>(U8 (Awq w n) n).1
theorem AxU (w:World):∀n,Ay (Awq w n)+(60-(Awq w n).log.length)*50≤Ay w+(60-w.log.length)*50
 | 0=>Nat.le_refl _
 | n+1=>Nat.le_trans (AqA (Awq w n) n).1 (AxU w n)
end Go.Eng.T
namespace Go.Eng.T
theorem Ah8 (s:List Int) (ls:List (List Int)) (v pm:Int):(F6 s ls v pm).1.length≤s.length:=by
 unfold F6
 split
 ·exact List.length_filter_le _ _
 ·exact Nat.le_refl _
theorem Adr (w:World) (v pm:Int):Ay (BF w v pm).1≤Ay w:=by
 unfold BF
 have:=Ah8 w.server (GY w) v pm
 split
 ·simp only[Ay];omega
 ·exact Nat.le_refl _
end Go.Eng.T
namespace Go.Eng.T
set_option maxRecDepth 20000
set_option maxHeartbeats 4000000
def AB (w:World) (e:Event):World×Bool:=
 if e.kind=1 then U8 w e.n else if e.kind=2 then CO w else if e.kind=3 then BU w else if e.kind=4 then BF w e.n 200 else if e.kind=5 then Ec w e.n
 else if e.kind=6 then Ey w e.n e.box else if e.kind=7 then Dp w e.n else if e.kind=8 then Eg w e.n else(w,false)
abbrev LV (R:Rel):Prop:=∀(w:World) (e:Event),Ay w≤4194304→Aic e≤4194304→R [arg (EF w),arg (CY e)] [] (.tup [.agg (EF (AB w e).1),B (AB w e).2]) []
theorem Adw (D:Dn) (hC:Ef (D ACA)) (h1:QJ (D ABu)) (h2:OP (D Azq)) (h3:Ox (D Azm)) (h4:LZ (D AxP)) (h5:Mg (D Axs))
 (h6:Uk (D ACC)) (h7:NA (D Azj)) (h8:Qv (D AAA)):LV (Body D H6):=by
 intro w e hsz hse
 simp -implicitDefEqProofs
 by_cases g1:e.kind=1
 ·have ha:AB w e=U8 w e.n:=by unfold AB;simp[g1]
  rw[ha]
  simp -implicitDefEqProofs [g1]
  refine Aa (h1 w e.n hsz) ?_
  generalize U8 w e.n=r
  simp -implicitDefEqProofs
 by_cases g2:e.kind=2
 ·have ha:AB w e=CO w:=by unfold AB;simp[g2]
  rw[ha]
  simp -implicitDefEqProofs [g2]
  refine Aa (h2 w hsz) ?_
  generalize CO w=r
  simp -implicitDefEqProofs
 by_cases g3:e.kind=3
 ·have ha:AB w e=BU w:=by unfold AB;simp[g3]
  rw[ha]
  simp -implicitDefEqProofs [g3]
  refine Aa (h3 w hsz) ?_
  generalize BU w=r
  simp -implicitDefEqProofs
 by_cases g4:e.kind=4
 ·have ha:AB w e=BF w e.n 200:=by unfold AB;simp[g4]
  rw[ha]
  simp -implicitDefEqProofs [g4]
  refine Aa (h4 w e.n 200 hsz) ?_
  generalize BF w e.n 200=r
  simp -implicitDefEqProofs
 by_cases g5:e.kind=5
 ·have ha:AB w e=Ec w e.n:=by unfold AB;simp[g5]
  rw[ha]
  simp -implicitDefEqProofs [g5]
  refine Aa (h5 w e.n hsz) ?_
  generalize Ec w e.n=r
  simp -implicitDefEqProofs
 by_cases g6:e.kind=6
 ·have ha:AB w e=Ey w e.n e.box:=by unfold AB;simp[g6]
  rw[ha]
  simp -implicitDefEqProofs [g6]
  refine Aa (h6 w e.n e.box hsz hse) ?_
  generalize Ey w e.n e.box=r
  simp -implicitDefEqProofs
 by_cases g7:e.kind=7
 ·have ha:AB w e=Dp w e.n:=by unfold AB;simp[g7]
  rw[ha]
  simp -implicitDefEqProofs [g7]
  refine Aa (h7 w e.n hsz) ?_
  generalize Dp w e.n=r
  simp -implicitDefEqProofs
 by_cases g8:e.kind=8
 ·have ha:AB w e=Eg w e.n:=by unfold AB;simp[g8]
  rw[ha]
  simp -implicitDefEqProofs [g8]
  refine Aa (h8 w e.n hsz) ?_
  generalize Eg w e.n=r
  simp -implicitDefEqProofs
 have ha:AB w e=(w,false):=by unfold AB;simp[g1,g2,g3,g4,g5,g6,g7,g8]
 rw[ha]
 simp -implicitDefEqProofs [g1,g2,g3,g4,g5,g6,g7,g8]
 refine Aa (hC w hsz) ?_
 simp -implicitDefEqProofs
theorem Af3:∀(l:List Int) (v:Int),Ib (Auv l (Ib l v) v) v=Ib l v∧(Auv l (Ib l v) v)[Ib l v]? =some v
 | [],v=>by simp[Ib,Auv]
 | x::r,v=>by
  have:=Af3 r v
  by_cases h:x<v
  ·have e:Auv (x::r) (Ib (x::r) v) v=x::Auv r (Ib r v) v:=by simp[Ib,if_pos h,Auv]
   rw[e]
   simp only[Ib,if_pos h]
   exact⟨by rw[this.1],by simpa using this.2⟩
  ·simp[Ib,if_neg h,Auv]
theorem AhN (l:List Int) (v:Int):TV (TV l v) v=TV l v:=by
 by_cases h:l[Ib l v]? =some v
 ·have e:TV l v=l:=by unfold TV;rw[if_pos h]
  rw[e,e]
 ·have e:TV l v=Auv l (Ib l v) v:=by unfold TV;rw[if_neg h]
  have:=Af3 l v
  rw[e]
  unfold TV
  rw[this.1,if_pos this.2]
theorem AlR {l:List Int} {v:Int} (h:TV l v=l):v∈l:=by
 unfold TV at h
 split at h
 ·rename_i g;exact List.mem_of_getElem? g
 ·have:=congrArg List.length h
  rw[ABF (Awp l v)]at this
  omega
def lacks (v:Int) (e:AL):Nat:=if TV e.versions v=e.versions then 0 else 1
def Jq (v:Int) (e:AL):Nat:=Ac e+lacks v e
def Zi (w:World):Nat:=w.server.length+w.tags.length+Bw (Jq w.rollout.version) w.ends+Bg w.rollout+Bw Al w.stage+Bw Av w.log+(60-w.log.length)*50
theorem M5 {α β:Type} {f:α→Nat} {g:β→Nat}:∀ {xs:List α} {ys:List β},xs.length=ys.length→(∀(i:Nat) (h:i<xs.length) (h':i<ys.length),f xs[i]≤g ys[i])→Bw f xs≤Bw g ys
 | [],[],_,_=>Nat.le_refl _
 | x::xs,y::ys,hl,h=>by
  have ih:=M5 (f:=f) (g:=g) (xs:=xs) (ys:=ys) (by simpa using hl) (fun i h1 h2=>h (i+1) (by simpa using h1) (by simpa using h2))
  have h0:=h 0 (by simp) (by simp)
  simp only[Bw,List.length_cons,List.map_cons,List.sum_cons,List.getElem_cons_zero]at *
  omega
 | [],_::_,hl,_=>by simp at hl
 | _::_,[],hl,_=>by simp at hl
theorem Ak2 (w:World):Ay w≤Zi w:=by
 have:Bw Ac w.ends≤Bw (Jq w.rollout.version) w.ends:=M5 rfl (fun i h h'=>by unfold Jq;omega)
 unfold Ay Zi
 omega
theorem AlY (w:World):Zi w≤Ay w+w.ends.length+3000:=by
 have key:∀(v:Int) (l:List AL),Bw (Jq v) l≤Bw Ac l+l.length:=by
  intro v l
  induction l with
  | nil=>simp[Bw]
  | cons e l ih=>
   have:lacks v e≤1:=by unfold lacks;split<;>omega
   simp only[Bw,Jq,List.length_cons,List.map_cons,List.sum_cons]at *
   omega
 have:=key w.rollout.version w.ends
 unfold Ay Zi
 omega
theorem Amz (v:Int) (e:AL):Jq v ⟨TV e.versions v,e.tags,e.path,e.cls⟩≤Jq v e:=by
 have h1:=ABj e.versions v
 unfold Jq lacks Ac
 dsimp only
 rw[if_pos (AhN _ _)]
 split
 ·rename_i h;rw[h];omega
 ·omega
theorem filter_lt {p:Int→Bool} {l:List Int} {x:Int} (h:x∈l) (hp:p x=false):(l.filter p).length<l.length:=by
 induction l with
 | nil=>simp at h
 | cons a r ih=>
  have hr:=List.length_filter_le p r
  rcases List.mem_cons.1 h with rfl | h
  ·rw[List.filter_cons_of_neg (by simp[hp])]
   simp only[List.length_cons];omega
  ·have:=ih h
   rw[List.filter_cons]
   split<;>simp only[List.length_cons]<;>omega
theorem AkR (w:World) (e:AL):Jq w.rollout.version (D6 w e)≤Jq w.rollout.version e:=by
 unfold D6
 split
 ·have h1:(AB3 e.versions w.rollout.version).length≤e.versions.length:=List.length_filter_le _ _
  unfold Jq Ac
  dsimp only
  by_cases hg:TV e.versions w.rollout.version=e.versions
  ·have h2:(AB3 e.versions w.rollout.version).length<e.versions.length:=filter_lt (AlR hg) (by simp)
   have:lacks w.rollout.version ⟨AB3 e.versions w.rollout.version,e.tags,e.path,e.cls⟩≤1:=by unfold lacks;split<;>omega
   omega
  ·have h2:lacks w.rollout.version e=1:=by unfold lacks;rw[if_neg hg]
   have:lacks w.rollout.version ⟨AB3 e.versions w.rollout.version,e.tags,e.path,e.cls⟩≤1:=by unfold lacks;split<;>omega
   omega
 ·exact Nat.le_refl _
theorem Ad2 (w:World):Zi (enter w)≤Zi w:=by
 unfold enter
 split
 ·have h:Bw (Jq w.rollout.version) (w.ends.mapIdx (ACe w))≤Bw (Jq w.rollout.version) w.ends:=M5 (by simp) (fun i h h'=>by
   rw[List.getElem_mapIdx]
   unfold ACe
   split
   ·exact Amz _ _
   ·exact Nat.le_refl _)
  have h0:Bw Al ([]:List Cw)=0:=rfl
  simp only[Zi,h0]
  omega
 ·exact Nat.le_refl _
theorem Ans (w:World):Zi (leave w)≤Zi w:=by
 have h:Bw (Jq w.rollout.version) (w.ends.map (D6 w))≤Bw (Jq w.rollout.version) w.ends:=M5 (by simp) (fun i h h'=>by
  rw[List.getElem_map]
  exact AkR w _)
 have h0:Bw Al ([]:List Cw)=0:=rfl
 unfold leave
 simp only[Zi,h0]
 omega
theorem AgD {w:World} {r:EH} (h:Bg r=Bg w.rollout) (hv:r.version=w.rollout.version):Zi (Cb w r)=Zi w:=by
 unfold Cb
 simp only[Zi,h,hv]
theorem Agt (r:EH):(Bu r).1.version=r.version:=by unfold Bu;split<;>rfl
theorem AiL {w:World} {j:Nat} (hj:j<w.ends.length) (e:AL):Zi {w with ends:=w.ends.set j e} +Jq w.rollout.version w.ends[j]=Zi w+Jq w.rollout.version e:=by
 have:=size_set (f:=Jq w.rollout.version) hj e
 simp only[Zi]
 omega
theorem AkM (w:World) (e:Event):Zi (AB w e).1≤Zi w+1+Aic e:=by
 unfold AB
 split
 ·have h:=AqA w e.n
  obtain⟨h1,h2,h3⟩:=h
  have h4:(U8 w e.n).1.server=w.server∧(U8 w e.n).1.tags=w.tags:=by unfold U8;split<;>exact⟨rfl,rfl⟩
  unfold Ay at h1
  rw[h2,h3,h4.1,h4.2]at h1
  unfold Zi
  rw[h2,h3,h4.1,h4.2]
  have hm:Bw Ac w.ends≤Bw (Jq w.rollout.version) w.ends:=M5 rfl (fun i h h'=>by unfold Jq;omega)
  omega
 split
 ·have:=Ad2 w
  unfold CO
  split<;>dsimp only<;>omega
 split
 ·unfold BU
  split
  ·dsimp only;omega
  split
  ·split
   ·have:=Ad2 (Cb w (Bu w.rollout).1)
    rw[AgD (AiB _) (Agt _)]at this
    dsimp only;omega
   ·dsimp only;omega
  split
  ·split
   ·have:=Ans (Cb w (BN w.rollout).1)
    rw[AgD (Anb _) (Aby _)]at this
    dsimp only;omega
   ·dsimp only;omega
  ·dsimp only;omega
 split
 ·have h:=Adr w e.n 200
  have h2:(BF w e.n 200).1.ends=w.ends∧(BF w e.n 200).1.rollout=w.rollout∧(BF w e.n 200).1.stage=w.stage∧(BF w e.n 200).1.log=w.log∧(BF w e.n 200).1.tags=w.tags:=by
   unfold BF
   repeat' split
   all_goals exact⟨rfl,rfl,rfl,rfl,rfl⟩
  unfold Ay at h
  rw[h2.1,h2.2.1,h2.2.2.1,h2.2.2.2.1,h2.2.2.2.2]at h
  unfold Zi
  rw[h2.1,h2.2.1,h2.2.2.1,h2.2.2.2.1,h2.2.2.2.2]
  omega
 split
 ·have h:=Ac1 w e.n
  unfold Ay at h
  unfold Zi
  unfold Ec at *
  dsimp only at *
  omega
 split
 ·unfold Ey
  split
  ·split
   ·rename_i x hx
    split
    ·obtain⟨hj,rfl⟩:=List.getElem?_eq_some_iff.1 hx
     have:=AiL hj ⟨w.ends[e.n.toNat].versions,w.ends[e.n.toNat].tags,w.ends[e.n.toNat].path++ [e.box],w.ends[e.n.toNat].cls⟩
     have h1:Jq w.rollout.version ⟨w.ends[e.n.toNat].versions,w.ends[e.n.toNat].tags,w.ends[e.n.toNat].path++ [e.box],w.ends[e.n.toNat].cls⟩=Jq w.rollout.version w.ends[e.n.toNat]+1+Ct e.box:=by
      unfold Jq Ac lacks
      simp only[Bw,List.length_append,List.length_cons,List.length_nil,List.map_append,List.map_cons,List.map_nil,List.sum_append,List.sum_cons,List.sum_nil]
      omega
     unfold Aic
     dsimp only
     omega
    ·dsimp only;omega
   ·dsimp only;omega
  ·dsimp only;omega
 split
 ·unfold Dp
  split
  ·split
   ·rename_i x hx
    split
    ·dsimp only;omega
    ·unfold M4
     rw[hx]
     obtain⟨hj,rfl⟩:=List.getElem?_eq_some_iff.1 hx
     have:=AiL hj ⟨w.ends[e.n.toNat].versions,w.ends[e.n.toNat].tags,[],w.ends[e.n.toNat].cls⟩
     have h1:Jq w.rollout.version ⟨w.ends[e.n.toNat].versions,w.ends[e.n.toNat].tags,[],w.ends[e.n.toNat].cls⟩≤Jq w.rollout.version w.ends[e.n.toNat]:=by
      unfold Jq Ac lacks
      simp only[Bw,List.length_nil,List.map_nil,List.sum_nil]
      omega
     dsimp only
     omega
   ·dsimp only;omega
  ·dsimp only;omega
 split
 ·unfold Eg
  split
  ·simp only[Zi];omega
  ·dsimp only;omega
 ·dsimp only;omega
def Au (w:World) (l:List Event):World:=l.foldl (fun x e=>(AB x e).1) w
theorem Ahg {w:World} {l:List Event} {j:Nat} (h:j<l.length):Au w (l.take (j+1))=(AB (Au w (l.take j)) l[j]).1:=by
 have e:l.take (j+1)=l.take j++ [l[j]]:=by simp
 unfold Au
 rw[e,List.foldl_append]
 rfl
theorem AeY (w:World) (l:List Event):∀j,j≤l.length→Zi (Au w (l.take j))≤Zi w+Bw Aic (l.take j)
 | 0,_=>by simp[Au]
 | j+1,h=>by
  have hj:j<l.length:=by omega
  have h1:=AeY w l j (by omega)
  have h2:=AkM (Au w (l.take j)) l[j]
  have e:l.take (j+1)=l.take j++ [l[j]]:=by simp
  rw[Ahg hj,e]
  simp only[Bw,List.length_append,List.length_cons,List.length_nil,List.map_append,List.map_cons,List.map_nil,List.sum_append,List.sum_cons,List.sum_nil]at *
  omega
theorem Aky {α:Type} (f:α→Nat) (l:List α) (j:Nat):Bw f (l.take j)≤Bw f l:=by
 have e:l=l.take j++l.drop j:=(List.take_append_drop j l).symm
 have:Bw f l=Bw f (l.take j)+Bw f (l.drop j):=by
  conv=>lhs;rw[e]
  simp only[Bw,List.length_append,List.map_append,List.sum_append]
  omega
 omega
def Aa5 (w:World) (l:List Event):Prop:=Ay w+w.ends.length+3000+Bw Aic l≤4194304
theorem AnP {w:World} {l:List Event} (h:Aa5 w l) {j:Nat} (hj:j≤l.length):Ay (Au w (l.take j))≤4194304:=by
 have h1:=AeY w l j hj
 have h2:=Ak2 (Au w (l.take j))
 have h3:=AlY w
 have h4:=Aky Aic l j
 unfold Aa5 at h
 omega
abbrev NK (R:Rel):Prop:=∀(w:World) (l:List Event),Aa5 w l→R [arg (EF w),.sl 1 6 l.length (l.flatMap CY)] [] (.agg (EF (Au w l))) []
theorem Afi (D:Dn) (hC:Ef (D ACA)) (hA:LV (D Ayw)):NK (Body D JX):=by
 intro w l hok
 have hsz:Ay w≤4194304:=by unfold Aa5 at hok;omega
 have hle:Bw Aic l≤4194304:=by unfold Aa5 at hok;omega
 have hll:=IK (f:=Aic) (xs:=l)
 simp -implicitDefEqProofs
 refine Aa (hC w hsz) ?_
 simp -implicitDefEqProofs
 refine Ae (fun k s=>∃j,j+k=l.length∧s=⟨[.undef,.sl 1 6 l.length (l.flatMap CY),.undef,.ptr 1 0,.ptr 8 0,I j,.undef],[.var ((EF w).map (AZ 1)),.var [.nil 1,.nil 1,I 0,.nil 4,I 0,.nil 1,I 0,B false,I 0,I 0,.nil 5,.nil 8,I 0,I 0,I 0],.free,.free,.free,.free,.free,.free,.var [.arr 15,.arr 16,I (Au w (l.take j)).key,.arr 17,I (Au w (l.take j)).rollout.version,.arr 18,I (Au w (l.take j)).rollout.pos,B (Au w (l.take j)).rollout.off,I (Au w (l.take j)).least,I (Au w (l.take j)).percent,.arr 19,.arr 20,I (Au w (l.take j)).now,I (Au w (l.take j)).hurt,I (Au w (l.take j)).reached],.free,.free,.free,.free,.free,.free,.arr 1 0 (Au w (l.take j)).server.length (ints (Au w (l.take j)).server),.arr 1 0 (Au w (l.take j)).tags.length (ints (Au w (l.take j)).tags),.arr 4 0 (Au w (l.take j)).ends.length ((Au w (l.take j)).ends.flatMap Ak),.arr 1 0 (Au w (l.take j)).rollout.stages.length (ints (Au w (l.take j)).rollout.stages),.arr 5 0 (Au w (l.take j)).stage.length ((Au w (l.take j)).stage.flatMap AP),.arr 8 0 (Au w (l.take j)).log.length ((Au w (l.take j)).log.flatMap Ar)]⟩) ?_ (l.length) _ ⟨0,by simp,by simp[Au]⟩
 intro k s ⟨j,hj,hs⟩
 subst hs
 by_cases hjn:j<l.length
 ·have hw:IntKind.i64.wrap ((j:Int)+1)=(j+1:Nat):=by rw[Ad (by omega) (by omega)];simp
  have hst:=Ahg (w:=w) hjn
  have hsj:=AnP hok (j:=j) (by omega)
  have hej:=size_at (f:=Aic) hjn
  simp -implicitDefEqProofs [hjn]
  refine Aa (hA (Au w (l.take j)) l[j] hsj (by omega)) ?_
  rw[←hst]
  simp -implicitDefEqProofs
  exact⟨k-1,by omega,j+1,by omega,by simp[hw]⟩
 ·have e:l.take j=l:=List.take_of_length_le (by omega)
  simp -implicitDefEqProofs [hjn,e]
end Go.Eng.T
namespace Go.Eng.T
set_option maxRecDepth 20000
set_option maxHeartbeats 2000000
def Ahl (e:Event):Prop:=1≤e.kind∧e.kind≤8∧0≤e.n∧(e.n≤6∧(e.kind=8→e.n≤3))∧Aba e.box
theorem Amk {e:Event} (h:Ahl e):Aic e≤8:=by
 have h1:=h.2.2.2.2.2.1
 have h2:=h.2.2.2.2.2.2
 unfold Aic Ct
 omega
theorem Ag1:∀(l:List Event),(∀e,e∈l→Ahl e)→Bw Aic l≤9*l.length
 | [],_=>by simp[Bw]
 | a::r,h=>by
  have h1:=Amk (h a (by simp))
  have h2:=Ag1 r (fun e he=>h e (by simp[he]))
  simp only[Bw,List.length_cons,List.map_cons,List.sum_cons]at *
  omega
theorem Lc:Aba ⟨0,[],[],false⟩:=by
 have hn:=QC (Ae9 200) (show 0≤4 by omega)
 exact Wp (by dsimp only;omega) hn hn
abbrev QO (R:Rel):Prop:=∀c:Cur,Fg c→Rs R [] c Ahl (fun e=> .agg (CY e))
theorem Ahk (D:Dn) (hB:EP (D ACm)) (hX:Qj (D ACk)):QO (Body D GQ):=by
 intro c hc
 refine Hu (fun Q hQ=> ?_)
 simp -implicitDefEqProofs
 obtain⟨x,c1,hx,hc1,px⟩:=hB c 12 hc (by omega)
 simp -implicitDefEqProofs [CR,ints]at px
 refine Aa (px) ?_
 by_cases g0:x=0
 ·simp -implicitDefEqProofs [g0,AF5,EG]
  exact hQ ⟨2,0,⟨0,[],[],false⟩⟩ c1 ⟨by dsimp only;omega,by dsimp only;omega,by dsimp only;omega,by dsimp only;omega,Lc⟩ hc1
 by_cases g1:x=1
 ·simp -implicitDefEqProofs [g1,AF5,EG]
  exact hQ ⟨3,0,⟨0,[],[],false⟩⟩ c1 ⟨by dsimp only;omega,by dsimp only;omega,by dsimp only;omega,by dsimp only;omega,Lc⟩ hc1
 by_cases g2:x=2
 ·simp -implicitDefEqProofs [g2,AF5,EG]
  exact hQ ⟨3,0,⟨0,[],[],false⟩⟩ c1 ⟨by dsimp only;omega,by dsimp only;omega,by dsimp only;omega,by dsimp only;omega,Lc⟩ hc1
 by_cases g3:x=3
 ·simp -implicitDefEqProofs [g3]
  obtain⟨y,c2,hy,hc2,py⟩:=hB c1 5 hc1 (by omega)
  simp -implicitDefEqProofs [CR,ints]at py
  refine Aa (py) ?_
  have hyn:=hy.2.2 (by omega)
  have w1:IntKind.i64.wrap (1+y)=1+y:=Ad (by omega) (by omega)
  simp -implicitDefEqProofs [w1,AF5,EG]
  exact hQ ⟨4,1+y,⟨0,[],[],false⟩⟩ c2 ⟨by dsimp only;omega,by dsimp only;omega,by dsimp only;omega,by dsimp only;omega,Lc⟩ hc2
 by_cases g4:x=4
 ·simp -implicitDefEqProofs [g4]
  obtain⟨y,c2,hy,hc2,py⟩:=hB c1 6 hc1 (by omega)
  simp -implicitDefEqProofs [CR,ints]at py
  refine Aa (py) ?_
  have hyn:=hy.2.2 (by omega)
  have w1:IntKind.i64.wrap (1+y)=1+y:=Ad (by omega) (by omega)
  simp -implicitDefEqProofs [w1,AF5,EG]
  exact hQ ⟨5,1+y,⟨0,[],[],false⟩⟩ c2 ⟨by dsimp only;omega,by dsimp only;omega,by dsimp only;omega,by dsimp only;omega,Lc⟩ hc2
 by_cases g5:x=5
 ·simp -implicitDefEqProofs [g5]
  obtain⟨y,c2,hy,hc2,py⟩:=hB c1 5 hc1 (by omega)
  simp -implicitDefEqProofs [CR,ints]at py
  refine Aa (py) ?_
  have hyn:=hy.2.2 (by omega)
  simp -implicitDefEqProofs
  obtain⟨b,c3,hb,hc3,pb⟩:=hX c2 hc2
  simp -implicitDefEqProofs [CR,ints]at pb
  refine Aa (pb) ?_
  simp -implicitDefEqProofs [AF5,EG]
  exact hQ ⟨6,y,b⟩ c3 ⟨by dsimp only;omega,by dsimp only;omega,by dsimp only;omega,by dsimp only;omega,hb⟩ hc3
 by_cases g6:x=6
 ·simp -implicitDefEqProofs [g6]
  obtain⟨y,c2,hy,hc2,py⟩:=hB c1 5 hc1 (by omega)
  simp -implicitDefEqProofs [CR,ints]at py
  refine Aa (py) ?_
  have hyn:=hy.2.2 (by omega)
  simp -implicitDefEqProofs [AF5,EG]
  exact hQ ⟨7,y,⟨0,[],[],false⟩⟩ c2 ⟨by dsimp only;omega,by dsimp only;omega,by dsimp only;omega,by dsimp only;omega,Lc⟩ hc2
 by_cases g7:x=7
 ·simp -implicitDefEqProofs [g7]
  obtain⟨y,c2,hy,hc2,py⟩:=hB c1 3 hc1 (by omega)
  simp -implicitDefEqProofs [CR,ints]at py
  refine Aa (py) ?_
  have hyn:=hy.2.2 (by omega)
  have w1:IntKind.i64.wrap (1+y)=1+y:=Ad (by omega) (by omega)
  simp -implicitDefEqProofs [w1,AF5,EG]
  exact hQ ⟨8,1+y,⟨0,[],[],false⟩⟩ c2 ⟨by dsimp only;omega,by dsimp only;omega,by dsimp only;omega,by dsimp only;omega,Lc⟩ hc2
 ·simp -implicitDefEqProofs [g0,g1,g2,g3,g4,g5,g6,g7]
  obtain⟨y,c2,hy,hc2,py⟩:=hB c1 5 hc1 (by omega)
  simp -implicitDefEqProofs [CR,ints]at py
  refine Aa (py) ?_
  have hyn:=hy.2.2 (by omega)
  simp -implicitDefEqProofs [AF5,EG]
  exact hQ ⟨1,y,⟨0,[],[],false⟩⟩ c2 ⟨by dsimp only;omega,by dsimp only;omega,by dsimp only;omega,by dsimp only;omega,Lc⟩ hc2
abbrev Oz (R:Rel):Prop:=∀(c:Cur) (m:Int),Fg c→m≤100→Rs R [I m] c (fun l:List Event=>(∀e,e∈l→Ahl e)∧0<l.length∧(l.length:Int)≤1+(if 0<m then m-1 else 0)) (fun l=> .sl 0 6 l.length (l.flatMap CY))
theorem AgX (D:Dn) (hB:EP (D ACm)) (hE:QO (D ABD)):Oz (Body D Gw):=by
 intro c m hc hm
 refine Hu (fun Q hQ=> ?_)
 simp -implicitDefEqProofs
 obtain⟨x,c1,hx,hc1,px⟩:=hB c m hc (by omega)
 simp -implicitDefEqProofs [CR,ints]at px
 refine Aa (px) ?_
 have hxm:0≤x∧x≤(if 0<m then m-1 else 0):=by
  refine⟨hx.1,?_⟩
  by_cases g:0<m
  ·have:=hx.2.2 g
   rw[if_pos g];omega
  ·have:=hx.2.1 (by omega)
   rw[if_neg g];omega
 have hx100:x≤100:=by
  have:=hxm.2
  split at this<;>omega
 obtain⟨n,rfl⟩:∃n:Nat,x=n:=⟨x.toNat,by omega⟩
 simp -implicitDefEqProofs
 obtain⟨LI,hLI⟩:∃LI:Nat→St→Prop,LI=fun k s=>∃cd l o1 o2 o3 o4 o5,k≤n∧(l:List Event).length+k=n+1∧(∀e,e∈l→Ahl e)∧Fg cd∧s=⟨[.ptr 0 0,.undef,.undef,.arr 6,I k,.undef],[.var (CR cd),o1,o2,o3,o4,o5,.arr 6 0 l.length (l.flatMap CY)]⟩:=⟨_,rfl⟩
 refine Ae LI ?_ n _ (by
  rw[hLI]
  exact⟨c1,[⟨2,0,⟨0,[],[],false⟩⟩],.free,.free,.free,.free,.free,by omega,by simp;omega,fun e he=>by
   rw[List.mem_singleton.1 he]
   exact⟨by dsimp only;omega,by dsimp only;omega,by dsimp only;omega,by dsimp only;omega,Lc⟩,hc1,by simp[CR,CY,ints]⟩)
 intro k s hs
 rw[hLI]at hs
 obtain⟨cd,l,o1,o2,o3,o4,o5,hkn,hlk,hl,hcd,hs⟩:=hs
 subst hs
 by_cases hk:0<k
 ·have hwk:IntKind.i64.wrap ((k:Int)-1)=(k-1:Nat):=by rw[Ad (by omega) (by omega)];omega
  have hb1:(l.length+1)*80≤1099511627776:=by omega
  simp -implicitDefEqProofs [hk]
  obtain⟨e,c5,he,hc5,pe⟩:=hE cd hcd
  simp -implicitDefEqProofs [CR,ints]at pe
  refine Aa (pe) ?_
  simp -implicitDefEqProofs [hb1,hwk]
  refine⟨k-1,by omega,?_⟩
  rw[hLI]
  exact⟨c5,l++ [e],_,_,_,_,_,by omega,by simp;omega,fun x hx=>by
   rcases List.mem_append.1 hx with hx | hx
   ·exact hl x hx
   ·rw[List.mem_singleton.1 hx];exact he,hc5,by simp[CR,CY,ints];exact⟨rfl,rfl,rfl,rfl,rfl⟩⟩
 ·have hk0:k=0:=by omega
  subst hk0
  simp -implicitDefEqProofs [AF5,EG]
  exact hQ l cd ⟨hl,by omega,by have:=hxm.2;omega⟩ hcd
end Go.Eng.T
namespace Go.Eng.T
set_option maxRecDepth 20000
set_option maxHeartbeats 2000000
def apart (w:World) (j:Nat):Bool:=match w.ends[j]? with
 | some e=>ES e.path&&(!(MQ w j).deal.ok|| !decide ((MQ w j).deal.version=BJ w.server e.versions))
 | none=>false
end Go.Eng.T
namespace Go.Eng.T
set_option maxRecDepth 20000
set_option maxHeartbeats 2000000
theorem Alu (p:Int→Bool) (l:List Ext):(kept p l).length≤l.length:=List.length_filter_le _ _
theorem Afu (b:Gu) (h:Hello):(BS b h).1.exts.length≤h.exts.length:=by
 unfold BS
 split
 ·exact Alu _ _
 ·simp[AQ]
theorem AhH:∀(path:List Gu) (h:Hello),(Iu path h).1.exts.length≤h.exts.length
 | [],h=>Nat.le_refl _
 | b::r,h=>by
  unfold Iu
  split
  ·exact Nat.le_trans (AhH r _) (Afu b h)
  ·simp[AQ]
end Go.Eng.T
namespace Go.Eng.T
set_option maxRecDepth 20000
set_option maxHeartbeats 2000000
def AoT (bs:List Int):Prop:=bs.length≤1048576∧∀b,b∈bs→0≤b∧b≤255
def Ajj (R:Rel) (bs:List Int) {α:Type} (P:α→Prop) (res:α→V):Prop:=∃a,P a∧R [.sl 3 1 bs.length (u8s bs)] [] (res a) []
theorem Am4 {D:Dn} {f:Bh} {bs:List Int} {α:Type} {P:α→Prop} {res:α→V} (h:∀Q:V→List O→Prop,(∀a,P a→Q (res a) [])→AiC D f [.sl 3 1 bs.length (u8s bs)] [] Q):Ajj (Body D f) bs P res:=by
 obtain⟨v,o,⟨a,h1,rfl,rfl⟩,h3⟩:=Aev (P:=fun v o=>∃a,P a∧v=res a∧o=[]) (fun Q hQ=>h Q (fun a h1=>hQ _ _ ⟨a,h1,rfl,rfl⟩))
 exact⟨a,h1,h3⟩
end Go.Eng.T
namespace Go.Eng.T
set_option maxRecDepth 20000
set_option maxHeartbeats 2000000
abbrev AmV (R:Rel):Prop:=∀bs:List Int,bs.length≤maxLen→R [.sl 3 1 bs.length (u8s bs)] [] (B (decide (1048576<bs.length))) []
theorem Ao0 (D:Dn):AmV (Body D WA):=by
 intro bs h
 unfold maxLen at h
 by_cases h1:1048576<bs.length
 ·have h1':(1048576:Int)<bs.length:=by omega
  simp -implicitDefEqProofs [h1,h1']
 ·have h1':¬(1048576:Int)<bs.length:=by omega
  simp -implicitDefEqProofs [h1,h1']
def AmB (bs:List Int):Prop:=bs.length≤maxLen∧∀b,b∈bs→0≤b∧b≤255
end Go.Eng.T
namespace Go.Eng.T
end Go.Eng.T
namespace Go.Eng.T
abbrev Aoc:Nat:=511
abbrev Atl:Nat:=512
abbrev AxM:Nat:=513
abbrev AxQ:Nat:=514
abbrev AqK:Nat:=515
abbrev AA1:Nat:=516
abbrev ACa:Nat:=517
abbrev ABk:Nat:=518
abbrev Att:Nat:=519
abbrev Arp:Nat:=520
abbrev AES:Nat:=521
abbrev Atx:Nat:=522
abbrev ACT:Nat:=523
abbrev AtM:Nat:=524
abbrev Atr:Nat:=525
abbrev As4:Nat:=526
abbrev AqZ:Nat:=527
abbrev Av4:Nat:=528
abbrev AvE:Nat:=529
abbrev Atk:Nat:=530
abbrev Atq:Nat:=531
abbrev ABz:Nat:=532
abbrev AzD:Nat:=533
abbrev AG6:Nat:=534
abbrev Asi:Nat:=535
abbrev AwV:Nat:=536
abbrev Azg:Nat:=537
abbrev Awx:Nat:=538
abbrev ABw:Nat:=539
abbrev AtV:Nat:=540
abbrev Az4:Nat:=541
abbrev AnH:Nat:=542
abbrev AzI:Nat:=543
abbrev ApY:Nat:=544
abbrev AyN:Nat:=545
end Go.Eng.T
namespace Go.Eng.T
set_option maxRecDepth 20000
set_option maxHeartbeats 4000000
theorem Ant {w:World} {l:List Event} {m:Nat} (hw:Ay w≤400) (he:∀e,e∈l→Ahl e) (hl:l.length≤30):Aa5 w l∧Ay (Au w l)≤4200:=by
 have h1:=Ag1 l he
 have h2:=AeY w l l.length (Nat.le_refl _)
 rw[List.take_length]at h2
 have h3:=Ak2 (Au w l)
 have h4:=AlY w
 have h5:w.ends.length≤Ay w:=by have:=IK (f:=Ac) (xs:=w.ends);unfold Ay;omega
 refine⟨by unfold Aa5;omega,by omega⟩
end Go.Eng.T
namespace Go.Eng.T
set_option maxRecDepth 20000
set_option maxHeartbeats 2000000
theorem AhM {α:Type} {f:α→Nat}:∀(l:List α) (j:Nat) (hj:j<l.length) (e:α),f e≤f l[j]+1→Bw f (l.set j e)≤Bw f l+1
 | a::l,0,_,e,h=>by
  simp only[List.getElem_cons_zero]at h
  simp[Bw];omega
 | a::l,j+1,hj,e,h=>by
  have:=AhM l j (by simpa using hj) e (by simpa using h)
  simp only[Bw,List.set_cons_succ,List.length_cons,List.map_cons,List.sum_cons]at *
  omega
end Go.Eng.T
namespace Go.Eng.T
set_option maxRecDepth 20000
def Ach (p:Nat→Bool):Nat→Nat
 | 0=>0
 | n+1=>Ach p n+(if p n then 1 else 0)
theorem AeH (p:Nat→Bool):∀n,Ach p n≤n
 | 0=>Nat.le_refl 0
 | n+1=>by have:=AeH p n;simp only[Ach];split<;>omega
end Go.Eng.T
namespace Go.Eng.T
set_option maxRecDepth 20000
theorem AgB {l:List Int} (h:0<Y0 l):∃x,x∈l∧0<x:=by
 by_cases hx:∃x,x∈l∧0<x
 ·exact hx
 ·exfalso
  have h1:∀y,y∈l→y<1:=fun y hy=>by
   by_cases h2:0<y
   ·exact absurd ⟨y,hy,h2⟩ hx
   ·omega
  have:=Awm (x:=1) l 0 h1 (by omega)
  unfold Y0 at h
  omega
theorem AjZ {s l l':List Int} (h:0<BJ s l) (hl:A9 l' =true) (hs:∀x,x∈l→x∈l'):0<BJ s l':=by
 unfold BJ at h⊢
 split at h
 ·rename_i hc
  rw[if_pos ⟨hc.1,hl⟩]
  obtain⟨x,hx,h0⟩:=AgB h
  unfold common at hx⊢
  have hx':=List.mem_filter.1 hx
  have hm:x∈s.filter fun v=>decide (v∈l'):=List.mem_filter.2 ⟨hx'.1,by simpa using hs x (by simpa using hx'.2)⟩
  have:=max_mem (a:=0) hm
  unfold Y0
  omega
 ·omega
theorem Ai4 (s l:List Int):0≤BJ s l:=by
 unfold BJ
 split
 ·unfold Y0
  have ge:∀(l:List Int) (a:Int),a≤l.foldl (fun a v=>if v>a then v else a) a:=by
   intro l
   induction l with
   | nil=>intro a;exact Int.le_refl a
   | cons z l ih=>
    intro a
    simp only[List.foldl_cons]
    refine Int.le_trans ?_ (ih _)
    split<;>omega
  exact ge _ 0
 ·omega
theorem GK {s l:List Int}:reach s l=true↔0<BJ s l:=by
 unfold reach
 have:=Ai4 s l
 simp
 omega
theorem Abn {l:List Int} {v:Int} (h:A9 l=true) (hv:1≤v∧v≤9):A9 (TV l v)=true:=by
 refine Aap (ADc v (An0 h)) (fun x hx=> ?_) (put_pos l v)
 rcases(ABL l v x).1 hx with hx | rfl
 ·have:=Awj h x hx;exact⟨this.1,this.2⟩
 ·exact hv
theorem Po {l:List Int} {s:List Int} (h:0<BJ s l):A9 l=true:=by
 unfold BJ at h
 split at h
 ·rename_i hc;exact hc.2
 ·omega
theorem Rx {e:AL} (h:Az e=true) {l:List Int} (hl:A9 l=true):Az ⟨l,e.tags,e.path,e.cls⟩=true:=by
 unfold Az at h⊢
 simp only[Bool.and_eq_true]at h⊢
 exact⟨hl,h.2⟩
structure Aob (w:World):Prop where
 reach:A9 w.server=true∧∀e,e∈w.ends→reach w.server e.versions=true
 tags:HZ w.tags=true∧Mk w.key=true
 few:w.ends.length≤6
 ends:∀e,e∈w.ends→Az e=true
 b:JO w=true
 c:GH w=true
theorem Cg {w:World}:Ca w=true↔Aob w:=by
 unfold Ca KD Ii
 simp only[Bool.and_eq_true,decide_eq_true_eq,List.all_eq_true]
 constructor
 ·rintro ⟨⟨⟨h1,h2⟩,h3,h4⟩,h5,h6,h7,h8⟩
  exact⟨⟨h1,fun e he=>h2 _ (List.mem_map.2 ⟨e,he,rfl⟩)⟩,⟨h3,h4⟩,h5,h6,h7,h8⟩
 ·rintro ⟨⟨h1,h2⟩,⟨h3,h4⟩,h5,h6,h7,h8⟩
  exact⟨⟨⟨h1,fun l hl=>by obtain⟨e,he,rfl⟩:=List.mem_map.1 hl;exact h2 e he⟩,h3,h4⟩,h5,h6,h7,h8⟩
theorem Ag0 {w:World} (h:Ca w=true):Ca (leave w)=true:=by
 have p:=Cg.1 h
 refine Cg.2 ⟨⟨p.reach.1,?_⟩,p.tags,by simp[leave];exact p.few,?_,p.b,?_⟩
 ·intro e he
  obtain⟨e0,h0,rfl⟩:=List.mem_map.1 he
  unfold D6
  split
  ·rename_i hb;exact GK.2 hb
  ·exact p.reach.2 e0 h0
 ·intro e he
  obtain⟨e0,h0,rfl⟩:=List.mem_map.1 he
  unfold D6
  split
  ·rename_i hb;exact Rx (p.ends e0 h0) (Po hb)
  ·exact p.ends e0 h0
 ·have hc:=p.c
  unfold GH at hc⊢
  simp only[leave,Bool.and_eq_true]at hc⊢
  exact⟨by simp,hc.2⟩
theorem AhZ {r:EH} (h:Bp r=true):SH r.version 1 9∧SH r.pos 0 ((r.stages.length:Int)-1)∧(∀x,x∈r.stages→1≤x∧x≤100):=by
 unfold Bp at h
 simp only[Bool.and_eq_true,decide_eq_true_eq]at h
 obtain⟨h1,⟨⟨h2,h3⟩,h4⟩,h5⟩:=h
 refine⟨h2,h5,fun x hx=> ?_⟩
 obtain⟨i,hi,rfl⟩:=List.getElem_of_mem hx
 have:=AAr h1 hi
 rw[getD_at hi]at this
 exact⟨this.1,this.2⟩
theorem Xj {w:World} (h:Ca w=true):Ca (enter w)=true:=by
 by_cases hc:AAy w=true
 rotate_left
 ·unfold enter;rw[if_neg hc];exact h
 have p:=Cg.1 h
 have hr:Bp w.rollout=true:=by
  unfold AAy at hc
  simp only[Bool.and_eq_true]at hc
  exact hc.1
 have rf:=AhZ hr
 have e:enter w={w with ends:=w.ends.mapIdx (ACe w),stage:=[],reached:=max w.reached (w.rollout.pos+1)}:=by unfold enter;rw[if_pos hc]
 have hm:∀e1,e1∈(enter w).ends→∃e0,e0∈w.ends∧(e1=e0∨e1=⟨TV e0.versions w.rollout.version,e0.tags,e0.path,e0.cls⟩):=by
  intro e1 h1
  rw[e]at h1
  dsimp only at h1
  obtain⟨i,hi,rfl⟩:=List.getElem_of_mem h1
  rw[List.getElem_mapIdx]
  have hi':i<w.ends.length:=by simpa using hi
  refine⟨w.ends[i],List.getElem_mem hi',?_⟩
  unfold ACe
  split
  ·exact .inr rfl
  ·exact .inl rfl
 refine Cg.2 ⟨⟨by rw[e];exact p.reach.1,?_⟩,by rw[e];exact p.tags,by rw[e];simp;exact p.few,?_,by rw[e];exact p.b,?_⟩
 ·intro e1 h1
  obtain⟨e0,h0,h2⟩:=hm e1 h1
  have hs:(enter w).server=w.server:=by rw[e]
  rw[hs]
  rcases h2 with rfl | rfl
  ·exact p.reach.2 _ h0
  ·have:=GK.1 (p.reach.2 e0 h0)
   exact GK.2 (AjZ this (Abn (Po this) ⟨rf.1.1,rf.1.2⟩) (fun x hx=>(ABL _ _ _).2 (.inl hx)))
 ·intro e1 h1
  obtain⟨e0,h0,h2⟩:=hm e1 h1
  rcases h2 with rfl | rfl
  ·exact p.ends _ h0
  ·have:=GK.1 (p.reach.2 e0 h0)
   exact Rx (p.ends e0 h0) (Abn (Po this) ⟨rf.1.1,rf.1.2⟩)
 ·have hc:=p.c
  unfold GH at hc⊢
  rw[e]
  simp only[Bool.and_eq_true,decide_eq_true_eq]at hc⊢
  obtain⟨_,h2,h3,h4,h5⟩:=hc
  refine⟨by simp,h2,h3,h4,?_⟩
  have:=rf.2.1.1
  have:=rf.2.1.2
  have:=h5.1
  have:=h5.2
  constructor<;>omega
theorem Am7 {p:Nat→Bool} {c:Int} (h0:0≤c):∀n,(∀i,i<n→p i=decide ((i:Int)<c))→(Ach p n:Int)=min (n:Int) c
 | 0,_=>by simp[Ach];omega
 | n+1,h=>by
  have ih:=Am7 h0 n (fun i hi=>h i (by omega))
  have hn:=h n (by omega)
  unfold Ach
  by_cases hc:(n:Int)<c
  ·rw[hn]
   simp only[hc,decide_true,if_true]
   omega
  ·rw[hn]
   simp only[hc,decide_false]
   simp only[Bool.false_eq_true,if_false]
   omega
end Go.Eng.T
namespace Go.Eng.T
set_option maxRecDepth 20000
set_option maxHeartbeats 2000000
theorem AiY {w:World} (h:Ca w=true):Q5 w.hurt 0 w.log.length∧w.log.length≤60∧w.stage.length≤60:=by
 have:=(Cg.1 h).c
 unfold GH at this
 simp only[Bool.and_eq_true,decide_eq_true_eq]at this
 exact⟨this.2.2.2.1,this.2.1,this.1⟩
theorem Aig {w:World} {i:Int} {d:Cw} {on:Bool} (h:Ca w=true) (hm:AwO w i=true):Ca (Awc w i d on)=true:=by
 have p:=Cg.1 h
 have hh:=AiY h
 unfold AwO at hm
 simp only[Bool.and_eq_true,decide_eq_true_eq]at hm
 have hw:IntKind.i64.wrap (w.hurt+1)=w.hurt+1:=Ad (by have:=hh.1.1;omega) (by have:=hh.1.2;omega)
 refine Cg.2 ⟨p.reach,p.tags,p.few,p.ends,p.b,?_⟩
 have hc:=p.c
 unfold GH at hc⊢
 simp only[Bool.and_eq_true,decide_eq_true_eq]at hc⊢
 obtain⟨h1,h2,h3,h4,h5⟩:=hc
 refine⟨?_,by simp[Awc];omega,h3,?_,h5⟩
 ·unfold Awc;dsimp only;split
  ·simp;omega
  ·exact h1
 ·unfold Awc
  dsimp only
  rw[hw]
  have a1:=h4.1
  have a2:=h4.2
  split
  ·constructor
   ·omega
   ·simp;omega
  ·constructor
   ·omega
   ·simp;omega
theorem AaF {w:World} {i:Int} (h:Ca w=true):Ca (U8 w i).1=true:=by
 unfold U8
 split
 ·rename_i hm;exact Aig h hm
 ·exact h
theorem YW {w:World} (h:Ca w=true):Ca (CO w).1=true:=by
 unfold CO
 split
 ·exact Xj h
 ·exact h
theorem AbK {w:World} {r:EH} (h:Ca w=true) (hr:Bp r=true) (hv:r.version=w.rollout.version) (hs:r.stages=w.rollout.stages):Ca (Cb w r)=true:=by
 have p:=Cg.1 h
 refine Cg.2 ⟨p.reach,p.tags,p.few,p.ends,?_,?_⟩
 ·have hb:=p.b
  unfold JO at hb⊢
  unfold Cb
  simp only[Bool.and_eq_true,decide_eq_true_eq]at hb⊢
  rw[hv]
  exact⟨hr,hb.2⟩
 ·have hc:=p.c
  unfold GH at hc⊢
  unfold Cb
  dsimp only
  rw[hs]
  exact hc
theorem AjB {r:EH} (h:(Bu r).2=true):Bp (Bu r).1=true:=by
 unfold Bu at h⊢
 split at h
 ·rename_i hc
  rw[if_pos hc]
  unfold QB at hc
  simp only[Bool.and_eq_true,Bool.not_eq_true',decide_eq_false_iff_not]at hc
  obtain⟨h1,h2,h3⟩:=hc
  unfold Bp at h1⊢
  simp only[Bool.and_eq_true,decide_eq_true_eq]at h1⊢
  obtain⟨a1,⟨⟨a2,a3⟩,a4⟩,a5⟩:=h1
  have:=a5.1
  have:=a5.2
  exact⟨a1,⟨⟨a2,a3⟩,a4⟩,⟨by omega,by omega⟩⟩
 ·cases h
theorem Akl {r:EH} (h:(BN r).2=true):Bp (BN r).1=true:=by
 unfold BN at h⊢
 split at h
 ·rename_i hc
  rw[if_pos hc]
  unfold U7 at hc
  simp only[Bool.and_eq_true]at hc
  have h1:=hc.1
  unfold Bp at h1⊢
  simp only[Bool.and_eq_true,decide_eq_true_eq]at h1⊢
  obtain⟨a1,⟨⟨a2,a3⟩,a4⟩,a5⟩:=h1
  have:=a5.1
  have:=a5.2
  exact⟨a1,⟨⟨a2,a3⟩,a4⟩,⟨by omega,by omega⟩⟩
 ·cases h
theorem Af0 (r:EH):(Bu r).1.stages=r.stages:=by unfold Bu;split<;>rfl
theorem Afq (r:EH):(BN r).1.stages=r.stages:=by unfold BN;split<;>rfl
theorem Zd {w:World} (h:Ca w=true):Ca (BU w).1=true:=by
 unfold BU
 split
 ·exact h
 ·split
  ·split
   ·rename_i hn;exact Xj (AbK h (AjB hn) (Agt _) (Af0 _))
   ·exact h
  ·split
   ·split
    ·rename_i hn;exact Ag0 (AbK h (Akl hn) (Aby _) (Afq _))
    ·exact h
   ·exact h
theorem Afn {α:Type} {p:α→Bool}:∀(xs:List α) (i:Nat),AgU p xs i=[]→∀x,x∈xs→p x=false
 | [],_,_,x,hx=>by cases hx
 | a::r,i,h,x,hx=>by
  unfold AgU at h
  split at h
  ·cases h
  ·rename_i hp
   rcases List.mem_cons.1 hx with rfl | hx
   ·simpa using hp
   ·exact Afn r (i+1) h x hx
theorem VH {w:World} {v pm:Int} (h:Ca w=true):Ca (BF w v pm).1=true:=by
 unfold BF
 split
 rotate_left
 ·exact h
 rename_i hc
 obtain⟨h1,h2⟩:=hc
 have p:=Cg.1 h
 have hm:Fa w.server (GY w) v pm=true:=by
  unfold F6 at h1
  split at h1
  ·assumption
  ·cases h1
 have e:(F6 w.server (GY w) v pm).1=AB3 w.server v:=by unfold F6;rw[if_pos hm]
 rw[e]
 unfold Fa at hm
 simp only[Bool.and_eq_true,decide_eq_true_eq,Bool.not_eq_true',decide_eq_false_iff_not]at hm
 obtain⟨m1,m2,m3,m4,m5,m6⟩:=hm
 have hmem:∀x,x∈AB3 w.server v↔x∈w.server∧¬x=v:=by intro x;unfold AB3;simp[List.mem_filter]
 have hver:w.rollout.version∈w.server:=by
  have hb:=p.b
  unfold JO at hb
  simp only[Bool.and_eq_true,decide_eq_true_eq]at hb
  exact hb.2.1
 refine Cg.2 ⟨⟨?_,?_⟩,p.tags,p.few,p.ends,?_,p.c⟩
 ·refine Aap ?_ (fun x hx=> ?_) ?_
  ·exact List.Pairwise.filter _ (An0 m1)
  ·have:=Awj m1 x ((hmem x).1 hx).1;exact⟨this.1,this.2⟩
  ·exact List.length_pos_of_mem ((hmem _).2 ⟨hver,fun h=>h2 h.symm⟩)
 ·intro e he
  have h3:=Afn _ _ m5 e.versions (by unfold GY;exact List.mem_map.2 ⟨e,he,rfl⟩)
  have h4:=GK.1 (p.reach.2 e he)
  have h5:=Ai4 (AB3 w.server v) e.versions
  unfold AHJ at h3
  refine GK.2 ?_
  dsimp only
  simp[h4]at h3
  omega
 ·have hb:=p.b
  unfold JO at hb⊢
  simp only[Bool.and_eq_true,decide_eq_true_eq]at hb⊢
  exact⟨hb.1,(hmem _).2 ⟨hver,fun h=>h2 h.symm⟩,hb.2.2⟩
theorem Aio {s s' l:List Int} (h:0<BJ s l) (hl:A9 s' =true) (hs:∀x,x∈s→x∈s'):0<BJ s' l:=by
 unfold BJ at h⊢
 split at h
 ·rename_i hc
  rw[if_pos ⟨hl,hc.2⟩]
  obtain⟨x,hx,h0⟩:=AgB h
  unfold common at hx⊢
  have hx':=List.mem_filter.1 hx
  have hm:x∈s'.filter fun v=>decide (v∈l):=List.mem_filter.2 ⟨hs x hx'.1,hx'.2⟩
  have:=max_mem (a:=0) hm
  unfold Y0
  omega
 ·omega
theorem WZ {w:World} {v:Int} (h:Ca w=true):Ca (Ec w v).1=true:=by
 unfold Ec
 dsimp only
 have p:=Cg.1 h
 by_cases hc:RO w.server v=true
 rotate_left
 ·have e:(Kj w.server v).1=w.server:=by unfold Kj;rw[if_neg hc]
  rw[e];exact h
 have e:(Kj w.server v).1=TV w.server v:=by unfold Kj;rw[if_pos hc]
 rw[e]
 unfold RO at hc
 simp only[Bool.and_eq_true,decide_eq_true_eq]at hc
 have hv:=Abn hc.1 hc.2.1
 refine Cg.2 ⟨⟨hv,fun e he=> ?_⟩,p.tags,p.few,p.ends,?_,p.c⟩
 ·exact GK.2 (Aio (GK.1 (p.reach.2 e he)) hv (fun x hx=>(ABL _ _ _).2 (.inl hx)))
 ·have hb:=p.b
  unfold JO at hb⊢
  simp only[Bool.and_eq_true,decide_eq_true_eq]at hb⊢
  exact⟨hb.1,(ABL _ _ _).2 (.inl hb.2.1),hb.2.2⟩
theorem AdX {w:World} {j:Nat} {e:AL} (h:Ca w=true) (hj:j<w.ends.length) (he:Az e=true) (hv:e.versions=w.ends[j].versions):Ca {w with ends:=w.ends.set j e} =true:=by
 have p:=Cg.1 h
 have hm:∀x,x∈w.ends.set j e→x∈w.ends∨x=e:=fun x hx=>List.mem_or_eq_of_mem_set hx
 refine Cg.2 ⟨⟨p.reach.1,fun x hx=> ?_⟩,p.tags,by simp;exact p.few,fun x hx=> ?_,p.b,p.c⟩
 ·rcases hm x hx with hx | rfl
  ·exact p.reach.2 x hx
  ·rw[hv];exact p.reach.2 _ (List.getElem_mem hj)
 ·rcases hm x hx with hx | rfl
  ·exact p.ends x hx
  ·exact he
theorem AdE {w:World} {i:Int} {b:Gu} (h:Ca w=true):Ca (Ey w i b).1=true:=by
 have p:=Cg.1 h
 unfold Ey
 split
 rotate_left
 ·exact h
 split
 rotate_left
 ·exact h
 rename_i x hx
 split
 rotate_left
 ·exact h
 rename_i hc
 obtain⟨hj,rfl⟩:=List.getElem?_eq_some_iff.1 hx
 refine AdX h hj ?_ rfl
 have he:=p.ends _ (List.getElem_mem hj)
 unfold Az at he⊢
 simp only[Bool.and_eq_true,decide_eq_true_eq]at he⊢
 obtain⟨a1,a2,a3,a4,a5,a6,a7⟩:=he
 refine⟨a1,a2,a3,a4,by simp;omega,?_,a7⟩
 rw[List.all_append,a6]
 simp[hc.1]
theorem ZW {w:World} {i:Int} (h:Ca w=true):Ca (Dp w i).1=true:=by
 have p:=Cg.1 h
 unfold Dp
 split
 rotate_left
 ·exact h
 split
 rotate_left
 ·exact h
 rename_i x hx
 split
 ·exact h
 unfold M4
 rw[hx]
 dsimp only
 obtain⟨hj,rfl⟩:=List.getElem?_eq_some_iff.1 hx
 refine AdX h hj ?_ rfl
 have he:=p.ends _ (List.getElem_mem hj)
 unfold Az at he⊢
 simp only[Bool.and_eq_true,decide_eq_true_eq]at he⊢
 obtain⟨a1,a2,a3,a4,a5,a6,a7⟩:=he
 exact⟨a1,a2,a3,a4,by simp,by simp,a7⟩
theorem Aa2 {w:World} {n:Int} (h:Ca w=true):Ca (Eg w n).1=true:=by
 have p:=Cg.1 h
 unfold Eg
 split
 rotate_left
 ·exact h
 rename_i hc
 refine Cg.2 ⟨p.reach,p.tags,p.few,p.ends,p.b,?_⟩
 have hh:=p.c
 unfold GH at hh⊢
 simp only[Bool.and_eq_true,decide_eq_true_eq]at hh⊢
 have a1:=hc.1.1
 have a2:=hc.2.1
 have a3:=hc.2.2
 exact⟨hh.1,hh.2.1,⟨by omega,by omega⟩,hh.2.2.2⟩
theorem Agi {w:World} {e:Event} (h:Ca w=true):Ca (AB w e).1=true:=by
 unfold AB
 repeat' split
 ·exact AaF h
 ·exact YW h
 ·exact Zd h
 ·exact VH h
 ·exact WZ h
 ·exact AdE h
 ·exact ZW h
 ·exact Aa2 h
 ·exact h
theorem Ajt {w:World}:∀ {l:List Event},Ca w=true→Ca (Au w l)=true:=by
 intro l
 induction l generalizing w with
 | nil=>intro h;exact h
 | cons e l ih=>intro h;exact ih (Agi h)
end Go.Eng.T
namespace Go.Eng.T
set_option maxRecDepth 20000
set_option maxHeartbeats 4000000
theorem Qx (w:World):(enter w).log=w.log:=by unfold enter;split<;>rfl
theorem AdY (w:World):(enter w).stage.length≤w.stage.length:=by unfold enter;split<;>simp
theorem Aaw (w:World):(enter w).ends.length=w.ends.length:=by unfold enter;split<;>simp
theorem Aj2 (w:World) (e:Event):(AB w e).1.log.length≤w.log.length+(if e.kind=1 then 1 else 0)∧(AB w e).1.stage.length≤w.stage.length+1∧(AB w e).1.ends.length=w.ends.length:=by
 unfold AB
 by_cases g1:e.kind=1
 ·rw[if_pos g1,if_pos g1]
  unfold U8
  split
  ·unfold Awc
   dsimp only
   refine⟨by simp,?_,rfl⟩
   split<;>simp
  ·exact⟨by first | omega | (dsimp only;omega),by first | omega | (dsimp only;omega),rfl⟩
 rw[if_neg g1,if_neg g1]
 split
 ·unfold CO
  split
  ·have:=AdY w
   exact⟨by rw[Qx];first | omega | (dsimp only;omega),by first | omega | (dsimp only;omega),Aaw w⟩
  ·exact⟨by first | omega | (dsimp only;omega),by first | omega | (dsimp only;omega),rfl⟩
 split
 ·unfold BU
  split
  ·exact⟨by first | omega | (dsimp only;omega),by first | omega | (dsimp only;omega),rfl⟩
  split
  ·split
   ·have:=AdY (Cb w (Bu w.rollout).1)
    refine⟨by rw[Qx];unfold Cb;first | omega | (dsimp only;omega),?_,by show(enter _).ends.length=_;rw[Aaw];rfl⟩
    unfold Cb at this⊢;dsimp only at this⊢;omega
   ·exact⟨by first | omega | (dsimp only;omega),by first | omega | (dsimp only;omega),rfl⟩
  split
  ·split
   ·refine⟨?_,?_,?_⟩
    ·unfold leave Cb;first | omega | (dsimp only;omega)
    ·unfold leave Cb;simp
    ·unfold leave Cb;simp
   ·exact⟨by first | omega | (dsimp only;omega),by first | omega | (dsimp only;omega),rfl⟩
  ·exact⟨by first | omega | (dsimp only;omega),by first | omega | (dsimp only;omega),rfl⟩
 split
 ·unfold BF;split<;>exact⟨by first | omega | (dsimp only;omega),by first | omega | (dsimp only;omega),rfl⟩
 split
 ·unfold Ec;exact⟨by first | omega | (dsimp only;omega),by first | omega | (dsimp only;omega),rfl⟩
 split
 ·unfold Ey
  split
  ·split
   ·split
    ·exact⟨by first | omega | (dsimp only;omega),by first | omega | (dsimp only;omega),by simp⟩
    ·exact⟨by first | omega | (dsimp only;omega),by first | omega | (dsimp only;omega),rfl⟩
   ·exact⟨by first | omega | (dsimp only;omega),by first | omega | (dsimp only;omega),rfl⟩
  ·exact⟨by first | omega | (dsimp only;omega),by first | omega | (dsimp only;omega),rfl⟩
 split
 ·unfold Dp
  split
  ·split
   ·split
    ·exact⟨by first | omega | (dsimp only;omega),by first | omega | (dsimp only;omega),rfl⟩
    ·unfold M4
     split
     ·exact⟨by first | omega | (dsimp only;omega),by first | omega | (dsimp only;omega),by simp⟩
     ·exact⟨by first | omega | (dsimp only;omega),by first | omega | (dsimp only;omega),rfl⟩
   ·exact⟨by first | omega | (dsimp only;omega),by first | omega | (dsimp only;omega),rfl⟩
  ·exact⟨by first | omega | (dsimp only;omega),by first | omega | (dsimp only;omega),rfl⟩
 split
 ·unfold Eg;split<;>exact⟨by first | omega | (dsimp only;omega),by first | omega | (dsimp only;omega),rfl⟩
 ·exact⟨by first | omega | (dsimp only;omega),by first | omega | (dsimp only;omega),rfl⟩
structure LW (n:Nat) (w:World):Prop where
 ok:Ca w=true
 pt:Zi w≤3500+10*n
 log:w.log.length≤n
 stg:w.stage.length≤n
 ends:0<w.ends.length∧w.ends.length≤5
end Go.Eng.T
namespace Go.Eng.T
set_option maxRecDepth 20000
set_option maxHeartbeats 2000000
def RJ (n:Nat) (w:World):Prop:=∀x,x∈w.log→(0≤x.fin∧x.fin<n)∧∃w0 i,x.dialed=MQ w0 i
theorem Oa {n:Nat} {w w':World} (h:RJ n w) (e:w'.log=w.log):RJ n w':=by unfold RJ;rw[e];exact h
theorem Aha {n:Nat} {w:World} {e:Event} (hn:w.ends.length=n) (h:RJ n w):RJ n (AB w e).1:=by
 unfold AB
 by_cases g1:e.kind=1
 ·rw[if_pos g1]
  unfold U8
  split
  ·rename_i hm
   unfold AwO at hm
   simp only[Bool.and_eq_true,decide_eq_true_eq]at hm
   have a1:=hm.1.1
   have a2:=hm.1.2
   intro x hx
   unfold Awc at hx
   dsimp only at hx
   rcases List.mem_append.1 hx with hx | hx
   ·exact h x hx
   ·simp at hx
    subst hx
    exact⟨⟨a1,by dsimp only;omega⟩,w,e.n,rfl⟩
  ·exact h
 rw[if_neg g1]
 split
 ·unfold CO
  split
  ·exact Oa h (Qx w)
  ·exact h
 split
 ·unfold BU
  split
  ·exact h
  split
  ·split
   ·exact Oa h (by rw[Qx];rfl)
   ·exact h
  split
  ·split
   ·exact Oa h rfl
   ·exact h
  ·exact h
 split
 ·unfold BF;split<;>exact h
 split
 ·exact h
 split
 ·unfold Ey
  split
  ·split
   ·split<;>exact h
   ·exact h
  ·exact h
 split
 ·unfold Dp
  split
  ·split
   ·split
    ·exact h
    ·exact Oa h (by unfold M4;split<;>rfl)
   ·exact h
  ·exact h
 split
 ·unfold Eg;split<;>exact h
 ·exact h
theorem Aec {n:Nat}:∀ {l:List Event} {w:World},w.ends.length=n→RJ n w→RJ n (Au w l)∧(Au w l).ends.length=n
 | [],w,hn,h=>⟨h,hn⟩
 | e::l,w,hn,h=>Aec (l:=l) (w:=(AB w e).1) (by rw[(Aj2 w e).2.2];exact hn) (Aha hn h)
def Aeo (d:Cw):Prop:=0≤d.tries∧d.tries≤2∧(d.deal.ok=true→1≤d.tries)
theorem Ahm (h:Hello) (path:List Gu) (vs tags:List Int) (key:Int):Aeo (Atd h path vs tags key):=by
 unfold Atd Cr
 repeat' split
 all_goals first | exact⟨by dsimp only;omega,by dsimp only;omega,fun _=>by dsimp only;omega⟩ | (refine⟨by dsimp only;omega,by dsimp only;omega,fun h=> ?_⟩;simp_all[FZ])
theorem AeX (w:World) (i:Int):Aeo (MQ w i):=by
 unfold MQ
 split
 ·split
  ·unfold KX
   split
   ·exact Ahm _ _ _ _ _
   ·exact⟨by simp[Mw],by simp[Mw],fun h=>by simp[Mw,FZ]at h⟩
  ·exact⟨by simp[Mw],by simp[Mw],fun h=>by simp[Mw,FZ]at h⟩
 ·exact⟨by simp[Mw],by simp[Mw],fun h=>by simp[Mw,FZ]at h⟩
end Go.Eng.T
namespace Go.Eng.T
set_option maxRecDepth 20000
set_option maxHeartbeats 4000000
end Go.Eng.T
namespace Go.Eng.T
theorem AyT:∀(n:Nat) (k:Int),nums n k++ [k+n]=nums (n+1) k
 | 0,k=>by simp[nums]
 | n+1,k=>by
  have:=AyT n (k+1)
  simp only[nums,List.cons_append]
  rw[show k+((n+1:Nat):Int)=k+1+(n:Int)by omega,this]
  rfl
end Go.Eng.T
namespace Go.Eng.T
end Go.Eng.T
namespace Go.Eng.T
set_option maxRecDepth 20000
end Go.Eng.T
namespace Go.Eng.T
set_option maxRecDepth 20000
end Go.Eng.T
namespace Go.Eng.T
abbrev AoI (R:Rel):Prop:=∀(x:Gu) (l:Int),0≤l→l≤4194304→Hw x→R [arg (CF x),I l] [] (I (szl (Ct x) l)) []
abbrev ApL (R:Rel):Prop:=∀x:Gu,Ct x≤4194304→R [arg (CF x)] [] (.agg (CF x)) []
abbrev AoH (R:Rel):Prop:=∀x y:Gu,Ct x≤2 ^ 40→Ct y≤2 ^ 40→R [arg (CF x),arg (CF y)] [] (B (decide (x=y))) []
abbrev AGL (R:Rel):Prop:=∀(x:Event) (l:Int),0≤l→l≤4194304→AEb x→R [arg (CY x),I l] [] (I (szl (Aic x) l)) []
abbrev AG5 (R:Rel):Prop:=∀x:Event,Aic x≤4194304→R [arg (CY x)] [] (.agg (CY x)) []
abbrev AGM (R:Rel):Prop:=∀x y:Event,Aic x≤2 ^ 40→Aic y≤2 ^ 40→R [arg (CY x),arg (CY y)] [] (B (decide (x=y))) []
end Go.Eng.T
namespace Go.Eng.T
abbrev Tj (R:Rel):Prop:=∀(x:AL) (l:Int),0≤l→l≤4194304→Ir x→R [arg (Ak x),I l] [] (I (szl (Ac x) l)) []
abbrev Tk (R:Rel):Prop:=∀x:AL,Ac x≤4194304→R [arg (Ak x)] [] (.agg (Ak x)) []
end Go.Eng.T
namespace Go.Eng.T
abbrev UW (R:Rel):Prop:=∀(x:Cw) (l:Int),0≤l→l≤4194304→OV x→R [arg (AP x),I l] [] (I (szl (Al x) l)) []
abbrev Vf (R:Rel):Prop:=∀x:Cw,Al x≤4194304→R [arg (AP x)] [] (.agg (AP x)) []
abbrev Ve (R:Rel):Prop:=∀x y:Cw,Al x≤2 ^ 40→Al y≤2 ^ 40→R [arg (AP x),arg (AP y)] [] (B (decide (x=y))) []
end Go.Eng.T
namespace Go.Eng.T
abbrev YQ (R:Rel):Prop:=∀(x:BA) (l:Int),0≤l→l≤4194304→Sj x→R [arg (Ar x),I l] [] (I (szl (Av x) l)) []
abbrev Yx (R:Rel):Prop:=∀x:BA,Av x≤4194304→R [arg (Ar x)] [] (.agg (Ar x)) []
abbrev YP (R:Rel):Prop:=∀x y:BA,Av x≤2 ^ 40→Av y≤2 ^ 40→R [arg (Ar x),arg (Ar y)] [] (B (decide (x=y))) []
end Go.Eng.T
namespace Go.Eng.T
abbrev SQ (R:Rel):Prop:=∀x y:AL,Ac x≤2 ^ 40→Ac y≤2 ^ 40→R [arg (Ak x),arg (Ak y)] [] (B (decide (x=y))) []
end Go.Eng.T
namespace Go.Eng.T
set_option maxRecDepth 20000
end Go.Eng.T
namespace Go.Eng.T
set_option maxRecDepth 20000
set_option maxHeartbeats 2000000
end Go.Eng.T
namespace Go.Eng.T
set_option maxRecDepth 20000
set_option maxHeartbeats 2000000
theorem Af9 {α:Type} {p:α→Bool}:∀(xs:List α) (i:Nat) (x:Int),x∈AgU p xs i↔∃(j:Nat) (h:j<xs.length),x=((i+j:Nat):Int)∧p xs[j]=true
 | [],i,x=>by simp[AgU]
 | a::r,i,x=>by
  have ih:=Af9 (p:=p) r (i+1) x
  constructor
  ·intro h
   have h':(p a=true∧x=(i:Int))∨x∈AgU p r (i+1):=by
    unfold AgU at h
    split at h
    ·rename_i hp
     rcases List.mem_cons.1 h with h | h
     ·exact .inl ⟨hp,h⟩
     ·exact .inr h
    ·exact .inr h
   rcases h' with⟨h1,h2⟩ | h1
   ·exact⟨0,by simp,by simpa using h2,by simpa using h1⟩
   ·obtain⟨j,hj,h2,h3⟩:=ih.1 h1
    exact⟨j+1,by simpa using hj,by rw[h2];congr 1;omega,by simpa using h3⟩
  ·rintro ⟨j,hj,h2,h3⟩
   unfold AgU
   cases j with
   | zero=>
    have hp:p a=true:=by simpa using h3
    rw[if_pos hp]
    exact List.mem_cons.2 (.inl (by simpa using h2))
   | succ j=>
    have:x∈AgU p r (i+1):=ih.2 ⟨j,by simpa using hj,by rw[h2];congr 1;omega,by simpa using h3⟩
    split
    ·exact List.mem_cons_of_mem _ this
    ·exact this
theorem Aj1 {α β:Type} {p:α→Bool} {q:β→Bool}:∀(xs:List α) (ys:List β) (i:Nat),xs.length=ys.length→(∀(j:Nat) (h:j<xs.length) (h':j<ys.length),p xs[j]=true→q ys[j]=true)→(AgU p xs i).length≤(AgU q ys i).length
 | [],_,i,_,_=>by simp[AgU]
 | a::r,[],i,hl,_=>by simp at hl
 | a::r,b::t,i,hl,h=>by
  have ih:=Aj1 (p:=p) (q:=q) r t (i+1) (by simpa using hl) (fun j h1 h2 h3=>h (j+1) (by simpa using h1) (by simpa using h2) h3)
  have h0:=h 0 (by simp) (by simp)
  unfold AgU
  by_cases hp:p a=true
  ·have hq:q b=true:=by simpa using h0 (by simpa using hp)
   rw[if_pos hp,if_pos hq]
   simp only[List.length_cons];omega
  ·rw[if_neg hp]
   split
   ·simp only[List.length_cons];omega
   ·exact ih
end Go.Eng.T
namespace Go.Eng.T
set_option maxRecDepth 20000
set_option maxHeartbeats 4000000
end Go.Eng.T
namespace Go.Eng.T
set_option maxRecDepth 20000
set_option maxHeartbeats 4000000
end Go.Eng.T
namespace Go.Eng.T
set_option maxRecDepth 20000
set_option maxHeartbeats 4000000
structure ApB (p:World×List Event):Prop where
 ok:Ca p.1=true
 sz:Ay p.1≤400
 log:p.1.log=[]
 ev:∀e,e∈p.2→Ahl e
 len:0<p.2.length∧p.2.length≤18
 first:∃(w:World) (y:Int),AeF w∧p.1={w with least:=y}
end Go.Eng.T
namespace Go.Eng.T
set_option maxRecDepth 20000
set_option maxHeartbeats 4000000
structure Aly (w:World):Prop where
 ok:Ca w=true
 sz:Ay w≤4200
 log:RJ w.ends.length w
abbrev QM (R:Rel):Prop:=∀c:Cur,Fg c→Rs R [] c Aly (fun w=> .agg (EF w))
theorem Aix (D:Dn) (hW:QH (D ABh)) (hE:Oz (D Aza)) (hR:NK (D Azu)):QM (Body D GZ):=by
 intro c hc
 refine Hu (fun Q hQ=> ?_)
 simp -implicitDefEqProofs
 obtain⟨w,c1,hw,hc1,pw⟩:=hW c hc
 simp -implicitDefEqProofs [CR,ints]at pw
 refine Aa (pw) ?_
 simp -implicitDefEqProofs
 obtain⟨l,c2,⟨he,hl1,hl2⟩,hc2,pl⟩:=hE c1 16 hc1 (by omega)
 simp -implicitDefEqProofs [CR,ints]at pl
 refine Aa (pl) ?_
 have hl3:l.length≤30:=by simp at hl2;omega
 obtain⟨hok,hsz⟩:=Ant (m:=0) hw.sz he hl3
 have hwd:=Ajt (w:=w) (l:=l) hw.ok
 have hlo:=Aec (l:=l) (w:=w) rfl (fun x hx=>by rw[hw.nolog]at hx;cases hx)
 have hlg:RJ (Au w l).ends.length (Au w l):=by rw[hlo.2];exact hlo.1
 clear hlo
 have pr:=hR w l hok
 simp -implicitDefEqProofs [EF,ints]at pr⊢
 refine Aa (pr) ?_
 generalize Au w l=y at hsz hwd hlg
 simp -implicitDefEqProofs [AF5,EG]
 exact hQ y c2 ⟨hwd,hsz,hlg⟩ hc2
abbrev KZ (R:Rel):Prop:=∀bs:List Int,AoT bs→Ajj R bs Aly (fun w=> .agg (EF w))
theorem Adz (D:Dn) (hN:Afj (D AEC)) (hW:QM (D AA4)):KZ (Body D FI):=by
 intro bs hb
 refine Am4 (fun Q hQ=> ?_)
 simp -implicitDefEqProofs
 obtain⟨c0,hc0,pc0⟩:=hN bs hb.1 hb.2
 simp -implicitDefEqProofs [CR,ints]at pc0
 refine Aa (pc0) ?_
 simp -implicitDefEqProofs
 obtain⟨w,c2,hw,hc2,pw⟩:=hW c0 hc0
 simp -implicitDefEqProofs [CR,ints]at pw
 refine Aa (pw) ?_
 simp -implicitDefEqProofs
 exact hQ w hw
end Go.Eng.T
namespace Go.Eng.T
set_option maxRecDepth 20000
set_option maxHeartbeats 1000000
def GA (j:Nat):Int:=10+16*(j:Int)
def TB:List Int:=(List.range 16).map GA
theorem Aku (j:Nat):(List.range (j+1)).map GA=(List.range j).map GA++ [GA j]:=by rw[List.range_succ,List.map_append];rfl
abbrev PN (R:Rel):Prop:=R [] [] (.sl 0 1 16 (ints TB)) []
theorem Acs (D:Dn):PN (Body D GJ):=by
 have hres:TB=(List.range 16).map GA:=rfl
 unfold PN
 rw[hres]
 simp -implicitDefEqProofs
 refine Ae (fun k s=>∃j o1 o2,j+k=16∧s=⟨[.undef,.arr 3,I (GA j),.undef],[.free,o1,o2,.arr 1 0 j (ints ((List.range j).map GA))]⟩) ?_ (16) _ ⟨0,.free,.free,by simp,by simp[GA]⟩
 intro k s ⟨j,o1,o2,hj,hs⟩
 subst hs
 by_cases hjn:j<16
 ·have hst:=Aku j
  have hlt:GA j<256:=by unfold GA;omega
  have hw:IntKind.i64.wrap (GA j+16)=GA (j+1):=by unfold GA;rw[Ad (by omega) (by omega)];omega
  have hbd:(j+1)*8≤1099511627776:=by omega
  simp -implicitDefEqProofs [hlt,hbd]
  exact⟨k-1,by omega,j+1,by omega,by simp[hw],rfl,by rw[hst]⟩
 ·obtain rfl:j=16:=by omega
  have hlt:¬GA 16<256:=by unfold GA;omega
  simp -implicitDefEqProofs [hlt]
def Ame (b:Gu) (t:Int):Bool:= !(BS b ⟨[1],[⟨t,[]⟩]⟩).2||decide ((BS b ⟨[1],[⟨t,[]⟩]⟩).1.exts=[])
def refuses (b:Gu):Bool:=Hz b&&TB.any (Ame b)
abbrev Vp (R:Rel):Prop:=∀b:Gu,Hw b→R [arg (CF b)] [] (B (refuses b)) []
abbrev QG (R:Rel):Prop:=∀(t:Int) (b:Gu),Hw b→R [I t,.rptr 1 (CF b) 0] [] (B (Ame b t)) []
theorem Anm (t:Int):hB ⟨[1],[⟨t,[]⟩]⟩:=⟨by simp,by simp,by simp⟩
theorem Ahx (D:Dn) (hP:OZ (D AlJ)):QG (Body D Fx):=by
 intro t b hb
 have hq:Ame b t=(!(BS b ⟨[1],[⟨t,[]⟩]⟩).2||decide ((BS b ⟨[1],[⟨t,[]⟩]⟩).1.exts=[])):=rfl
 rw[hq]
 simp -implicitDefEqProofs
 refine Aa (hP b ⟨[1],[⟨t,[]⟩]⟩ hb (Anm t)) ?_
 generalize BS b ⟨[1],[⟨t,[]⟩]⟩=r
 by_cases h1:r.2=true
 ·by_cases h2:r.1.exts=[]
  ·simp -implicitDefEqProofs [h1,h2,WT]
  ·simp -implicitDefEqProofs [h1,h2,WT]
 ·simp -implicitDefEqProofs [h1]
theorem AhI (D:Dn) (hX:RQ (D AfA)) (hT:PN (D AtI)) (h1':QG (D AqC)) (hC:KF D (D HV)):Vp (Body D Gv):=by
 intro b hb
 simp -implicitDefEqProofs
 refine Aa (hX b hb) ?_
 by_cases h1:Hz b=true
 rotate_left
 ·simp -implicitDefEqProofs [h1,refuses]
 simp -implicitDefEqProofs [h1]
 refine Aa (hT) ?_
 simp -implicitDefEqProofs
 refine Aa (hC TB AqC _ (Ame b) (by unfold maxLen;simp[TB]) (Aer ER) (fun t=>h1' t b hb)) ?_
 simp -implicitDefEqProofs [refuses,h1]
def FW (path:List Gu):List Int:=AgU refuses path 0
abbrev NV (R:Rel):Prop:=∀path:List Gu,lnS Hw path→path.length≤4194304→R [.sl 1 4 path.length (path.flatMap CF)] [] (.sl 0 1 (FW path).length (ints (FW path))) []
theorem AeD (D:Dn) (hR:Vp (D Aty)):NV (Body D F7):=by
 intro path hb hl
 have hres:FW path=AgU refuses path 0:=rfl
 rw[hres]
 simp -implicitDefEqProofs
 refine Ae (fun k s=>∃j v3 o1 o2 o3,j+k=path.length∧s=⟨[.undef,.undef,.arr 4,v3,.undef,.sl 1 4 path.length (path.flatMap CF),I path.length,I j,.undef,.undef],[.free,o1,o2,o3,.arr 1 0 (AgU refuses (path.take j) 0).length (ints (AgU refuses (path.take j) 0))]⟩) ?_ (path.length) _ ⟨0,.undef,.free,.free,.free,by simp,by simp[AgU]⟩
 intro k s ⟨j,v3,o1,o2,o3,hj,hs⟩
 subst hs
 by_cases hjn:j<path.length
 ·have hw:IntKind.i64.wrap ((j:Int)+1)=(j+1:Nat):=by rw[Ad (by omega) (by omega)];simp
  have hst:=VS (p:=refuses) hjn
  have hln:=Az6 (p:=refuses) (path.take j) 0
  have htl:(path.take j).length≤j:=by simp;omega
  have hbd:((AgU refuses (path.take j) 0).length+1)*8≤1099511627776:=by omega
  simp -implicitDefEqProofs [hjn]
  refine Aa (hR path[j] (hb.2 j hjn)) ?_
  by_cases h1:refuses path[j]=true
  ·rw[if_pos h1]at hst
   simp -implicitDefEqProofs [h1,hbd]
   exact⟨k-1,by omega,j+1,by omega,by simp[hw],by rw[hst];simp,by rw[hst]⟩
  ·rw[if_neg h1,List.append_nil]at hst
   simp -implicitDefEqProofs [h1]
   exact⟨k-1,by omega,j+1,by omega,by simp[hw],by rw[hst],by rw[hst]⟩
 ·have hx:=AaN (p:=refuses) (xs:=path) (j:=j) (by omega)
  simp -implicitDefEqProofs [hjn,hx]
def PS (e:AL):Bool:=decide (0<(FW e.path).length)
def Nu (w:World):List Int:=AgU PS w.ends 0
abbrev Qm (R:Rel):Prop:=∀w:World,Ay w≤4194304→R [arg (EF w)] [] (.sl 0 1 (Nu w).length (ints (Nu w))) []
theorem Akt {e:AL} (h:Ac e≤4194304):Bw Ct e.path≤4194304:=by unfold Ac at h;omega
theorem AfZ (D:Dn) (hR:NV (D Ats)):Qm (Body D LJ):=by
 intro w hsz
 have hl:=JQ hsz
 have hres:Nu w=AgU PS w.ends 0:=rfl
 rw[hres]
 simp -implicitDefEqProofs
 refine Ae (fun k s=>∃j v4 o2 o3 o4 o5,j+k=w.ends.length∧s=⟨[.undef,.undef,.undef,.arr 6,v4,.undef,.sl 1 4 w.ends.length (w.ends.flatMap Ak),I w.ends.length,I j,.undef,.undef],[.var ((EF w).map (AZ 1)),.free,o2,o3,o4,o5,.arr 1 0 (AgU PS (w.ends.take j) 0).length (ints (AgU PS (w.ends.take j) 0))]⟩) ?_ (w.ends.length) _ ⟨0,.undef,.free,.free,.free,.free,by simp,by simp[AgU]⟩
 intro k s ⟨j,v4,o2,o3,o4,o5,hj,hs⟩
 subst hs
 by_cases hjn:j<w.ends.length
 ·have hw:IntKind.i64.wrap ((j:Int)+1)=(j+1:Nat):=by rw[Ad (by omega) (by omega)];simp
  have hst:=VS (p:=PS) hjn
  have hln:=Az6 (p:=PS) (w.ends.take j) 0
  have htl:(w.ends.take j).length≤j:=by simp;omega
  have hbd:((AgU PS (w.ends.take j) 0).length+1)*8≤1099511627776:=by omega
  have hpp:=Akt (Q6 hsz hjn)
  have hpl:=IK (f:=Ct) (xs:=w.ends[j].path)
  simp -implicitDefEqProofs [hjn]
  refine Aa (hR w.ends[j].path (AC8 hpp) (by omega)) ?_
  have hq:PS w.ends[j]=decide (0<(FW w.ends[j].path).length):=rfl
  by_cases h1:0<(FW w.ends[j].path).length
  ·have h1':(0:Int)<(FW w.ends[j].path).length:=by omega
   rw[if_pos (by rw[hq];simp[h1])]at hst
   simp -implicitDefEqProofs [h1,h1',hbd]
   exact⟨k-1,by omega,j+1,by omega,by simp[hw],by rw[hst];simp,by rw[hst]⟩
  ·have h1':¬(0:Int)<(FW w.ends[j].path).length:=by omega
   rw[if_neg (by rw[hq];simp[h1]),List.append_nil]at hst
   simp -implicitDefEqProofs [h1,h1']
   exact⟨k-1,by omega,j+1,by omega,by simp[hw],by rw[hst],by rw[hst]⟩
 ·have hx:=AaN (p:=PS) (xs:=w.ends) (j:=j) (by omega)
  simp -implicitDefEqProofs [hjn,hx]
end Go.Eng.T
namespace Go.Eng.T
set_option maxRecDepth 20000
set_option maxHeartbeats 1000000
def Ni (l:List Int):Bool:=decide (l.length≤10)&&allIn l 0 10000
abbrev Pm (R:Rel):Prop:=∀l:List Int,l.length≤maxLen→R [.sl 1 1 l.length (ints l)] [] (B (Ni l)) []
theorem Ae7 (D:Dn) (hN:Jv (D Kb)):Pm (Body D JM):=by
 intro l hl
 by_cases h5:l.length≤10
 ·have h5':(l.length:Int)≤10:=by omega
  simp -implicitDefEqProofs [h5']
  refine Aa (hN _ _ _ hl) ?_
  simp -implicitDefEqProofs [Ni,h5]
 ·have h5':¬(l.length:Int)≤10:=by omega
  simp -implicitDefEqProofs [h5',Ni,h5]
def Qt (l:List Int) (n:Int):Bool:=Ni l&&decide (Q5 n 0 10000)
abbrev TL (R:Rel):Prop:=∀(l:List Int) (n:Int),l.length≤maxLen→R [.sl 1 1 l.length (ints l),I n] [] (B (Qt l n)) []
theorem Aj4 (D:Dn) (hA:Pm (D AzJ)) (hI:SG (D Bz)):TL (Body D MO):=by
 intro l n hl
 simp -implicitDefEqProofs
 refine Aa (hA l hl) ?_
 by_cases h1:Ni l=true
 rotate_left
 ·simp -implicitDefEqProofs [h1,Qt]
 simp -implicitDefEqProofs [h1]
 refine Aa (hI _ _ _) ?_
 simp -implicitDefEqProofs [h1,Qt]
def Na (n x:Int):Int:=if x<n then 0 else x
def Dm (l:List Int) (n:Int):List Int:=if Qt l n=true then l.map (Na n)else []
abbrev Oq (R:Rel):Prop:=∀(l:List Int) (n:Int),l.length≤4194304→R [.sl 1 1 l.length (ints l),I n] [] (.sl 0 1 (Dm l n).length (ints (Dm l n))) []
theorem Aj6 {l:List Int} {n:Int} {j:Nat} (h:j<l.length):(l.take (j+1)).map (Na n)=(l.take j).map (Na n)++ [Na n l[j]]:=by
 have e:l.take (j+1)=l.take j++ [l[j]]:=by simp
 rw[e,List.map_append];rfl
theorem Ael (D:Dn) (hC:TL (D ACo)):Oq (Body D JP):=by
 intro l n hl
 have hl':l.length≤maxLen:=by unfold maxLen;omega
 simp -implicitDefEqProofs
 refine Aa (hC l n hl') ?_
 by_cases hc:Qt l n=true
 rotate_left
 ·have e:Dm l n=[]:=by unfold Dm;rw[if_neg hc]
  rw[e]
  simp -implicitDefEqProofs [hc]
 have e:Dm l n=l.map (Na n):=by unfold Dm;rw[if_pos hc]
 rw[e]
 simp -implicitDefEqProofs [hc]
 refine Ae (fun k s=>∃j o1 o2,j+k=l.length∧s=⟨[.undef,I n,.undef,.arr 3,.undef,.undef,.sl 1 1 l.length (ints l),I l.length,I j,.undef,.undef],[.free,o1,o2,.arr 1 0 j (ints ((l.take j).map (Na n)))]⟩) ?_ (l.length) _ ⟨0,.free,.free,by simp,by simp⟩
 intro k s ⟨j,o1,o2,hj,hs⟩
 subst hs
 by_cases hjn:j<l.length
 ·have hw:IntKind.i64.wrap ((j:Int)+1)=(j+1:Nat):=by rw[Ad (by omega) (by omega)];simp
  have hst:=Aj6 (n:=n) hjn
  rw[List.map_take,List.map_take]at hst
  have hbd:(j+1)*8≤1099511627776:=by omega
  by_cases h3:l[j]<n
  ·have e3:Na n l[j]=0:=by unfold Na;rw[if_pos h3]
   simp -implicitDefEqProofs [hjn,h3,hbd]
   exact⟨k-1,by omega,j+1,by omega,by simp[hw],rfl,by rw[hst,e3]⟩
  ·have e3:Na n l[j]=l[j]:=by unfold Na;rw[if_neg h3]
   simp -implicitDefEqProofs [hjn,h3,hbd]
   exact⟨k-1,by omega,j+1,by omega,by simp[hw],rfl,by rw[hst,e3]⟩
 ·obtain rfl:j=l.length:=by omega
  simp -implicitDefEqProofs
def Afh (w:World) (v:Nat) (i:Nat):Bool:=decide (Dl w i=(v:Int))
def Vs (w:World) (v j:Nat):Int:=(Ach (Afh w v) j:Nat)
def PG (w:World) (j:Nat):List Int:=(List.range 10).map fun v=>Vs w v j
def En (w:World):List Int:=PG w w.ends.length
theorem Qc (w:World) (j:Nat):(PG w j).length=10:=by simp[PG]
theorem AlG {w:World} {j b:Nat} (h:b<(PG w j).length):(PG w j)[b]=Vs w b j:=by simp[PG]
abbrev FO (R:Rel):Prop:=∀w:World,Ay w≤4194304→R [arg (EF w)] [] (.sl 0 1 (En w).length (ints (En w))) []
theorem Ad5 (w:World) (v j:Nat):Vs w v (j+1)=Vs w v j+(if Dl w j=(v:Int)then 1 else 0):=by
 unfold Vs
 simp only[Ach,Afh]
 by_cases h:Dl w j=(v:Int)<;>simp[h]
theorem AmJ (w:World) (v j:Nat):0≤Vs w v j∧Vs w v j≤j:=by
 have:=AeH (Afh w v) j
 unfold Vs;omega
theorem AhB (a b:List Int):0≤BJ a b∧BJ a b≤9:=by
 unfold BJ
 split
 ·rename_i h
  by_cases h3:common a b=[]
  ·rw[h3];simp[Y0]
  ·have h4:0<(common a b).length:=List.length_pos_iff.2 h3
   have h5:=Ayr (l:=common a b) ((An0 h.1).filter _) (fun x hx=>by have:=Awj h.1 x (List.mem_filter.1 hx).1;omega) h4
   rw[h5]
   have:=Awj h.1 _ (List.mem_filter.1 (List.getElem_mem (l:=common a b) (n:=(common a b).length-1) (by omega))).1
   omega
 ·simp
theorem RI (w:World) (i:Int):0≤Dl w i∧Dl w i≤9:=by
 unfold Dl
 split
 ·split
  ·unfold Qq
   split
   ·exact AhB _ _
   ·simp
  ·simp
 ·simp
theorem Ahy (w:World) (j b:Nat) (h:Dl w j=(b:Int)):(PG w j).set b (Vs w b j+1)=PG w (j+1):=by
 unfold PG
 apply List.ext_getElem
 ·simp
 ·intro n h1 h2
  simp only[List.length_map,List.length_range]at h2
  rw[List.getElem_set]
  simp only[List.getElem_map,List.getElem_range,Ad5,h]
  by_cases hn:b=n
  ·subst hn;simp
  ·rw[if_neg hn,if_neg (by omega)];simp
theorem Wl (D:Dn) (hB:TG (D ACj)):FO (Body D Gd):=by
 intro w hsz
 have hl:=JQ hsz
 have hres:En w=PG w w.ends.length:=rfl
 rw[hres,Qc]
 simp -implicitDefEqProofs
 refine Ae (fun k s=>∃j,j+k=w.ends.length∧s=⟨[.undef,.ptr 0 0,.undef,.arr 1,.undef,I w.ends.length,I j,.undef],[.var ((EF w).map (AZ 1)),.arr 1 0 10 (ints (PG w j))]⟩) ?_ (w.ends.length) _ ⟨0,by simp,by simp[PG,Vs,Ach,List.range,List.range.loop,ints]⟩
 intro k s ⟨j,hj,hs⟩
 subst hs
 by_cases hjn:j<w.ends.length
 ·have hw:IntKind.i64.wrap ((j:Int)+1)=(j+1:Nat):=by rw[Ad (by omega) (by omega)];simp
  simp -implicitDefEqProofs [hjn]
  refine Aa (hB w j hsz) ?_
  have hr:=RI w j
  obtain⟨b,hb⟩:∃b:Nat,Dl w j=(b:Int):=⟨(Dl w j).toNat,by omega⟩
  have hb9:b<10:=by omega
  have hb9i:(b:Int)<10:=by omega
  have hb9':b<(PG w j).length:=by rw[Qc];exact hb9
  have hset:=Ahy w j b hb
  have hc:=AmJ w b j
  have hwc:IntKind.i64.wrap (Vs w b j+1)=Vs w b j+1:=Ad (by omega) (by omega)
  rw[hb]
  simp -implicitDefEqProofs [Qc,hb9,hb9i,hb9',AlG hb9',hwc]
  exact⟨k-1,by omega,j+1,by omega,by simp[hw],by rw[hset]⟩
 ·obtain rfl:j=w.ends.length:=by omega
  simp -implicitDefEqProofs
def F5 (w:World) (n:Int):List Int:=Dm (En w) n
abbrev O6 (R:Rel):Prop:=∀(w:World) (n:Int),Ay w≤4194304→R [arg (EF w),I n] [] (.sl 0 1 (F5 w n).length (ints (F5 w n))) []
theorem Ae4 (D:Dn) (hV:FO (D AtA)) (hH:Oq (D Azl)):O6 (Body D Kq):=by
 intro w n hsz
 simp -implicitDefEqProofs
 refine Aa (hV w hsz) ?_
 simp -implicitDefEqProofs
 refine Aa (hH (En w) n (by rw[En,Qc];omega)) ?_
 simp -implicitDefEqProofs [F5]
end Go.Eng.T
namespace Go.Eng.T
set_option maxRecDepth 20000
def Wj (xs:List BA):Int:=xs.foldl (fun a l=>IntKind.i64.wrap (a+l.dialed.tries)) 0
theorem Ad7 {xs:List BA} {j:Nat} (h:j<xs.length):Wj (xs.take (j+1))=IntKind.i64.wrap (Wj (xs.take j)+xs[j].dialed.tries):=by
 unfold Wj
 rw[List.take_add_one,List.getElem?_eq_getElem h,List.foldl_append]
 rfl
theorem Al2 {xs:List BA} {j:Nat} (h:xs.length≤j):Wj (xs.take j)=Wj xs:=by rw[List.take_of_length_le h]
abbrev Ua (R:Rel):Prop:=∀w:World,w.log.length≤4194304→R [arg (EF w)] [] (I (Wj w.log)) []
theorem AhS (D:Dn):Ua (Body D MI):=by
 intro w hl
 simp -implicitDefEqProofs
 refine Ae (fun k s=>∃j o,j+k=w.log.length∧s=⟨[.undef,.undef,.undef,.sc (.int .i64 (Wj (w.log.take j))),.undef,.sl 1 8 w.log.length (w.log.flatMap Ar),.sc (.int .i64 w.log.length),.sc (.int .i64 j),.undef],[.var ((EF w).map (AZ 1)),o]⟩) ?_ w.log.length _ ⟨0,.free,by simp,by simp[Wj]⟩
 intro k s ⟨j,o,hj,hs⟩
 subst hs
 by_cases hjn:j<w.log.length
 ·have hw:IntKind.i64.wrap ((j:Int)+1)=(j+1:Nat):=by rw[Ad (by omega) (by omega)];simp
  simp -implicitDefEqProofs [hjn]
  exact⟨k-1,by omega,j+1,by omega,(Ad7 hjn).symm,by simp[hw]⟩
 ·have hx:=Al2 (xs:=w.log) (j:=j) (by omega)
  simp -implicitDefEqProofs [hjn,hx]
def byD (i:Int) (l:BA):Bool:=decide (l.fin=i)
abbrev Uq (R:Rel):Prop:=∀(w:World) (i:Int),w.log.length≤4194304→R [arg (EF w),I i] [] (I (cntF (byD i) w.log)) []
theorem Ahr (D:Dn):Uq (Body D Mv):=by
 intro w i hl
 simp -implicitDefEqProofs
 refine Ae (fun k s=>∃j o,j+k=w.log.length∧s=⟨[.undef,.sc (.int .i64 i),.undef,.undef,.sc (.int .i64 (cntF (byD i) (w.log.take j))),.undef,.sl 1 8 w.log.length (w.log.flatMap Ar),.sc (.int .i64 w.log.length),.sc (.int .i64 j),.undef,.undef],[.var ((EF w).map (AZ 1)),o]⟩) ?_ w.log.length _ ⟨0,.free,by simp,by simp[cntF]⟩
 intro k s ⟨j,o,hj,hs⟩
 subst hs
 by_cases hjn:j<w.log.length
 ·have hw:IntKind.i64.wrap ((j:Int)+1)=(j+1:Nat):=by rw[Ad (by omega) (by omega)];simp
  have hc:=Adn (f:=byD i) hjn
  have hcl:=ApG (f:=byD i) (xs:=w.log) (j:=j) (by omega)
  have hw2:IntKind.i64.wrap ((cntF (byD i) (w.log.take j):Int)+1)=(cntF (byD i) (w.log.take j)+1:Nat):=by rw[Ad (by omega) (by omega)];simp
  by_cases he:w.log[j].fin=i
  ·simp -implicitDefEqProofs [hjn,he]
   exact⟨k-1,by omega,j+1,by omega,by rw[hc,hw2];simp[byD,he],by simp[hw]⟩
  ·simp -implicitDefEqProofs [hjn,he]
   exact⟨k-1,by omega,j+1,by omega,by rw[hc];simp[byD,he],by simp[hw]⟩
 ·have hx:=Aia (f:=byD i) (xs:=w.log) (j:=j) (by omega)
  simp -implicitDefEqProofs [hjn,hx]
def U9 (l:BA):Bool:=l.dialed.deal.ok
abbrev Vj (R:Rel):Prop:=∀(w:World),w.log.length≤4194304→R [arg (EF w)] [] (.tup [I (cntF U9 w.log),I w.log.length]) []
theorem AiA (D:Dn):Vj (Body D MK):=by
 intro w hl
 simp -implicitDefEqProofs
 refine Ae (fun k s=>∃j o,j+k=w.log.length∧s=⟨[.undef,.ptr 0 0,.undef,.undef,.sc (.int .i64 (cntF U9 (w.log.take j))),.undef,.sl 1 8 w.log.length (w.log.flatMap Ar),.sc (.int .i64 w.log.length),.sc (.int .i64 j),.undef,.undef],[.var ((EF w).map (AZ 1)),o]⟩) ?_ w.log.length _ ⟨0,.free,by simp,by simp[cntF]⟩
 intro k s ⟨j,o,hj,hs⟩
 subst hs
 by_cases hjn:j<w.log.length
 ·have hw:IntKind.i64.wrap ((j:Int)+1)=(j+1:Nat):=by rw[Ad (by omega) (by omega)];simp
  have hc:=Adn (f:=U9) hjn
  have hcl:=ApG (f:=U9) (xs:=w.log) (j:=j) (by omega)
  have hw2:IntKind.i64.wrap ((cntF U9 (w.log.take j):Int)+1)=(cntF U9 (w.log.take j)+1:Nat):=by rw[Ad (by omega) (by omega)];simp
  by_cases he:w.log[j].dialed.deal.ok=true
  ·simp -implicitDefEqProofs [hjn,he]
   exact⟨k-1,by omega,j+1,by omega,by rw[hc,hw2];simp[U9,he],by simp[hw]⟩
  ·simp -implicitDefEqProofs [hjn,he]
   exact⟨k-1,by omega,j+1,by omega,by rw[hc];simp[U9,he],by simp[hw]⟩
 ·have hx:=Aia (f:=U9) (xs:=w.log) (j:=j) (by omega)
  simp -implicitDefEqProofs [hjn,hx]
end Go.Eng.T
namespace Go.Eng.T
set_option maxRecDepth 20000
set_option maxHeartbeats 2000000
theorem AjF {b:Gu} (h:Fe b=true):refuses b=false:=by
 obtain⟨l,d,s,t⟩:=b
 unfold Fe at h
 simp only[Bool.and_eq_true,decide_eq_true_eq,Bool.not_eq_true']at h
 obtain⟨h1,h2,h3,h4⟩:=h
 have h2':=List.eq_nil_of_length_eq_zero h2
 have h3':=List.eq_nil_of_length_eq_zero h3
 subst h1 h2' h3' h4
 decide +kernel
theorem Aeb {α:Type} {p:α→Bool}:∀(xs:List α) (i:Nat),(∀x,x∈xs→p x=false)→AgU p xs i=[]
 | [],_,_=>rfl
 | a::r,i,h=>by
  unfold AgU
  rw[if_neg (by rw[h a (by simp)];simp)]
  exact Aeb r (i+1) (fun x hx=>h x (by simp[hx]))
theorem Ahs {e:AL} (h:PS e=true):ES e.path=false:=by
 by_cases hc:ES e.path=true
 ·exfalso
  unfold ES at hc
  simp only[Bool.and_eq_true,decide_eq_true_eq,List.all_eq_true]at hc
  have:FW e.path=[]:=Aeb _ _ (fun x hx=>AjF (hc.2 x hx))
  unfold PS at h
  rw[this]at h
  simp at h
 ·simpa using hc
theorem AiW {xs:List BA} (h:∀x,x∈xs→Aeo x.dialed) (hl:xs.length≤100):∀j,j≤xs.length→(cntF U9 (xs.take j):Int)≤Wj (xs.take j)∧Wj (xs.take j)≤2*j
 | 0,_=>by simp[Wj,cntF]
 | j+1,hj=>by
  have hj':j<xs.length:=by omega
  obtain⟨h1,h2⟩:=AiW h hl j (by omega)
  obtain⟨t1,t2,t3⟩:=h xs[j] (List.getElem_mem hj')
  have c1:=Adn (f:=U9) hj'
  have w1:IntKind.i64.wrap (Wj (xs.take j)+xs[j].dialed.tries)=Wj (xs.take j)+xs[j].dialed.tries:=Ad (by omega) (by omega)
  rw[Ad7 hj',w1,c1]
  by_cases g:U9 xs[j]=true
  ·have:=t3 g
   rw[if_pos g]
   constructor<;>omega
  ·rw[if_neg g]
   constructor<;>omega
theorem Akk (xs:List BA):∀j:Nat,(∀x,x∈xs→0≤x.fin)→((List.range j).map fun i:Nat=>cntF (byD (i:Int)) xs).sum=cntF (fun x:BA=>decide (x.fin<(j:Int))) xs:=by
 intro j h
 induction xs with
 | nil=>induction j with
  | zero=>rfl
  | succ j ih=>rw[List.range_succ,List.map_append,List.sum_append,ih];simp[cntF]
 | cons x xs ih=>
  have h0:=h x (by simp)
  have ih':=ih (fun y hy=>h y (by simp[hy]))
  have e1:∀(f:BA→Bool),cntF f (x::xs)=(if f x then 1 else 0)+cntF f xs:=by intro f;by_cases g:f x<;>simp[cntF,g]<;>omega
  have e2:((List.range j).map fun i:Nat=>cntF (byD (i:Int)) (x::xs)).sum=((List.range j).map fun i:Nat=>if byD (i:Int) x then 1 else 0).sum+((List.range j).map fun i:Nat=>cntF (byD (i:Int)) xs).sum:=by
   clear ih ih'
   induction j with
   | zero=>rfl
   | succ j ihj=>rw[List.range_succ];simp only[List.map_append,List.sum_append,List.map_cons,List.map_nil,List.sum_cons,List.sum_nil];rw[ihj,e1];omega
  have e3:((List.range j).map fun i:Nat=>if byD (i:Int) x then 1 else 0).sum=(if x.fin<(j:Int)then 1 else 0):=by
   clear ih ih' e2
   induction j with
   | zero=>simp;omega
   | succ j ihj=>
    rw[List.range_succ]
    simp only[List.map_append,List.sum_append,List.map_cons,List.map_nil,List.sum_cons,List.sum_nil]
    rw[ihj]
    unfold byD
    by_cases g1:x.fin<(j:Int)<;>by_cases g2:x.fin=(j:Int)<;>by_cases g3:x.fin<((j+1:Nat):Int)
    all_goals first | (exfalso;omega) | (rw[if_pos g1,if_pos g3];simp[g2]) | (rw[if_neg g1,if_pos g3];simp[g2]) | (rw[if_neg g1,if_neg g3];simp[g2]) | skip
  rw[e2,e3,e1,ih']
  simp
theorem Akc {w:World} (h:RJ w.ends.length w):((List.range w.ends.length).map fun i:Nat=>cntF (byD (i:Int)) w.log).sum=w.log.length:=by
 rw[Akk _ _ (fun x hx=>(h x hx).1.1)]
 unfold cntF
 congr 1
 exact List.filter_eq_self.2 (fun x hx=>by simpa using(h x hx).1.2)
theorem Abw (w:World):∀j,(PG w j).sum=(j:Int)
 | 0=>by
  have:PG w 0=List.replicate 10 0:=by unfold PG Vs Ach;rfl
  rw[this];rfl
 | j+1=>by
  have ih:=Abw w j
  have hb:=RI w j
  unfold PG at ih⊢
  simp only[show List.range 10=[0,1,2,3,4,5,6,7,8,9]from rfl,List.map_cons,List.map_nil,List.sum_cons,List.sum_nil,Ad5]at ih⊢
  have hc:Dl w j=0∨Dl w j=1∨Dl w j=2∨Dl w j=3∨Dl w j=4∨Dl w j=5∨Dl w j=6∨Dl w j=7∨Dl w j=8∨Dl w j=9:=by omega
  rcases hc with h | h | h | h | h | h | h | h | h | h<;>rw[h]<;>simp<;>omega
theorem Amn {l:List Int} (h:∀x,x∈l→0≤x) {i:Nat} (hi:i<(Dm l 2).length):∃h':i<l.length,¬(Dm l 2)[i]=1∧(Dm l 2)[i]≤l[i]:=by
 by_cases hc:Qt l 2=true
 ·have e:Dm l 2=l.map (Na 2):=by unfold Dm;rw[if_pos hc]
  have h':i<l.length:=by rw[e]at hi;simpa using hi
  refine⟨h',?_⟩
  have h0:=h l[i] (List.getElem_mem h')
  have e2:(Dm l 2)[i]=Na 2 l[i]:=by simp[e]
  rw[e2]
  unfold Na
  split<;>constructor<;>omega
 ·have e:Dm l 2=[]:=by unfold Dm;rw[if_neg hc]
  rw[e]at hi
  simp at hi
end Go.Eng.T
namespace Go.Eng.T
set_option maxRecDepth 20000
set_option maxHeartbeats 4000000
theorem Ak7 {m:Int}:∀(l:List Int),(∀x,x∈l→0≤x∧x≤m)→0≤l.sum∧l.sum≤m*l.length
 | [],_=>by simp
 | a::l,h=>by
  have h1:=h a (by simp)
  have h2:=Ak7 l (fun x hx=>h x (by simp[hx]))
  simp only[List.sum_cons,List.length_cons,Int.natCast_add,Int.mul_add]
  constructor<;>omega
abbrev Afd (R:Rel):Prop:=∀xs:List Int,xs.length≤1000→(∀x,x∈xs→0≤x∧x≤1000000)→R [.sl 1 1 xs.length (ints xs)] [] (I xs.sum) []
theorem AmI (D:Dn):Afd (Body D P7):=by
 intro xs hl hx
 simp -implicitDefEqProofs
 refine Ae (fun k s=>∃j,j+k=xs.length∧s=⟨[.sl 1 1 xs.length (ints xs),.undef,I (xs.take j).sum,I ((j:Nat):Int),.undef],[]⟩) ?_ (xs.length) _ ⟨0,by simp,by simp⟩
 intro k s ⟨j,hj,hs⟩
 subst hs
 by_cases hjn:j<xs.length
 ·have hw:IntKind.i64.wrap ((j:Int)+1)=(j+1:Nat):=by rw[Ad (by omega) (by omega)];simp
  have h1:=Ak7 (xs.take j) (fun x h=>hx x (List.mem_of_mem_take h))
  have h2:=hx xs[j] (List.getElem_mem hjn)
  have h3:(xs.take j).length≤1000:=by simp;omega
  have hw2:IntKind.i64.wrap ((xs.take j).sum+xs[j])=(xs.take (j+1)).sum:=by
   have e:xs.take (j+1)=xs.take j++ [xs[j]]:=by simp
   rw[e,List.sum_append,Ad (by omega) (by omega)];simp
  simp -implicitDefEqProofs [hjn]
  exact⟨k-1,by omega,j+1,by omega,by rw[←hw2,←hw];exact⟨rfl,rfl⟩⟩
 ·have e:xs.take j=xs:=List.take_of_length_le (by omega)
  simp -implicitDefEqProofs [hjn,e]
abbrev PV (R:Rel):Prop:=∀bs:List Int,AmB bs→R [.sl 3 1 bs.length (u8s bs)] [] (B true) []
theorem Aee (D:Dn) (hBig:AmV (D AGG)) (dO:KZ (D Awu)) (hO:Vj (D ACr)) (hDB:Uq (D ACI)) (hVC:FO (D AtA)) (hRN:O6 (D AyX)) (hHE:Qm (D ABt))
 (hCP:Hg (D Acp)) (hSum:Afd (D AEW)) (hTO:Ua (D ACl)):PV (Body D Hq):=by
 intro bs hb
 simp -implicitDefEqProofs
 refine Aa (hBig bs hb.1) ?_
 by_cases hbig:1048576<bs.length
 ·simp -implicitDefEqProofs [hbig]
 have hBs:AoT bs:=⟨by omega,hb.2⟩
 simp -implicitDefEqProofs [hbig]
 obtain⟨w,hw,p1⟩:=dO bs hBs
 have hsz:=hw.sz
 have hll:w.log.length≤60:=(AiY hw.ok).2.1
 simp -implicitDefEqProofs [EF]at p1
 refine Aa (p1) ?_
 clear p1
 simp -implicitDefEqProofs
 have p2:=hO w (by omega)
 simp -implicitDefEqProofs at p2
 refine Aa (p2) ?_
 clear p2
 simp -implicitDefEqProofs
 obtain⟨ds,hds⟩:∃ds:Nat→Nat,ds=fun j=>((List.range j).map fun i:Nat=>cntF (byD (i:Int)) w.log).sum:=⟨_,rfl⟩
 have hd0:ds 0=0:=by rw[hds];rfl
 have hdn:ds w.ends.length=w.log.length:=by rw[hds];exact Akc hw.log
 have hds1:∀j,ds (j+1)=ds j+cntF (byD (j:Int)) w.log:=by intro j;rw[hds];simp[List.range_succ]
 have hdb:∀j,ds j≤60*j:=by
  intro j
  induction j with
  | zero=>omega
  | succ j ih=>
   have h1:cntF (byD (j:Int)) w.log≤w.log.length:=List.length_filter_le _ _
   rw[hds1];omega
 clear hds
 have hen:=(Cg.1 hw.ok).few
 refine Ae (fun k s=>∃j,j+k=w.ends.length∧s=⟨[.undef,.undef,.ptr 6 0,I (cntF U9 w.log),I w.log.length,I (ds j),I ((j:Nat):Int),.undef,.undef,.undef,.undef,.undef,.undef,.undef,.undef,.undef,.undef,.undef],
  [.arr 1 0 w.server.length (ints w.server),.arr 1 0 w.tags.length (ints w.tags),.arr 4 0 w.ends.length (w.ends.flatMap Ak),.arr 1 0 w.rollout.stages.length (ints w.rollout.stages),.arr 5 0 w.stage.length (w.stage.flatMap AP),.arr 8 0 w.log.length (w.log.flatMap Ar),
   .var [.arr 0,.arr 1,I w.key,.arr 2,I w.rollout.version,.arr 3,I w.rollout.pos,B w.rollout.off,I w.least,I w.percent,.arr 4,.arr 5,I w.now,I w.hurt,I w.reached],.free,.free,.free]⟩) ?_ (w.ends.length) _ ⟨0,by simp,by simp[hd0]⟩
 intro k s ⟨j,hj,hs⟩
 subst hs
 by_cases hjn:j<w.ends.length
 ·have hw1:IntKind.i64.wrap ((j:Int)+1)=(j+1:Nat):=by rw[Ad (by omega) (by omega)];simp
  have hb1:=hdb (j+1)
  have hs1:=hds1 j
  have hw2:IntKind.i64.wrap ((ds j:Int)+(cntF (byD (j:Int)) w.log:Nat))=(ds (j+1):Nat):=by rw[hs1,Ad (by omega) (by omega)];simp
  simp -implicitDefEqProofs [hjn]
  refine Aa (hDB w j (by omega)) ?_
  simp -implicitDefEqProofs
  exact⟨k-1,by omega,j+1,by omega,by rw[←hw2,←hw1];exact⟨rfl,rfl⟩⟩
 have hje:j=w.ends.length:=by omega
 subst hje
 simp -implicitDefEqProofs
 refine Aa (hVC w (by omega)) ?_
 simp -implicitDefEqProofs
 refine Aa (hRN w 2 (by omega)) ?_
 have hcs:=Abw w w.ends.length
 simp -implicitDefEqProofs
 have hvl:(En w).length=10:=Qc _ _
 have hnn:∀x,x∈En w→0≤x∧x≤1000000:=by
  intro x hx
  obtain⟨v,hv,rfl⟩:=List.mem_map.1 hx
  unfold Vs
  have h1:Ach (Afh w v) w.ends.length≤w.ends.length:=AeH _ _
  constructor<;>omega
 have hrl:(F5 w 2).length≤10:=by
  unfold F5 Dm
  split
  ·simp[hvl]
  ·simp
 have hrep:∀(i:Nat) (hi:i<(F5 w 2).length),∃h':i<(En w).length,¬(F5 w 2)[i]=1∧(F5 w 2)[i]≤(En w)[i]:=fun i hi=>Amn (l:=En w) (fun x hx=>(hnn x hx).1) hi
 generalize F5 w 2=rp at hrl hrep
 have hcs2:(En w).sum=w.ends.length:=hcs
 generalize En w=vc at hvl hnn hrep hcs2
 refine Ae (fun k s=>∃j,j+k=rp.length∧s=⟨[.undef,.undef,.ptr 6 0,I (cntF U9 w.log),I w.log.length,I (ds w.ends.length),.undef,.arr 7,.arr 8,I ((j:Nat):Int),.undef,.undef,.undef,.undef,.undef,.undef,.undef,.undef],
  [.arr 1 0 w.server.length (ints w.server),.arr 1 0 w.tags.length (ints w.tags),.arr 4 0 w.ends.length (w.ends.flatMap Ak),.arr 1 0 w.rollout.stages.length (ints w.rollout.stages),.arr 5 0 w.stage.length (w.stage.flatMap AP),.arr 8 0 w.log.length (w.log.flatMap Ar),
   .var [.arr 0,.arr 1,I w.key,.arr 2,I w.rollout.version,.arr 3,I w.rollout.pos,B w.rollout.off,I w.least,I w.percent,.arr 4,.arr 5,I w.now,I w.hurt,I w.reached],.arr 1 0 vc.length (ints vc),.arr 1 0 rp.length (ints rp),.free]⟩) ?_ (rp.length) _ ⟨0,by simp,by simp⟩
 intro k s ⟨j,hj,hs⟩
 subst hs
 by_cases hjn:j<rp.length
 ·have hw1:IntKind.i64.wrap ((j:Int)+1)=(j+1:Nat):=by rw[Ad (by omega) (by omega)];simp
  obtain⟨hjv,hr1,hr2⟩:=hrep j hjn
  have hr3:¬vc[j]<rp[j]:=by omega
  simp -implicitDefEqProofs [hjn,hjv,hr1,hr3]
  exact⟨k-1,by omega,j+1,by omega,by rw[←hw1]⟩
 simp -implicitDefEqProofs [hjn]
 refine Aa (hHE w (by omega)) ?_
 simp -implicitDefEqProofs
 have hhm:∀x,x∈Nu w→∃(j:Nat) (h:j<w.ends.length),x=(j:Int)∧ES w.ends[j].path=false:=by
  intro x hx
  obtain⟨j,hj,h1,h2⟩:=(Af9 _ _ _).1 hx
  exact⟨j,hj,by simpa using h1,Ahs h2⟩
 have hhl:(Nu w).length≤w.ends.length:=Az6 _ _
 generalize Nu w=hd at hhm hhl
 refine Ae (fun k s=>∃j,j+k=hd.length∧s=⟨[.undef,.undef,.ptr 6 0,I (cntF U9 w.log),I w.log.length,I (ds w.ends.length),.undef,.arr 7,.undef,.undef,.arr 9,I ((j:Nat):Int),.undef,.undef,.undef,.undef,.undef,.undef],
  [.arr 1 0 w.server.length (ints w.server),.arr 1 0 w.tags.length (ints w.tags),.arr 4 0 w.ends.length (w.ends.flatMap Ak),.arr 1 0 w.rollout.stages.length (ints w.rollout.stages),.arr 5 0 w.stage.length (w.stage.flatMap AP),.arr 8 0 w.log.length (w.log.flatMap Ar),
   .var [.arr 0,.arr 1,I w.key,.arr 2,I w.rollout.version,.arr 3,I w.rollout.pos,B w.rollout.off,I w.least,I w.percent,.arr 4,.arr 5,I w.now,I w.hurt,I w.reached],.arr 1 0 vc.length (ints vc),.arr 1 0 rp.length (ints rp),.arr 1 0 hd.length (ints hd)]⟩) ?_ (hd.length) _ ⟨0,by simp,by simp⟩
 intro k s ⟨j2,hj2,hs⟩
 subst hs
 by_cases hjh:j2<hd.length
 ·have hw1:IntKind.i64.wrap ((j2:Int)+1)=(j2+1:Nat):=by rw[Ad (by omega) (by omega)];simp
  obtain⟨i,hi,e1,e2⟩:=hhm hd[j2] (List.getElem_mem hjh)
  have hz:=size_at (f:=Ac) hi
  have hz2:Ac w.ends[i]≤4200:=by unfold Ay at hsz;omega
  have hln:=(XR (e:=w.ends[i]) (by omega)).2.2
  simp -implicitDefEqProofs [hjh,e1,hi]
  refine Aa (hCP w.ends[i].path hln) ?_
  simp -implicitDefEqProofs [e2]
  exact⟨k-1,by omega,j2+1,by omega,by rw[←hw1]⟩
 have ht:=AiW (xs:=w.log) (fun x hx=>by obtain⟨_,w0,i0,h0⟩:=hw.log x hx;rw[h0];exact AeX w0 i0) (by omega) w.log.length (Nat.le_refl _)
 rw[List.take_length]at ht
 have hck:cntF U9 w.log≤w.log.length:=List.length_filter_le _ _
 have hw3:IntKind.i64.wrap (2*(w.log.length:Int))=2*(w.log.length:Int):=Ad (by omega) (by omega)
 have hq1:((cntF U9 w.log:Nat):Int)≤(w.log.length:Int):=by omega
 simp -implicitDefEqProofs [hjh,hdn,hck,hq1]
 have ps:=hSum vc (by omega) hnn
 rw[hcs2]at ps
 refine Aa (ps) ?_
 simp -implicitDefEqProofs
 have pt:=hTO w (by omega)
 refine Aa (pt) ?_
 simp -implicitDefEqProofs [ht.1]
 refine Aa (pt) ?_
 simp -implicitDefEqProofs [hw3,ht.2]
end Go.Eng.T
namespace Go.Eng
open Go.Lib Go.RowKit
inductive AaM (Af:Nat→Option FuncId) (w:World):List V→List Value→Prop where
 | nil:AaM Af w [] []
 | sc {v:Value} {azs:List V} {xs:List Value} (h:AaM Af w azs xs):AaM Af w (.sc v::azs) (v::xs)
 | sl {e len:Nat} {cells:List V} {x:Value} {azs:List V} {xs:List Value} (h1:Rd Af w (· <w.heap.size) (.sl 1 e len cells) x) (h:AaM Af w azs xs):AaM Af w (.sl 1 e len cells::azs) (x::xs)
def Au7:V→Prop
 | .sc _=>True
 | .sl 1 _ _ _=>True
 | _=>False
theorem AeA {F:Fr} {w:World} {β:Nat→Base} {own:Nat→Option (Nat×List Nat)} {H:Hp} (hw:w=F.w0):∀ {azs:List V} {xs:List Value},(∀a,a∈azs→Au7 a)→Pw (VR F β own H w) azs xs→AaM F.Af w azs xs
 | [],xs,_,h=>by rw[h.Np];exact .nil
 | a::azs,xs,hp,h=>by
  obtain⟨x,r,rfl,h1,h2⟩:=h.IG
  have ih:=AeA hw (fun a ha=>hp a (List.mem_cons_of_mem _ ha)) h2
  have ha:=hp a (by simp)
  cases h1 with
  | sc h=>exact .sc ih
  | @rd fl e len cells _ h3 h=>
   match fl,ha,h with
   | 1,_,h=>exact .sl (Rd.move h (fun b hb=>by rw[hw];exact hb.1) (fun _ _=>rfl)) ih
  | _=>exact absurd ha (by simp[Au7])
theorem Az3 {P:Program} {Af:Nat→Option FuncId} {G:Gl} {g:Nat} {args:List V} {v:Value} (hv:v.oneCell' =true) (hp':∀a,a∈args→Au7 a)
 (h:∀id,Af g=some id→∀w:World,(∀b,G b→b<w.heap.size∧w.heap[b]? =G.is b)→∀xs,AaM Af w args xs→Calls P id xs.toArray w fun e w'=>e= .returned v∧Below w.heap.size w w'):Den P Af G g args [] (.sc v) []:=by
 intro id hid F hF hG hb ht hn inv xs hx
 have hr:=AeA (F:=F) rfl hp' hx
 rw[hF]at hr
 refine(h id hid F.w0 (fun b hb=> ?_) xs hr).mono fun e w' ⟨he,hw⟩=> ?_
 ·have:=inv.glob b (by rw[hG];exact hb)
  exact⟨this.1,by rw[←hG];exact this.2.2⟩
 ·subst he
  refine⟨F.own0,⟨hw.size,hw.os,hw.tape,hw.output,fun b hb _=>hw.block b hb,fun b p hb=>⟨Nat.lt_of_lt_of_le (inv.ownb b p hb).1 hw.size,fun _=> ?_⟩,.sc hv,hn.symm,fun i o hi=> ?_⟩⟩
  ·rw[hb];simp
  ·simp at hi
end Go.Eng
namespace Go.Eng
open Go.Lib Go.RowKit Go.Sort
def iv (l:List Int):List Value:=l.map (Value.int .i64)
@[simp] theorem AuU (l:List Int):(iv l).length=l.length:=by simp[iv]
theorem YO (l:List Int):Fy (iv l):=by
 intro v hv
 simp only[iv,List.mem_map]at hv
 obtain⟨x,_,rfl⟩:=hv
 rfl
structure Kept (F:Fr) (w':World):Prop where
 size:F.w0.heap.size≤w'.heap.size
 os:w'.os=F.w0.os
 tape:w'.tape=F.w0.tape
 output:w'.output=F.w0.output
 keep:∀b,b<F.w0.heap.size→F.own0 b=none→w'.heap[b]? =F.w0.heap[b]?
theorem Kept.refl (F:Fr):Kept F F.w0:=⟨Nat.le_refl _,rfl,rfl,rfl,fun _ _ _=>rfl⟩
theorem YL {P:Program} {Af:Nat→Option FuncId} {G:Gl} {g:Nat} {args:List V} {given:List O} {l':List Int}
 (h:∀id,Af g=some id→∀F:Fr,F.Af=Af→Inv F F.β0 F.own0 (hp given) F.w0→∀xs,Pw (VR F F.β0 F.own0 (hp given) F.w0) args xs→
  Calls P id xs.toArray F.w0 fun e w'=>∃a cap,e= .returned (.slice a l'.length cap)∧(l'.length≤cap∧cap≤9223372036854775807)∧(cap=0∨∃b o,a=some ⟨b,o,none⟩∧Has w' b o (iv l') cap∧(b<F.w0.heap.size→F.own0 b≠none))∧Kept F w'):
 Den P Af G g args given (.sl 0 1 l'.length (T.ints l')) (given.map fun _=> .dead):=by
 intro id hid F hF hG hb ht hn inv xs hx
 refine(h id hid F hF inv xs hx).mono fun e w' ⟨a,cap,he,hl,hm,hk⟩=> ?_
 subst he
 have hcs:∀own (i:Nat) (v:V) (x:Value),(T.ints l')[i]? =some v→(iv l')[i]? =some x→Ow F.Af w' own (fun _ b=>F.G b) 0 F.ngiven ([]++ [i]) v x:=by
  intro own i v x h1 h2
  by_cases hi:i<l'.length
  ·rw[T.ints_at hi]at h1
   simp only[iv,List.getElem?_map,hi,List.getElem?_eq_getElem,Option.map_some,Option.some.injEq]at h1 h2
   subst h1 h2
   exact .sc rfl
  ·rw[List.getElem?_eq_none (by simp;omega)]at h1;cases h1
 rcases hm with hm | ⟨b,o,rfl,hhas,hown⟩
 ·refine⟨fun _=>none,⟨hk.size,hk.os,hk.tape,hk.output,hk.keep,fun b p h=>(by cases h),.own hl (by simp) (by simp) (.inl (by omega)) (hcs _),by simp[hn],fun i o hi=> ?_⟩⟩
  simp only[List.getElem?_map,Option.map_eq_some_iff]at hi
  obtain⟨_,_,rfl⟩:=hi
  trivial
 ·refine⟨fun b'=>if b' =b then some (F.ngiven,[])else none,⟨hk.size,hk.os,hk.tape,hk.output,hk.keep,fun b' p h=> ?_,.own hl (by simp) (by simp) (.inr ⟨b,o,rfl,if_pos rfl,by rw[Nat.mul_one];exact hhas⟩) (hcs _),by simp[hn],fun i o' hi=> ?_⟩⟩
  ·by_cases e:b' =b
   ·subst e;exact⟨Py hhas,hown⟩
   ·rw[if_neg e]at h;cases h
  ·simp only[List.getElem?_map,Option.map_eq_some_iff]at hi
   obtain⟨_,_,rfl⟩:=hi
   trivial
end Go.Eng
namespace Go.Eng.T
open Go.Lib Go.RowKit
theorem Aqd {Af:Nat→Option FuncId} {w:Go.World} {P:Nat→Prop} {l:List Int} {x:Value} (h:Rd Af w P (.sl 1 1 l.length (ints l)) x):
 ∃a cap,x= .slice a l.length cap∧l.length≤cap∧(l=[]∨∃b o,a=some ⟨b,o,none⟩∧P b∧∀j,j<l.length→w.cell? ⟨b,o+j,none⟩=some (.int .i64 (l.getD j 0))):=by
 cases h with
 | @sl _ _ _ _ a cap vs hle hwd hvl hm hcs=>
  refine⟨a,cap,rfl,hle,?_⟩
  rcases hm with hm | ⟨b,o,rfl,hbk,hr⟩
  ·left
   cases l with
   | nil=>rfl
   | cons x r=>simp[ints]at hm
  ·right
   have hvlen:vs.length=l.length:=by rw[hvl];simp
   refine⟨b,o,rfl,hbk,fun j hj=> ?_⟩
   rw[hr.2 j (by omega)]
   have hv:vs[j]? =some vs[j]:=by simp
   rw[hv]
   have hrd:=hcs j (.sc (.int .i64 l[j])) vs[j] (by simp[ints,hj]) hv
   generalize vs[j]=y at hrd⊢
   cases hrd with
   | sc _=>simp[hj]
theorem AC1 {P:Program} {Af:Nat→Option FuncId} {G:Gl} {g k:Nat} (hid:Af g=some k)
 (hc:∀(b off n c:Nat) (zs:List Int) (w:Go.World),0<n→n≤zs.length→n≤9223372036854775807→(∀j,j<zs.length→w.cell? ⟨b,off+j,none⟩=some (.int .i64 (zs.getD j 0)))→
  Calls P k #[.slice (some ⟨b,off,none⟩) n c] w fun e w'=>e= .returned (.int .i64 (Lib.maxOf (zs.take n)))∧w' =w):AFq (Den P Af G g):=by
 intro xs h1 h2
 refine Az3 (v:= .int .i64 (ADR xs)) rfl (fun a ha=> ?_) ?_
 ·simp only[List.mem_singleton]at ha;subst ha;trivial
 intro id hi w hw ys hx
 rw[hid]at hi
 cases hi
 cases hx with
 | sl h3 h4=>
  cases h4
  obtain⟨a,cap,rfl,hle,hm⟩:=Aqd h3
  rcases hm with rfl | ⟨b,o,rfl,hb,hcell⟩
  ·simp at h1
  ·refine(hc b o xs.length cap xs w h1 (Nat.le_refl _) (by omega) hcell).mono fun e w' ⟨he,hw'⟩=>⟨?_,by rw[hw'];exact Below.refl _ _⟩
   rw[he,List.take_length];rfl
theorem Aud {w:Go.World} {base:Nat} {t:TypeId} {v:Value} {l:List Int} (h:w.ownsRow base t 1 v l.length (iv l)):
 ∃a cap,v= .slice a l.length cap∧(l.length≤cap∧cap≤9223372036854775807)∧(cap=0∨∃b o,a=some ⟨b,o,none⟩∧Has w b o (iv l) cap∧base≤b):=by
 obtain⟨_,h | ⟨g,cap,cur,rfl,h1,h2,h3,h4,h5,h6⟩⟩:=h
 ·obtain⟨rfl,h⟩:=h
  exact⟨none,0,by rw[h],⟨by omega,by omega⟩,.inl rfl⟩
 ·refine⟨_,cap,rfl,⟨h3,by unfold maxLen at h4;omega⟩,.inr ⟨g,0,rfl,⟨YO l,cur,t,h2,by omega,by simpa using h3,fun i hi=> ?_⟩,h1⟩⟩
  rw[Nat.zero_add,←h6,Nat.mul_one]
  simp only[AuU]at hi
  rw[List.getElem?_take,if_pos hi,Array.getElem?_toList]
theorem Au3 {F:Fr} {w':Go.World} (h:Below F.w0.heap.size F.w0 w'):Kept F w':=⟨h.size,h.os,h.tape,h.output,fun b hb _=>h.block b hb⟩
theorem Ayd {P:Program} {Af:Nat→Option FuncId} {G:Gl} {g k:Nat} {t:TypeId} (hid:Af g=some k)
 (hn:∀(n c:Nat) (w:Go.World),Calls P k #[.slice none n c] w fun e w'=>e= .returned (.slice none 0 0)∧w' =w)
 (hz:∀(a:Addr) (c:Nat) (w:Go.World),Calls P k #[.slice (some a) 0 c] w fun e w'=>∃v',e= .returned v'∧w'.ownsRow w.heap.size t 1 v' 0 []∧v'≠ .slice none 0 0∧Below w.heap.size w w')
 (hc:∀(b off n c:Nat) (zs:List Int) (w:Go.World),n≤zs.length→n*8≤140737488355328→(∀j,j<zs.length→w.cell? ⟨b,off+j,none⟩=some (.int .i64 (zs.getD j 0)))→
  Calls P k #[.slice (some ⟨b,off,none⟩) n c] w fun e w'=>∃v',e= .returned v'∧w'.ownsRow w.heap.size t 1 v' n ((zs.take n).map (Value.int .i64))∧v'≠ .slice none 0 0∧Below w.heap.size w w'):At5 (Den P Af G g):=by
 intro l hl
 refine YL (given:=[]) (l':=l) fun id hi F hF inv xs hx=> ?_
 rw[hid]at hi
 cases hi
 have hr:=AeA (F:=F) rfl (fun a ha=>by simp only[List.mem_singleton]at ha;subst ha;trivial) hx
 cases hr with
 | sl h3 h4=>
  cases h4
  obtain⟨a,cap,rfl,hle,hm⟩:=Aqd h3
  have fin:∀ {v':Value} {w':Go.World},w'.ownsRow F.w0.heap.size t 1 v' l.length (iv l)→Below F.w0.heap.size F.w0 w'→
   ∃a cap,Ending.returned v' = .returned (.slice a l.length cap)∧(l.length≤cap∧cap≤9223372036854775807)∧(cap=0∨∃b o,a=some ⟨b,o,none⟩∧Has w' b o (iv l) cap∧(b<F.w0.heap.size→F.own0 b≠none))∧Kept F w':=by
   intro v' w' ho hb
   obtain⟨a,cap,rfl,h5,h6⟩:=Aud ho
   refine⟨a,cap,rfl,h5,?_,Au3 hb⟩
   rcases h6 with h6 | ⟨b,o,h7,h8,h9⟩
   ·exact .inl h6
   ·exact .inr ⟨b,o,h7,h8,fun h=>absurd h (by omega)⟩
  rcases hm with rfl | ⟨b,o,rfl,hb,hcell⟩
  ·cases a with
   | none=>exact(hn _ _ _).mono fun e w' ⟨he,hw⟩=>⟨none,0,he,⟨by simp,by omega⟩,.inl rfl,by rw[hw];exact Kept.refl F⟩
   | some a=>exact(hz a cap F.w0).mono fun e w' ⟨v',he,hown,_,hbel⟩=>by subst he;exact fin hown hbel
  ·exact(hc b o l.length cap l F.w0 (Nat.le_refl _) (by omega) hcell).mono fun e w' ⟨v',he,hown,_,hbel⟩=>by
    subst he
    rw[List.take_length]at hown
    exact fin hown hbel
end Go.Eng.T
namespace Go.Proofs
open Go.Shelf
def Tryz.AsH:Go.Shelf.Ren:=⟨fun | 113=>334 | n=>n,fun | 28=>22 | 3=>3 | 4=>4 | 9=>9 | 20=>20 | 0=>0 | n=>n,fun | n=>n⟩
theorem Tryz.AEy:Go.Proofs.Lays.n113 Tryz.prog Tryz.AsH:={
 mixed:=by kernel_rfl
 f113:=Tryz.func334.trans (congrArg some (by kernel_rfl))
 t0:=Tryz.underlying0
 a0:=Tryz.isAgg0
 z0:=Tryz.sizeOf0
 v0:=Tryz.zeroValue0
 t3:=Tryz.underlying3
 a3:=Tryz.isAgg3
 z3:=Tryz.sizeOf3
 v3:=Tryz.zeroValue3
 t4:=Tryz.underlying4
 a4:=Tryz.isAgg4
 z4:=Tryz.sizeOf4
 v4:=Tryz.zeroValue4
 t9:=Tryz.underlying9
 a9:=Tryz.isAgg9
 z9:=Tryz.sizeOf9
 v9:=Tryz.zeroValue9
 t20:=Tryz.underlying20
 a20:=Tryz.isAgg20
 z20:=Tryz.sizeOf20
 v20:=Tryz.zeroValue20
 t28:=Tryz.underlying22
 a28:=Tryz.isAgg22
 z28:=Tryz.sizeOf22
 v28:=Tryz.zeroValue22}
open Go.Lib in
theorem Tryz.slices_Max_int (b off n c:Nat) (zs:List Int) (w:World) (hn:0<n) (hz:n≤zs.length) (hbig:n≤9223372036854775807) (hc:∀j,j<zs.length→w.cell? ⟨b,off+j,none⟩=some (.int .i64 (zs.getD j 0))):
 Calls Tryz.prog 334 #[.slice (some ⟨b,off,none⟩) n c] w fun e w'=>e= .returned (.int .i64 (Lib.maxOf (zs.take n)))∧w' =w:=Any.slices_Max_int Tryz.AEy b off n c zs w hn hz hbig hc
def Tryz.Ann:Go.Shelf.Ren:=⟨fun | 15=>306 | n=>n,fun | 22=>22 | 3=>3 | 4=>4 | n=>n,fun | n=>n⟩
theorem Tryz.AdS:Go.Proofs.Lays2.n15 Tryz.prog Tryz.Ann:={
 mixed:=by kernel_rfl
 f15:=Tryz.func306.trans (congrArg some (by kernel_rfl))
 t3:=Tryz.underlying3
 a3:=Tryz.isAgg3
 z3:=Tryz.sizeOf3
 v3:=Tryz.zeroValue3
 t4:=Tryz.underlying4
 a4:=Tryz.isAgg4
 z4:=Tryz.sizeOf4
 v4:=Tryz.zeroValue4
 t22:=Tryz.underlying22
 a22:=Tryz.isAgg22
 z22:=Tryz.sizeOf22
 v22:=Tryz.zeroValue22
 i3:=by kernel_rfl}
open Go.RowKit Go.Lib in
theorem Tryz.slices_Clone_int (b off n c:Nat) (zs:List Int) (w:World) (hz:n≤zs.length) (hbig:n*8≤140737488355328) (hc:∀j,j<zs.length→w.cell? ⟨b,off+j,none⟩=some (.int .i64 (zs.getD j 0))):
 Calls Tryz.prog 306 #[.slice (some ⟨b,off,none⟩) n c] w fun e w'=>∃v',e= .returned v'∧w'.ownsRow w.heap.size 3 1 v' n ((zs.take n).map (Value.int .i64))∧v'≠ .slice none 0 0∧Below w.heap.size w w':=Any.slices_Clone_int Tryz.AdS b off n c zs w hz hbig hc
open Go.RowKit Go.Lib in
theorem Tryz.slices_Clone_int_nil (n c:Nat) (w:World):
 Calls Tryz.prog 306 #[.slice none n c] w fun e w'=>e= .returned (.slice none 0 0)∧w' =w:=Any.slices_Clone_int_nil Tryz.AdS n c w
open Go.RowKit Go.Lib in
theorem Tryz.slices_Clone_int_zero (a:Addr) (c:Nat) (w:World):
 Calls Tryz.prog 306 #[.slice (some a) 0 c] w fun e w'=>∃v',e= .returned v'∧w'.ownsRow w.heap.size 3 1 v' 0 []∧v'≠ .slice none 0 0∧Below w.heap.size w w':=Any.slices_Clone_int_zero Tryz.AdS a c w
end Go.Proofs
namespace Go.Eng.T
theorem AoW {cs:List V} (h:Dat (.int .u8) cs):∃n:Int,cs=[V.sc (.int .u8 n)]∧(0≤n∧n≤255):=by
 simp only[Dat]at h
 obtain⟨n,h1,h2⟩:=h
 simp only[Lit.wf,IntKind.min,IntKind.max,IntKind.bits,IntKind.signed,Bool.and_eq_true,decide_eq_true_eq]at h1
 exact⟨n,h2,by simpa using h1.1,by simpa using h1.2⟩
theorem Apo {avs:List V} (h:Aav avs):∃bs:List Int,(bs.length≤maxLen∧∀b,b∈bs→0≤b∧b≤255)∧avs=[.sl 3 1 bs.length (u8s bs)]:=by
 obtain⟨c,hd,rfl⟩:=h
 obtain⟨ds,h1,h2,h3⟩:=Akz (f:=fun n=> [V.sc (.int .u8 n)]) (p:=fun n:Int=>0≤n∧n≤255) (fun cs h=>AoW h) hd
 refine⟨ds,⟨h2,h3⟩,?_⟩
 have e:ds.flatMap (fun n=> [V.sc (.int .u8 n)])=u8s ds:=by
  clear h1 h2 h3
  induction ds with
  | nil=>rfl
  | cons a ds ih=>rw[List.flatMap_cons,ih];rfl
 rw[e]at h1
 have h4:c= .sl 0 (Ty.int IntKind.u8).cells ds.length (u8s ds):=by simpa using h1
 rw[h4]
 rfl
theorem FP {R R':Rel} (h:∀a gi r o,R a gi r o→R' a gi r o) {args:List V} {c:Cur} {α:Type} {P:α→Prop} {res:α→V} (hd:Rs R args c P res):Rs R' args c P res:=by
 obtain⟨a,c',h1,h2,h3⟩:=hd
 exact⟨a,c',h1,h2,h _ _ _ _ h3⟩
theorem Ald {R R':Rel} (h:∀a gi r o,R a gi r o→R' a gi r o) {bs:List Int} {α:Type} {P:α→Prop} {res:α→V} (hd:Ajj R bs P res):Ajj R' bs P res:=by
 obtain⟨a,h1,h3⟩:=hd
 exact⟨a,h1,h _ _ _ _ h3⟩
theorem Anq {R R':Rel} (h:∀a gi r o,R a gi r o→R' a gi r o) {args:List V} (hd:∃c:Cur,Fg c∧R args [] (.rptr 0 (CR c) 0) []):∃c:Cur,Fg c∧R' args [] (.rptr 0 (CR c) 0) []:=by
 obtain⟨c,h1,h3⟩:=hd
 exact⟨c,h1,h _ _ _ _ h3⟩
end Go.Eng.T
