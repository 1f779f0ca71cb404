/- Own work: part 50 of the proof of FnEvents. -/
import Derived.Test.YtfdnolfnbmnafaaGreatEngAR
import Derived.Below
import Derived.Sort.Grow
import Derived.Deep.Draws
import Derived.Lib.LaidTab
import Derived.Sort.Row
import Derived.Laws.IdiomCopy
import Derived.Lib.Slices
import Derived.Lib.SlicesCompact
import Derived.Laws.AppendOwn
import Derived.Lib.RowBridge
set_option linter.unusedSimpArgs false
set_option linter.unusedVariables false
namespace Go.Eng.T
set_option maxRecDepth 20000
set_option maxHeartbeats 1000000
structure Cur where
 bs:List Int
 i:Nat
 h:Int
def u8s (bs:List Int):List V:=bs.map fun b=> .sc (.int .u8 b)
abbrev AGZ (c:Cur):List V:=[.sl 3 1 c.bs.length (u8s c.bs),.sc (.int .i64 c.i),.sc (.int .i64 c.h)]
def AO2 (c:Cur):Prop:=c.bs.length≤1048576∧(∀b,b∈c.bs→0≤b∧b≤255)∧c.i≤c.bs.length
def ARs (R:Rel) (args:List V) (c:Cur) {α:Type} (P:α→Prop) (res:α→V):Prop:=∃a c',P a∧AO2 c'∧R (.ptr 0 0::args) [.var (AGZ c)] (res a) [.var (AGZ c')]
theorem APS {D:Dn} {f:Bp} {args:List V} {c:Cur} {α:Type} {P:α→Prop} {res:α→V} (h:∀Q:V→List O→Prop,(∀a c',P a→AO2 c'→Q (res a) [.var (AGZ c')])→AU6 D f (.ptr 0 0::args) [.var (AGZ c)] Q):
 ARs (Body D f) args c P res:=by
 obtain⟨v,o,⟨a,c',h1,h2,rfl,rfl⟩,h3⟩:=AT8 (P:=fun v o=>∃a c',P a∧AO2 c'∧v=res a∧o=[.var (AGZ c')]) (fun Q hQ=>h Q (fun a c' h1 h2=>hQ _ _ ⟨a,c',h1,h2,rfl,rfl⟩))
 exact⟨a,c',h1,h2,h3⟩
@[simp high] theorem AW4 {bs:List Int} {j:Nat} (h:j<bs.length):(u8s bs)[j]? =some (.sc (.int .u8 bs[j])):=by simp[u8s,h]
@[simp high] theorem AWT (bs:List Int):(u8s bs).length=bs.length:=by simp[u8s]
@[simp] theorem AXa (bs:List Int) (fl:Nat):(u8s bs).map (Be fl)=u8s bs:=by simp[u8s,Be]
abbrev ASV (R:Rel):Prop:=∀c:Cur,AO2 c→ARs R [] c (fun x:Int=>0≤x∧x≤255) (fun x=>I x)
theorem AVQ (n:Nat):∃x:Nat,x≤255∧IntKind.i64.wrap ((n&&&255 % 2 ^ IntKind.i64.bits:Nat):Int)=x:=by
 have e:(255 % 2 ^ IntKind.i64.bits:Nat)=255:=by decide
 rw[e]
 have h:n&&&255≤255:=Nat.and_le_right
 exact⟨n&&&255,h,Ab (by omega) (by omega)⟩
theorem AVT (D:Dn):ASV (Body D AQg):=by
 intro c hc
 refine APS (fun Q hQ=> ?_)
 have h1:=hc.1
 by_cases h:c.i<c.bs.length
 ·have hw:IntKind.i64.wrap ((c.i:Int)+1)=(c.i+1:Nat):=by rw[Ab (by omega) (by omega)];simp
  simp -implicitDefEqProofs [h,AhE,F5]
  generalize IntKind.i64.wrap (IntKind.i64.wrap (c.h*6364136223846793005)+1442695040888963407)=h'
  generalize Int.toNat _=n1
  obtain⟨x,hx,e⟩:=AVQ n1
  rw[e,hw]
  exact hQ x ⟨c.bs,c.i+1,h'⟩ ⟨by omega,by omega⟩ ⟨hc.1,hc.2.1,h⟩
 ·simp -implicitDefEqProofs [h,AhE,F5]
  generalize IntKind.i64.wrap (IntKind.i64.wrap (c.h*6364136223846793005)+1442695040888963407)=h'
  generalize Int.toNat _=n1
  obtain⟨x,hx,e⟩:=AVQ n1
  rw[e]
  exact hQ x ⟨c.bs,c.i,h'⟩ ⟨by omega,by omega⟩ ⟨hc.1,hc.2.1,hc.2.2⟩
abbrev AON (R:Rel):Prop:=∀(c:Cur) (n:Int),AO2 c→n≤1000000000→ARs R [I n] c (fun x:Int=>0≤x∧(n≤0→x=0)∧(0<n→x<n)) (fun x=>I x)
theorem AWm {x n:Int} (h:0≤x) (hn:0<n):0≤x.tmod n∧x.tmod n<n:=⟨Int.tmod_nonneg n h,Int.tmod_lt_of_pos x hn⟩
theorem AVg (D:Dn) (hB:ASV (D AKh)):AON (Body D AP3):=by
 intro c n hc hn
 refine APS (fun Q hQ=> ?_)
 by_cases h0:n≤0
 ·simp -implicitDefEqProofs [h0,AhE,F5]
  exact hQ 0 c ⟨by omega,fun _=>rfl,fun h=>by omega⟩ hc
 have hne:¬n=0:=by omega
 by_cases h1:n≤256
 ·simp -implicitDefEqProofs [h0,h1]
  obtain⟨x,c1,hx,hc1,px⟩:=hB c hc
  simp -implicitDefEqProofs [AGZ]at px
  refine Aa (px) ?_
  simp -implicitDefEqProofs [h0,hne,AhE,F5]
  have:=AWm (n:=n) hx.1 (by omega)
  exact hQ _ c1 ⟨this.1,fun h=>absurd h h0,fun _=>this.2⟩ hc1
 ·simp -implicitDefEqProofs [h0,h1]
  obtain⟨x,c1,hx,hc1,px⟩:=hB c hc
  simp -implicitDefEqProofs [AGZ]at px
  refine Aa (px) ?_
  simp -implicitDefEqProofs [h0]
  obtain⟨y,c2,hy,hc2,py⟩:=hB c1 hc1
  simp -implicitDefEqProofs [AGZ]at py
  refine Aa (py) ?_
  simp -implicitDefEqProofs [h0]
  obtain⟨z,c3,hz,hc3,pz⟩:=hB c2 hc2
  simp -implicitDefEqProofs [AGZ]at pz
  refine Aa (pz) ?_
  simp -implicitDefEqProofs [h0,hne,AhE,F5]
  have w1:IntKind.i64.wrap (x*65536)=x*65536:=Ab (by omega) (by omega)
  have w2:IntKind.i64.wrap (y*256)=y*256:=Ab (by omega) (by omega)
  have w3:IntKind.i64.wrap (x*65536+y*256)=x*65536+y*256:=Ab (by omega) (by omega)
  have w4:IntKind.i64.wrap (x*65536+y*256+z)=x*65536+y*256+z:=Ab (by omega) (by omega)
  rw[w1,w2,w3,w4]
  have:=AWm (x:=x*65536+y*256+z) (n:=n) (by omega) (by omega)
  exact hQ _ c3 ⟨this.1,fun h=>absurd h h0,fun _=>this.2⟩ hc3
abbrev AQL (R:Rel):Prop:=∀(c:Cur) (n:Int),AO2 c→n≤1000000000→ARs R [I n] c (fun _:Bool=>True) (fun b=>B b)
theorem AVN (D:Dn) (hB:AON (D AJG)):AQL (Body D AQh):=by
 intro c n hc hn
 refine APS (fun Q hQ=> ?_)
 simp -implicitDefEqProofs
 obtain⟨x,c1,hx,hc1,px⟩:=hB c n hc hn
 simp -implicitDefEqProofs [AGZ]at px
 refine Aa (px) ?_
 simp -implicitDefEqProofs [AhE,F5]
 exact hQ _ c1 trivial hc1
abbrev AQ1 (R:Rel):Prop:=∀(c:Cur) (xs:List Int),AO2 c→0<xs.length→xs.length≤1000000→ARs R [.sl 1 1 xs.length (ints xs)] c (fun x:Int=>x∈xs) (fun x=>I x)
theorem AV8 (D:Dn) (hB:AON (D AJG)):AQ1 (Body D AQy):=by
 intro c xs hc h0 hl
 refine APS (fun Q hQ=> ?_)
 simp -implicitDefEqProofs
 obtain⟨x,c1,hx,hc1,px⟩:=hB c xs.length hc (by omega)
 simp -implicitDefEqProofs [AGZ]at px
 refine Aa (px) ?_
 obtain⟨n,rfl⟩:∃n:Nat,x=n:=⟨x.toNat,by omega⟩
 have hn:n<xs.length:=by have:=hx.2.2 (by omega);omega
 simp -implicitDefEqProofs [hn,AhE,F5]
 exact hQ _ c1 (List.getElem_mem hn) hc1
abbrev AQP (R:Rel):Prop:=∀bs:List Int,bs.length≤1048576→(∀b,b∈bs→0≤b∧b≤255)→∃c:Cur,AO2 c∧R [.sl 3 1 bs.length (u8s bs)] [] (.rptr 0 (AGZ c) 0) []
theorem AWh (D:Dn):AQP (Body D AP5):=by
 intro bs hl hb
 obtain⟨v,o,⟨c,h1,rfl,rfl⟩,h3⟩:=AT8 (P:=fun v o=>∃c:Cur,AO2 c∧v= .rptr 0 (AGZ c) 0∧o=[]) (D:=D) (f:=AP5) (args:=[.sl 3 1 bs.length (u8s bs)]) (given:=[]) (fun Q hQ=>by
  simp -implicitDefEqProofs
  obtain⟨h0,hh0⟩:∃h0,h0=IntKind.i64.wrap (193017+(bs.length:Int)):=⟨_,rfl⟩
  rw[←hh0]
  refine Af (fun k s=>∃j h,j+k=min bs.length 4000∧s=⟨[.sl 3 1 bs.length (u8s bs),.undef,I h,I j,.undef],[.free]⟩) ?_ (min bs.length 4000) _ ⟨0,h0,by simp,by simp⟩
  intro k s ⟨j,h,hj,hs⟩
  subst hs
  by_cases hjn:j<bs.length
  ·by_cases hj4:j<4000
   ·have hw:IntKind.i64.wrap ((j:Int)+1)=(j+1:Nat):=by rw[Ab (by omega) (by omega)];simp
    have hj4':(j:Int)<4000:=by omega
    simp -implicitDefEqProofs [hjn,hj4,hj4']
    refine⟨k-1,by omega,j+1,by omega,?_⟩
    simp[hw]
   ·have hj4':¬(j:Int)<4000:=by omega
    simp -implicitDefEqProofs [hjn,hj4,hj4']
    exact hQ _ _ ⟨⟨bs,0,h⟩,⟨hl,hb,Nat.zero_le _⟩,rfl,rfl⟩
  ·simp -implicitDefEqProofs [hjn]
   exact hQ _ _ ⟨⟨bs,0,h⟩,⟨hl,hb,Nat.zero_le _⟩,rfl,rfl⟩)
 exact⟨c,h1,h3⟩
end Go.Eng.T
namespace Go.Eng.T
set_option maxRecDepth 20000
set_option maxHeartbeats 1000000
theorem AVO {l:List Int} (h:Up l) {i j:Nat} (hij:i<j) (hj:j<l.length):l[i]<l[j]:=List.pairwise_iff_getElem.1 h i j (by omega) hj hij
theorem ASS {l:List Int} (h:Up l) (h1:∀x,x∈l→1≤x∧x≤9) (h0:0<l.length):Bt l=true:=by
 unfold Bt
 simp only[Bool.and_eq_true,decide_eq_true_eq]
 refine⟨?_,h0⟩
 unfold NJ
 rw[List.all_eq_true]
 intro i hi
 have hi:=List.mem_range.1 hi
 rw[AaF hi]
 have:=h1 _ (List.getElem_mem hi)
 simp only[Bool.and_eq_true,Bool.or_eq_true,decide_eq_true_eq]
 refine⟨⟨by omega,by omega⟩,?_⟩
 by_cases hz:i=0
 ·exact .inl hz
 ·right
  rw[AaF (by omega:i-1<l.length)]
  exact AVO h (by omega) hi
theorem AVB {l:List Int} (h:Up l) (h1:∀x,x∈l→1≤x∧x≤100):QE l l.length=true:=by
 unfold QE
 rw[List.all_eq_true]
 intro i hi
 have hi:=List.mem_range.1 hi
 rw[getD_at hi]
 have:=h1 _ (List.getElem_mem hi)
 simp only[Bool.and_eq_true,Bool.or_eq_true,decide_eq_true_eq]
 refine⟨⟨by omega,by omega⟩,?_⟩
 by_cases hz:i=0
 ·exact .inl hz
 ·right
  rw[getD_at (by omega:i-1<l.length)]
  exact AVO h (by omega) hi
theorem ATe {l:List Int} {a b:Int} (h1:∀x,x∈l→a≤x∧x≤b):allIn l a b=true:=by
 unfold allIn
 rw[List.all_eq_true]
 intro x hx
 have:=h1 x hx
 simpa using this
theorem AU8 {l:List Int} (h:Up l) (h1:∀x,x∈l→0≤x∧x≤255):Pm l=true:=by
 unfold Pm
 simp only[Bool.and_eq_true]
 refine⟨?_,ATe h1⟩
 rw[AF3]
 intro i hi
 by_cases hz:i=0
 ·subst hz;exact Aud l
 ·rw[AnI hz hi (by omega)]
  simpa using AVO h (by omega) hi
def VP (l:List Int) (b:Int) (m:Nat):Prop:=Up l∧(∀x,x∈l→1≤x∧x≤b)∧l.length≤m
theorem AS5 {l:List Int} {b:Int} {m:Nat} {v:Int} (h:VP l b m) (hv:1≤v∧v≤b):VP (Ic l v) b (m+1):=by
 refine⟨ADP v h.1,?_,Nat.le_trans (Apl l v) (by have:=h.2.2;omega)⟩
 intro x hx
 rcases(AIL l v x).1 hx with hx | rfl
 ·exact h.2.1 x hx
 ·exact hv
theorem ARR {l:List Int} {b:Int} {m m':Nat} (h:VP l b m) (hm:m≤m'):VP l b m':=⟨h.1,h.2.1,by have:=h.2.2;omega⟩
theorem AU1 (b:Int):VP [] b 0:=⟨List.Pairwise.nil,by simp,by simp⟩
theorem AVK {b v:Int} (hv:1≤v∧v≤b):VP [v] b 1:=⟨by simp,by simpa using hv,by simp⟩
theorem put_pos (l:List Int) (v:Int):0<(Ic l v).length:=List.length_pos_of_mem ((AIL l v v).2 (.inr rfl))
abbrev AR2 (R:Rel):Prop:=∀c:Cur,AO2 c→ARs R [] c (fun l:List Int=>VP l 6 4∧0<l.length) (fun l=> .sl 0 1 l.length (ints l))
theorem AVf (D:Dn) (hB:AON (D AJG)) (hP:Apu (D Akt)):AR2 (Body D APU):=by
 intro c hc
 refine APS (fun Q hQ=> ?_)
 simp -implicitDefEqProofs
 obtain⟨x,c1,hx,hc1,px⟩:=hB c 4 hc (by omega)
 simp -implicitDefEqProofs [AGZ,ints]at px
 refine Aa (px) ?_
 have hx4:=hx.2.2 (by omega)
 have w1:IntKind.i64.wrap (1+x)=1+x:=Ab (by omega) (by omega)
 simp -implicitDefEqProofs [w1]
 obtain⟨y,c2,hy,hc2,py⟩:=hB c1 4 hc1 (by omega)
 simp -implicitDefEqProofs [AGZ,ints]at py
 refine Aa (py) ?_
 have hy4:=hy.2.2 (by omega)
 obtain⟨n,rfl⟩:∃n:Nat,y=n:=⟨y.toNat,by omega⟩
 simp -implicitDefEqProofs
 obtain⟨LI,hLI⟩:∃LI:Nat→St→Prop,LI=fun k s=>∃j cc l o2,j+k=n∧AO2 cc∧VP l 6 (1+j)∧0<l.length∧s=⟨[.ptr 0 0,.undef,.arr 3,I k,.undef],[.var (AGZ cc),.free,o2,.arr 1 0 l.length (ints l)]⟩:=⟨_,rfl⟩
 refine Af LI ?_ (n) _ (by rw[hLI];exact⟨0,c2,[1+x],.free,by simp,hc2,AVK (by omega),by simp,by simp[ints]⟩)
 intro k s hs
 rw[hLI]at hs
 obtain⟨j,cc,l,o2,hj,hcc,hl,hl0,hs⟩:=hs
 subst hs
 by_cases hk:0<k
 ·have hwk:IntKind.i64.wrap ((k:Int)-1)=(k-1:Nat):=by rw[Ab (by omega) (by omega)];omega
  simp -implicitDefEqProofs [hk]
  obtain⟨z,c3,hz,hc3,pz⟩:=hB cc 6 hcc (by omega)
  simp -implicitDefEqProofs [AGZ,ints]at pz
  refine Aa (pz) ?_
  have hz4:=hz.2.2 (by omega)
  have w2:IntKind.i64.wrap (1+z)=1+z:=Ab (by omega) (by omega)
  simp -implicitDefEqProofs [w2]
  refine Aa (hP l (1+z) (by have:=hl.2.2;omega)) ?_
  simp -implicitDefEqProofs [hwk]
  refine⟨k-1,by omega,?_⟩
  rw[hLI]
  exact⟨j+1,c3,Ic l (1+z),.free,by omega,hc3,AS5 hl (by omega),put_pos _ _,rfl⟩
 ·have hk0:k=0:=by omega
  subst hk0
  simp -implicitDefEqProofs [AhE,F5]
  exact hQ l cc ⟨ARR hl (by omega),hl0⟩ hcc
abbrev ARc (R:Rel):Prop:=∀c:Cur,AO2 c→ARs R [] c (fun l:List Int=>VP l 200 4) (fun l=> .sl 0 1 l.length (ints l))
theorem AW5 {x:Int} (h:x∈[1,2,3,10,40,(200:Int)]):1≤x∧x≤200:=by simp at h;omega
theorem AVz (D:Dn) (hB:AON (D AJG)) (hI:AQ1 (D ALy)) (hP:Apu (D Akt)):ARc (Body D AP1):=by
 intro c hc
 refine APS (fun Q hQ=> ?_)
 simp -implicitDefEqProofs
 obtain⟨y,c2,hy,hc2,py⟩:=hB c 5 hc (by omega)
 simp -implicitDefEqProofs [AGZ,ints]at py
 refine Aa (py) ?_
 have hy4:=hy.2.2 (by omega)
 obtain⟨n,rfl⟩:∃n:Nat,y=n:=⟨y.toNat,by omega⟩
 simp -implicitDefEqProofs
 obtain⟨LI,hLI⟩:∃LI:Nat→St→Prop,LI=fun k s=>∃j cc l o2,j+k=n∧AO2 cc∧VP l 200 j∧s=⟨[.ptr 0 0,.undef,.arr 4,I k,.undef],[.var (AGZ cc),.free,o2,.free,.arr 1 0 l.length (ints l)]⟩:=⟨_,rfl⟩
 refine Af LI ?_ (n) _ (by rw[hLI];exact⟨0,c2,[],.free,by simp,hc2,AU1 _,by simp[ints]⟩)
 intro k s hs
 rw[hLI]at hs
 obtain⟨j,cc,l,o2,hj,hcc,hl,hs⟩:=hs
 subst hs
 by_cases hk:0<k
 ·have hwk:IntKind.i64.wrap ((k:Int)-1)=(k-1:Nat):=by rw[Ab (by omega) (by omega)];omega
  simp -implicitDefEqProofs [hk]
  obtain⟨z,c3,hz,hc3,pz⟩:=hI cc [1,2,3,10,40,200] hcc (by simp) (by simp)
  simp -implicitDefEqProofs [AGZ,ints]at pz
  refine Aa (pz) ?_
  simp -implicitDefEqProofs
  refine Aa (hP l z (by have:=hl.2.2;omega)) ?_
  simp -implicitDefEqProofs [hwk]
  refine⟨k-1,by omega,?_⟩
  rw[hLI]
  exact⟨j+1,c3,Ic l z,_,by omega,hc3,AS5 hl (AW5 hz),rfl⟩
 ·have hk0:k=0:=by omega
  subst hk0
  simp -implicitDefEqProofs [AhE,F5]
  exact hQ l cc (ARR hl (by omega)) hcc
end Go.Eng.T
namespace Go.Eng.T
set_option maxRecDepth 20000
set_option maxHeartbeats 1000000
def AS6 (b:H9):Prop:=Ji b=true∧b.drops.length≤4∧b.strips.length≤4
theorem ATd {b:H9} (h0:0≤b.limit∧b.limit≤9) (h1:VP b.drops 200 4) (h2:VP b.strips 200 4):AS6 b:=by
 refine⟨?_,h1.2.2,h2.2.2⟩
 unfold Ji
 rw[ATe (fun x hx=>by have:=h1.2.1 x hx;omega),ATe (fun x hx=>by have:=h2.2.1 x hx;omega)]
 have:=h1.2.2
 have:=h2.2.2
 simp only[Bool.and_eq_true,decide_eq_true_eq]
 exact⟨⟨⟨⟨⟨by omega,by omega⟩,by omega⟩,by omega⟩,trivial⟩,trivial⟩
abbrev AQn (R:Rel):Prop:=∀c:Cur,AO2 c→ARs R [] c AS6 (fun b=> .agg (CW b))
theorem AVE (D:Dn) (hB:AON (D AJG)) (hT:ARc (D AJt)):AQn (Body D APX):=by
 intro c hc
 refine APS (fun Q hQ=> ?_)
 have hn:=ARR (AU1 200) (show 0≤4 by omega)
 simp -implicitDefEqProofs
 obtain⟨x,c1,hx,hc1,px⟩:=hB c 7 hc (by omega)
 simp -implicitDefEqProofs [AGZ,ints]at px
 refine Aa (px) ?_
 by_cases g0:x=0
 ·simp -implicitDefEqProofs [g0]
  obtain⟨y,c2,hy,hc2,py⟩:=hB c1 6 hc1 (by omega)
  simp -implicitDefEqProofs [AGZ,ints]at py
  refine Aa (py) ?_
  have hy6:=hy.2.2 (by omega)
  have w1:IntKind.i64.wrap (1+y)=1+y:=Ab (by omega) (by omega)
  simp -implicitDefEqProofs [w1,AhE,F5]
  exact hQ ⟨1+y,[],[],false⟩ c2 (ATd (by dsimp only;omega) hn hn) hc2
 by_cases g1:x=1
 ·simp -implicitDefEqProofs [g1]
  obtain⟨t,c2,ht,hc2,pt⟩:=hT c1 hc1
  simp -implicitDefEqProofs [AGZ,ints]at pt
  refine Aa (pt) ?_
  simp -implicitDefEqProofs [AhE,F5]
  exact hQ ⟨0,t,[],false⟩ c2 (ATd (by dsimp only;omega) ht hn) hc2
 by_cases g2:x=2
 ·simp -implicitDefEqProofs [g2]
  obtain⟨t,c2,ht,hc2,pt⟩:=hT c1 hc1
  simp -implicitDefEqProofs [AGZ,ints]at pt
  refine Aa (pt) ?_
  simp -implicitDefEqProofs [AhE,F5]
  exact hQ ⟨0,[],t,false⟩ c2 (ATd (by dsimp only;omega) hn ht) hc2
 by_cases g3:x=3
 ·simp -implicitDefEqProofs [g3,AhE,F5]
  exact hQ ⟨0,[],[],true⟩ c1 (ATd (by dsimp only;omega) hn hn) hc1
 simp -implicitDefEqProofs [g0,g1,g2,g3,AhE,F5]
 exact hQ ⟨0,[],[],false⟩ c1 (ATd (by dsimp only;omega) hn hn) hc1
def AUt (b:H9):Prop:=b.drops.length≤7∧b.strips.length≤7
def ATu (l:List H9) (m:Nat):Prop:=l.length≤m∧∀b,b∈l→AS6 b
abbrev ARV (R:Rel):Prop:=∀c:Cur,AO2 c→ARs R [] c (fun l:List H9=>ATu l 3) (fun l=> .sl 0 4 l.length (l.flatMap CW))
theorem AVY {l:List H9} {m:Nat} {b:H9} (h:ATu l m) (hb:AS6 b):ATu (l++ [b]) (m+1):=by
 refine⟨by have:=h.1;simp;omega,?_⟩
 intro x hx
 rcases List.mem_append.1 hx with hx | hx
 ·exact h.2 x hx
 ·simp at hx;subst hx;exact hb
theorem AVx (D:Dn) (hB:AON (D AJG)) (hT:AQn (D AJI)):ARV (Body D AP2):=by
 intro c hc
 refine APS (fun Q hQ=> ?_)
 simp -implicitDefEqProofs
 obtain⟨y,c2,hy,hc2,py⟩:=hB c 4 hc (by omega)
 simp -implicitDefEqProofs [AGZ,ints]at py
 refine Aa (py) ?_
 have hy4:=hy.2.2 (by omega)
 obtain⟨n,rfl⟩:∃n:Nat,y=n:=⟨y.toNat,by omega⟩
 simp -implicitDefEqProofs
 obtain⟨LI,hLI⟩:∃LI:Nat→St→Prop,LI=fun k s=>∃j cc l o2 o3 o4,j+k=n∧AO2 cc∧ATu l j∧s=⟨[.ptr 0 0,.undef,.arr 6,I k,.undef],[.var (AGZ cc),.free,o2,o3,o4,.free,.arr 4 0 l.length (l.flatMap CW)]⟩:=⟨_,rfl⟩
 refine Af LI ?_ (n) _ (by rw[hLI];exact⟨0,c2,[],.free,.free,.free,by simp,hc2,⟨by simp,by simp⟩,by simp⟩)
 intro k s hs
 rw[hLI]at hs
 obtain⟨j,cc,l,o2,o3,o4,hj,hcc,hl,hs⟩:=hs
 subst hs
 by_cases hk:0<k
 ·have hwk:IntKind.i64.wrap ((k:Int)-1)=(k-1:Nat):=by rw[Ab (by omega) (by omega)];omega
  have hll:=hl.1
  have hb1:(l.length+1)*64≤1099511627776:=by omega
  simp -implicitDefEqProofs [hk]
  obtain⟨b,c3,hb,hc3,pb⟩:=hT cc hcc
  simp -implicitDefEqProofs [AGZ,ints]at pb
  refine Aa (pb) ?_
  simp -implicitDefEqProofs [hb1,hwk]
  refine⟨k-1,by omega,?_⟩
  rw[hLI]
  exact⟨j+1,c3,l++ [b],.dead,.dead,.dead,by omega,hc3,AVY hl hb,by simp[CW,ints]⟩
 ·have hk0:k=0:=by omega
  subst hk0
  simp -implicitDefEqProofs [AhE,F5]
  exact hQ l cc ⟨by have:=hl.1;omega,hl.2⟩ hcc
def AWF (s:List Int):Prop:=VP s 100 3∧0<s.length∧s.getD (s.length-1) 0=100
def AVV (r:Cr):Prop:=AWF r.stages∧(1≤r.version∧r.version≤6)
abbrev ARX (R:Rel):Prop:=∀c:Cur,AO2 c→ARs R [] c AVV (fun r=> .agg (Gg r))
theorem AWE {l:List Int} (h:VP l 90 2):AWF (l++ [100]):=by
 obtain⟨h1,h2,h3⟩:=h
 refine⟨⟨?_,?_,by simp;omega⟩,by simp,by simp⟩
 ·refine List.pairwise_append.2 ⟨h1,by simp,?_⟩
  intro x hx y hy
  simp at hy
  have:=h2 x hx
  omega
 ·intro x hx
  rcases List.mem_append.1 hx with hx | hx
  ·have:=h2 x hx;omega
  ·simp at hx;omega
theorem AVw (D:Dn) (hB:AON (D AJG)) (hP:Apu (D Akt)):ARX (Body D AP0):=by
 intro c hc
 refine APS (fun Q hQ=> ?_)
 simp -implicitDefEqProofs
 obtain⟨x,c1,hx,hc1,px⟩:=hB c 6 hc (by omega)
 simp -implicitDefEqProofs [AGZ,ints]at px
 refine Aa (px) ?_
 have hx6:=hx.2.2 (by omega)
 have w1:IntKind.i64.wrap (1+x)=1+x:=Ab (by omega) (by omega)
 simp -implicitDefEqProofs [w1]
 obtain⟨y,c2,hy,hc2,py⟩:=hB c1 3 hc1 (by omega)
 simp -implicitDefEqProofs [AGZ,ints]at py
 refine Aa (py) ?_
 have hy3:=hy.2.2 (by omega)
 obtain⟨n,rfl⟩:∃n:Nat,y=n:=⟨y.toNat,by omega⟩
 simp -implicitDefEqProofs
 obtain⟨LI,hLI⟩:∃LI:Nat→St→Prop,LI=fun k s=>∃j cc l o3,j+k=n∧AO2 cc∧VP l 90 j∧s=⟨[.ptr 0 0,.ptr 1 0,.ptr 2 0,I k,.undef],[.var (AGZ cc),.var [I 0,.nil 1,I 0,B false],.var [I (1+x),.arr 6,I 0,B false],o3,.free,.free,.arr 1 0 l.length (ints l)]⟩:=⟨_,rfl⟩
 refine Af LI ?_ (n) _ (by rw[hLI];exact⟨0,c2,[],.free,by simp,hc2,AU1 _,by simp[ints]⟩)
 intro k s hs
 rw[hLI]at hs
 obtain⟨j,cc,l,o3,hj,hcc,hl,hs⟩:=hs
 subst hs
 by_cases hk:0<k
 ·have hwk:IntKind.i64.wrap ((k:Int)-1)=(k-1:Nat):=by rw[Ab (by omega) (by omega)];omega
  simp -implicitDefEqProofs [hk]
  obtain⟨z,c3,hz,hc3,pz⟩:=hB cc 90 hcc (by omega)
  simp -implicitDefEqProofs [AGZ,ints]at pz
  refine Aa (pz) ?_
  have hz4:=hz.2.2 (by omega)
  have w2:IntKind.i64.wrap (1+z)=1+z:=Ab (by omega) (by omega)
  simp -implicitDefEqProofs [w2]
  refine Aa (hP l (1+z) (by have:=hl.2.2;omega)) ?_
  simp -implicitDefEqProofs [hwk]
  refine⟨k-1,by omega,?_⟩
  rw[hLI]
  exact⟨j+1,c3,Ic l (1+z),_,by omega,hc3,AS5 hl (by omega),rfl⟩
 ·have hk0:k=0:=by omega
  subst hk0
  have hll:=hl.2.2
  have hb1:(l.length+1)*8≤1099511627776:=by omega
  simp -implicitDefEqProofs [hb1]
  have hst:=AWE (ARR hl (by omega))
  obtain⟨z,c3,hz,hc3,pz⟩:=hB cc (l.length+1) hcc (by omega)
  simp -implicitDefEqProofs [AGZ,ints]at pz
  refine Aa (pz) ?_
  simp -implicitDefEqProofs [AhE,F5]
  have:=hQ ⟨1+x,l++ [100],z,false⟩ c3 ⟨hst,by dsimp only;omega⟩ hc3
  simpa[ints,Gg]using this
end Go.Eng.T
namespace Go.Eng.T
set_option maxRecDepth 20000
set_option maxHeartbeats 1000000
def AU9 (l:List Int) (m:Nat):Prop:=Up l∧(∀x,x∈l→x∈[1,2,3,40,(200:Int)])∧l.length≤m
theorem AWe {l:List Int} {m:Nat} {v:Int} (h:AU9 l m) (hv:v∈[1,2,3,40,(200:Int)]):AU9 (Ic l v) (m+1):=by
 refine⟨ADP v h.1,?_,Nat.le_trans (Apl l v) (by have:=h.2.2;omega)⟩
 intro x hx
 rcases(AIL l v x).1 hx with hx | rfl
 ·exact h.2.1 x hx
 ·exact hv
structure AVc (e:Az):Prop where
 vers:VP e.versions 6 4
 pos:0<e.versions.length
 tags:AU9 e.tags 3
 path:ATu e.path 3
 cls:0≤e.cls∧e.cls≤5
theorem AWN {x:Int} (h:x∈[1,2,3,40,(200:Int)]):(0≤x∧x≤255)∧A9 x=false:=by
 simp at h
 rcases h with rfl | rfl | rfl | rfl | rfl<;>exact⟨by omega,by decide⟩
theorem AWq {e:Az} (h:AVc e):BH e=true:=by
 unfold BH
 rw[ASS h.vers.1 (fun x hx=>by have:=h.vers.2.1 x hx;omega) h.pos,AU8 h.tags.1 (fun x hx=>(AWN (h.tags.2.1 x hx)).1)]
 have h1:e.tags.any A9=false:=by
  rw[List.any_eq_false]
  intro x hx
  rw[(AWN (h.tags.2.1 x hx)).2]
  simp
 have h2:e.path.all Ji=true:=List.all_eq_true.2 fun b hb=>(h.path.2 b hb).1
 rw[h1,h2]
 have:=h.tags.2.2
 have:=h.path.1
 have:=h.cls
 simp only[Bool.true_and,Bool.and_true,Bool.not_false,Bool.and_eq_true,decide_eq_true_eq]
 exact⟨by omega,by omega,by omega,by omega⟩
abbrev AR3 (R:Rel):Prop:=∀c:Cur,AO2 c→ARs R [] c AVc (fun e=> .agg (Ag e))
theorem AVr (D:Dn) (hB:AON (D AJG)) (hI:AQ1 (D ALy)) (hV:AR2 (D AJf)) (hP:ARV (D AJP)) (hU:Apu (D Akt)):AR3 (Body D APW):=by
 intro c hc
 refine APS (fun Q hQ=> ?_)
 simp -implicitDefEqProofs
 obtain⟨vs,c1,hvs,hc1,pvs⟩:=hV c hc
 simp -implicitDefEqProofs [AGZ,ints]at pvs
 refine Aa (pvs) ?_
 simp -implicitDefEqProofs
 obtain⟨pa,c2,hpa,hc2,ppa⟩:=hP c1 hc1
 simp -implicitDefEqProofs [AGZ,ints]at ppa
 refine Aa (ppa) ?_
 simp -implicitDefEqProofs
 obtain⟨cl,c3,hcl,hc3,pcl⟩:=hB c2 6 hc2 (by omega)
 simp -implicitDefEqProofs [AGZ,ints]at pcl
 refine Aa (pcl) ?_
 have hcl6:=hcl.2.2 (by omega)
 simp -implicitDefEqProofs
 obtain⟨y,c4,hy,hc4,py⟩:=hB c3 4 hc3 (by omega)
 simp -implicitDefEqProofs [AGZ,ints]at py
 refine Aa (py) ?_
 have hy4:=hy.2.2 (by omega)
 obtain⟨n,rfl⟩:∃n:Nat,y=n:=⟨y.toNat,by omega⟩
 simp -implicitDefEqProofs
 obtain⟨LI,hLI⟩:∃LI:Nat→St→Prop,LI=fun k s=>∃j cc l o5,j+k=n∧AO2 cc∧AU9 l j∧s=⟨[.ptr 0 0,.ptr 1 0,.ptr 4 0,I k,.undef],[.var (AGZ cc),.var [.nil 1,.nil 1,.nil 4,I 0],.arr 1 0 vs.length (ints vs),.arr 4 0 pa.length (pa.flatMap CW),.var [.arr 2,.arr 7,.arr 3,I cl],o5,.free,.arr 1 0 l.length (ints l)]⟩:=⟨_,rfl⟩
 refine Af LI ?_ (n) _ (by rw[hLI];exact⟨0,c4,[],.free,by simp,hc4,⟨List.Pairwise.nil,by simp,by simp⟩,by simp[ints]⟩)
 intro k s hs
 rw[hLI]at hs
 obtain⟨j,cc,l,o5,hj,hcc,hl,hs⟩:=hs
 subst hs
 by_cases hk:0<k
 ·have hwk:IntKind.i64.wrap ((k:Int)-1)=(k-1:Nat):=by rw[Ab (by omega) (by omega)];omega
  simp -implicitDefEqProofs [hk]
  obtain⟨z,c5,hz,hc5,pz⟩:=hI cc [1,2,3,40,200] hcc (by simp) (by simp)
  simp -implicitDefEqProofs [AGZ,ints]at pz
  refine Aa (pz) ?_
  simp -implicitDefEqProofs
  refine Aa (hU l z (by have:=hl.2.2;omega)) ?_
  simp -implicitDefEqProofs [hwk]
  refine⟨k-1,by omega,?_⟩
  rw[hLI]
  exact⟨j+1,c5,Ic l z,_,by omega,hc5,AWe hl hz,rfl⟩
 ·have hk0:k=0:=by omega
  subst hk0
  simp -implicitDefEqProofs [AhE,F5]
  exact hQ ⟨vs,l,pa,cl⟩ cc ⟨hvs.1,hvs.2,⟨hl.1,hl.2.1,by have:=hl.2.2;dsimp only;omega⟩,hpa,by dsimp only;omega⟩ hcc
structure AXh (e:Az):Prop where
 vers:e.versions.length≤5
 tags:e.tags.length≤6
 path:e.path.length≤5
 box:∀b,b∈e.path→AUt b
end Go.Eng.T
namespace Go.Eng.T
set_option maxRecDepth 20000
set_option maxHeartbeats 1000000
abbrev AQH (D:Dn) (R:Rel):Prop:=∀(a b:List H9) (g:Nat),a.length≤maxLen→b.length≤maxLen→(∀j (h:j<a.length) (h':j<b.length),D g [arg (CW a[j]),arg (CW b[j])] [] (B (decide (a[j]=b[j]))) [])→
 R [.sl 1 4 a.length (a.flatMap CW),.sl 1 4 b.length (b.flatMap CW),.fn g []] [] (B (decide (a=b))) []
theorem AUz (D:Dn):AQH D (Body D ABp):=by
 intro a b g h1 h2 hg
 unfold maxLen at h1 h2
 by_cases hl:a.length=b.length
 rotate_left
 ·have hl':¬(a.length:Int)=b.length:=by omega
  have:a≠b:=fun h=>hl (by rw[h])
  simp -implicitDefEqProofs [hl',this]
 have hl':(a.length:Int)=b.length:=by omega
 simp -implicitDefEqProofs [hl']
 refine Af (fun k s=>∃j o0 o1,j+k=a.length∧a.take j=b.take j∧s=⟨[.undef,.sl 1 4 b.length (b.flatMap CW),.fn g [],.undef,.undef,.undef,.undef,.undef,.sl 1 4 a.length (a.flatMap CW),I b.length,I j,.undef,.undef],[o0,o1]⟩) ?_ (a.length) _ ⟨0,.free,.free,by simp,by simp,by simp⟩
 intro k s ⟨j,o0,o1,hj,hp,hs⟩
 subst hs
 by_cases hjn:j<a.length
 ·have hw:IntKind.i64.wrap ((j:Int)+1)=(j+1:Nat):=by rw[Ab (by omega) (by omega)];simp
  have hy:j<b.length:=by omega
  simp -implicitDefEqProofs [hjn,hy,↓Un Us]
  refine Aa (hg j hjn hy) ?_
  by_cases g2:a[j]=b[j]
  ·simp -implicitDefEqProofs [g2]
   exact⟨k-1,by omega,j+1,by omega,KL hjn hy hp g2,by simp[hw]⟩
  ·have hne:a≠b:=fun h=>g2 (by simp[h])
   simp -implicitDefEqProofs [g2,hne]
 ·obtain rfl:a=b:=M4 (by omega) hl hp
  simp -implicitDefEqProofs [hjn]
abbrev AQO (D:Dn) (R:Rel):Prop:=∀(a b:List Az) (g:Nat),a.length≤maxLen→b.length≤maxLen→(∀j (h:j<a.length) (h':j<b.length),D g [arg (Ag a[j]),arg (Ag b[j])] [] (B (decide (a[j]=b[j]))) [])→
 R [.sl 1 4 a.length (a.flatMap Ag),.sl 1 4 b.length (b.flatMap Ag),.fn g []] [] (B (decide (a=b))) []
theorem AUw (D:Dn):AQO D (Body D AtA):=by
 intro a b g h1 h2 hg
 unfold maxLen at h1 h2
 by_cases hl:a.length=b.length
 rotate_left
 ·have hl':¬(a.length:Int)=b.length:=by omega
  have:a≠b:=fun h=>hl (by rw[h])
  simp -implicitDefEqProofs [hl',this]
 have hl':(a.length:Int)=b.length:=by omega
 simp -implicitDefEqProofs [hl']
 refine Af (fun k s=>∃j o0 o1,j+k=a.length∧a.take j=b.take j∧s=⟨[.undef,.sl 1 4 b.length (b.flatMap Ag),.fn g [],.undef,.undef,.undef,.undef,.undef,.sl 1 4 a.length (a.flatMap Ag),I b.length,I j,.undef,.undef],[o0,o1]⟩) ?_ (a.length) _ ⟨0,.free,.free,by simp,by simp,by simp⟩
 intro k s ⟨j,o0,o1,hj,hp,hs⟩
 subst hs
 by_cases hjn:j<a.length
 ·have hw:IntKind.i64.wrap ((j:Int)+1)=(j+1:Nat):=by rw[Ab (by omega) (by omega)];simp
  have hy:j<b.length:=by omega
  simp -implicitDefEqProofs [hjn,hy,↓Un Us]
  refine Aa (hg j hjn hy) ?_
  by_cases g2:a[j]=b[j]
  ·simp -implicitDefEqProofs [g2]
   exact⟨k-1,by omega,j+1,by omega,KL hjn hy hp g2,by simp[hw]⟩
  ·have hne:a≠b:=fun h=>g2 (by simp[h])
   simp -implicitDefEqProofs [g2,hne]
 ·obtain rfl:a=b:=M4 (by omega) hl hp
  simp -implicitDefEqProofs [hjn]
abbrev APY (D:Dn) (R:Rel):Prop:=∀(a b:List Cu) (g:Nat),a.length≤maxLen→b.length≤maxLen→(∀j (h:j<a.length) (h':j<b.length),D g [arg (Ap a[j]),arg (Ap b[j])] [] (B (decide (a[j]=b[j]))) [])→
 R [.sl 1 5 a.length (a.flatMap Ap),.sl 1 5 b.length (b.flatMap Ap),.fn g []] [] (B (decide (a=b))) []
theorem ATo (D:Dn):APY D (Body D Awe):=by
 intro a b g h1 h2 hg
 unfold maxLen at h1 h2
 by_cases hl:a.length=b.length
 rotate_left
 ·have hl':¬(a.length:Int)=b.length:=by omega
  have:a≠b:=fun h=>hl (by rw[h])
  simp -implicitDefEqProofs [hl',this]
 have hl':(a.length:Int)=b.length:=by omega
 simp -implicitDefEqProofs [hl']
 refine Af (fun k s=>∃j o0 o1,j+k=a.length∧a.take j=b.take j∧s=⟨[.undef,.sl 1 5 b.length (b.flatMap Ap),.fn g [],.undef,.undef,.undef,.undef,.undef,.sl 1 5 a.length (a.flatMap Ap),I b.length,I j,.undef,.undef],[o0,o1]⟩) ?_ (a.length) _ ⟨0,.free,.free,by simp,by simp,by simp⟩
 intro k s ⟨j,o0,o1,hj,hp,hs⟩
 subst hs
 by_cases hjn:j<a.length
 ·have hw:IntKind.i64.wrap ((j:Int)+1)=(j+1:Nat):=by rw[Ab (by omega) (by omega)];simp
  have hy:j<b.length:=by omega
  simp -implicitDefEqProofs [hjn,hy,↓Un Us]
  refine Aa (hg j hjn hy) ?_
  by_cases g2:a[j]=b[j]
  ·simp -implicitDefEqProofs [g2]
   exact⟨k-1,by omega,j+1,by omega,KL hjn hy hp g2,by simp[hw]⟩
  ·have hne:a≠b:=fun h=>g2 (by simp[h])
   simp -implicitDefEqProofs [g2,hne]
 ·obtain rfl:a=b:=M4 (by omega) hl hp
  simp -implicitDefEqProofs [hjn]
abbrev APT (D:Dn) (R:Rel):Prop:=∀(a b:List CX) (g:Nat),a.length≤maxLen→b.length≤maxLen→(∀j (h:j<a.length) (h':j<b.length),D g [arg (Am a[j]),arg (Am b[j])] [] (B (decide (a[j]=b[j]))) [])→
 R [.sl 1 8 a.length (a.flatMap Am),.sl 1 8 b.length (b.flatMap Am),.fn g []] [] (B (decide (a=b))) []
theorem ATl (D:Dn):APT D (Body D At3):=by
 intro a b g h1 h2 hg
 unfold maxLen at h1 h2
 by_cases hl:a.length=b.length
 rotate_left
 ·have hl':¬(a.length:Int)=b.length:=by omega
  have:a≠b:=fun h=>hl (by rw[h])
  simp -implicitDefEqProofs [hl',this]
 have hl':(a.length:Int)=b.length:=by omega
 simp -implicitDefEqProofs [hl']
 refine Af (fun k s=>∃j o0 o1,j+k=a.length∧a.take j=b.take j∧s=⟨[.undef,.sl 1 8 b.length (b.flatMap Am),.fn g [],.undef,.undef,.undef,.undef,.undef,.sl 1 8 a.length (a.flatMap Am),I b.length,I j,.undef,.undef],[o0,o1]⟩) ?_ (a.length) _ ⟨0,.free,.free,by simp,by simp,by simp⟩
 intro k s ⟨j,o0,o1,hj,hp,hs⟩
 subst hs
 by_cases hjn:j<a.length
 ·have hw:IntKind.i64.wrap ((j:Int)+1)=(j+1:Nat):=by rw[Ab (by omega) (by omega)];simp
  have hy:j<b.length:=by omega
  simp -implicitDefEqProofs [hjn,hy,↓Un Us]
  refine Aa (hg j hjn hy) ?_
  by_cases g2:a[j]=b[j]
  ·simp -implicitDefEqProofs [g2]
   exact⟨k-1,by omega,j+1,by omega,KL hjn hy hp g2,by simp[hw]⟩
  ·have hne:a≠b:=fun h=>g2 (by simp[h])
   simp -implicitDefEqProofs [g2,hne]
 ·obtain rfl:a=b:=M4 (by omega) hl hp
  simp -implicitDefEqProofs [hjn]
abbrev AQt (R:Rel):Prop:=∀a b:H9,JG a→JG b→R [arg (CW a),arg (CW b)] [] (B (decide (a=b))) []
theorem AT7 (D:Dn) (hE:Ih (D MO)):AQt (Body D APR):=by
 intro a b ha hb
 by_cases g1:a.limit=b.limit
 rotate_left
 ·have hne:a≠b:=fun h=>g1 (by simp[h])
  simp -implicitDefEqProofs [g1,hne]
 simp -implicitDefEqProofs [g1]
 refine Aa (hE a.drops b.drops ha.1 hb.1) ?_
 by_cases g2:a.drops=b.drops
 rotate_left
 ·have hne:a≠b:=fun h=>g2 (by simp[h])
  simp -implicitDefEqProofs [g2,hne]
 simp -implicitDefEqProofs [g2]
 refine Aa (hE a.strips b.strips ha.2 hb.2) ?_
 by_cases g3:a.strips=b.strips
 rotate_left
 ·have hne:a≠b:=fun h=>g3 (by simp[h])
  simp -implicitDefEqProofs [g3,hne]
 by_cases g4:a.lists=b.lists
 ·have e:a=b:=by cases a;cases b;simp_all
  simp -implicitDefEqProofs [g3,g4,e]
 ·have hne:a≠b:=fun h=>g4 (by simp[h])
  simp -implicitDefEqProofs [g3,g4,hne]
abbrev APs (R:Rel):Prop:=∀a b:Az,Ke a→Ke b→R [arg (Ag a),arg (Ag b)] [] (B (decide (a=b))) []
theorem ASg (D:Dn) (hE:Ih (D MO)) (hB:AQt (D AE5)) (hF:AQH D (D QB)):APs (Body D APj):=by
 intro a b ha hb
 simp -implicitDefEqProofs
 refine Aa (hE a.versions b.versions ha.1 hb.1) ?_
 by_cases g1:a.versions=b.versions
 rotate_left
 ·have hne:a≠b:=fun h=>g1 (by simp[h])
  simp -implicitDefEqProofs [g1,hne]
 simp -implicitDefEqProofs [g1]
 refine Aa (hE a.tags b.tags ha.2.1 hb.2.1) ?_
 by_cases g2:a.tags=b.tags
 rotate_left
 ·have hne:a≠b:=fun h=>g2 (by simp[h])
  simp -implicitDefEqProofs [g2,hne]
 simp -implicitDefEqProofs [g2]
 refine Aa (hF a.path b.path AE5 ha.2.2.1 hb.2.2.1 (fun j h h'=>hB _ _ (ha.2.2.2 j h) (hb.2.2.2 j h'))) ?_
 by_cases g3:a.path=b.path
 rotate_left
 ·have hne:a≠b:=fun h=>g3 (by simp[h])
  simp -implicitDefEqProofs [g3,hne]
 by_cases g4:a.cls=b.cls
 ·have e:a=b:=by cases a;cases b;simp_all
  simp -implicitDefEqProofs [g3,g4,e]
 ·have hne:a≠b:=fun h=>g4 (by simp[h])
  simp -implicitDefEqProofs [g3,g4,hne]
abbrev APF (R:Rel):Prop:=∀a b:Cr,AbV a→AbV b→R [arg (Gg a),arg (Gg b)] [] (B (decide (a=b))) []
theorem ASu (D:Dn) (hE:Ih (D MO)):APF (Body D APm):=by
 intro a b ha hb
 by_cases g1:a.version=b.version
 rotate_left
 ·have hne:a≠b:=fun h=>g1 (by simp[h])
  simp -implicitDefEqProofs [g1,hne]
 simp -implicitDefEqProofs [g1]
 refine Aa (hE a.stages b.stages ha hb) ?_
 by_cases g2:a.stages=b.stages
 rotate_left
 ·have hne:a≠b:=fun h=>g2 (by simp[h])
  simp -implicitDefEqProofs [g2,hne]
 by_cases g3:a.pos=b.pos
 rotate_left
 ·have hne:a≠b:=fun h=>g3 (by simp[h])
  simp -implicitDefEqProofs [g2,g3,hne]
 by_cases g4:a.off=b.off
 ·have e:a=b:=by cases a;cases b;simp_all
  simp -implicitDefEqProofs [g2,g3,g4,e]
 ·have hne:a≠b:=fun h=>g4 (by simp[h])
  simp -implicitDefEqProofs [g2,g3,g4,hne]
abbrev AQw (R:Rel):Prop:=∀a b:Aeq,AvO a→AvO b→R [arg (AaE a),arg (AaE b)] [] (B (decide (a=b))) []
theorem AUc (D:Dn) (hE:Ih (D MO)):AQw (Body D APP):=by
 intro a b ha hb
 obtain⟨o1,v1,t1⟩:=a
 obtain⟨o2,v2,t2⟩:=b
 by_cases g1:o1=o2
 rotate_left
 ·simp -implicitDefEqProofs [g1]
 subst g1
 by_cases g2:v1=v2
 rotate_left
 ·simp -implicitDefEqProofs [g2]
 subst g2
 cases o1
 ·simp -implicitDefEqProofs
  refine Aa (hE t1 t2 ha hb) ?_
  simp -implicitDefEqProofs
 ·simp -implicitDefEqProofs
  refine Aa (hE t1 t2 ha hb) ?_
  simp -implicitDefEqProofs
abbrev APN (R:Rel):Prop:=∀a b:Cu,Ri a→Ri b→R [arg (Ap a),arg (Ap b)] [] (B (decide (a=b))) []
theorem ATY (D:Dn) (hD:AQw (D AEv)) (hE:Ih (D MO)):APN (Body D APL):=by
 intro a b ha hb
 simp -implicitDefEqProofs
 refine Aa (hD a.deal b.deal ha.1 hb.1) ?_
 by_cases g1:a.deal=b.deal
 rotate_left
 ·have hne:a≠b:=fun h=>g1 (by simp[h])
  have g1':decide (a.deal=b.deal)=false:=by simpa using g1
  rw[g1']
  simp -implicitDefEqProofs [hne]
 have g1':decide (a.deal=b.deal)=true:=by simpa using g1
 rw[g1']
 by_cases g2:a.tries=b.tries
 rotate_left
 ·have hne:a≠b:=fun h=>g2 (by simp[h])
  simp -implicitDefEqProofs [g2,hne]
 simp -implicitDefEqProofs [g2]
 refine Aa (hE a.up b.up ha.2 hb.2) ?_
 by_cases g3:a.up=b.up
 ·have e:a=b:=by cases a;cases b;simp_all
  simp -implicitDefEqProofs [g3,e]
 ·have hne:a≠b:=fun h=>g3 (by simp[h])
  simp -implicitDefEqProofs [g3,hne]
abbrev AQe (R:Rel):Prop:=∀a b:CX,UQ a→UQ b→R [arg (Am a),arg (Am b)] [] (B (decide (a=b))) []
theorem ATE (D:Dn) (hD:APN (D ADa)):AQe (Body D APM):=by
 intro a b ha hb
 obtain⟨a1,a2,a3,a4⟩:=a
 obtain⟨b1,b2,b3,b4⟩:=b
 by_cases g1:a1=b1
 rotate_left
 ·simp -implicitDefEqProofs [g1]
 subst g1
 by_cases g2:a2=b2
 rotate_left
 ·simp -implicitDefEqProofs [g2]
 subst g2
 by_cases g3:a3=b3
 rotate_left
 ·simp -implicitDefEqProofs [g3]
 subst g3
 simp -implicitDefEqProofs
 refine Aa (hD a4 b4 ha hb) ?_
 generalize hq:decide (a4=b4)=q
 simp -implicitDefEqProofs
abbrev AQf (R:Rel):Prop:=∀a b:World,AfI a→AfI b→R [arg (Cc a),arg (Cc b)] [] (B (decide (a=b))) []
theorem ATN (D:Dn) (hE:Ih (D MO)) (hEn:APs (D Azj)) (hFE:AQO D (D KR))
 (hR:APF (D AAv)) (hDi:APN (D ADa)) (hFD:APY D (D MJ))
 (hLo:AQe (D ADb)) (hFL:APT D (D Mx)):AQf (Body D APv):=by
 intro a b ha hb
 obtain⟨a1,a2,a3,a4,a5,a6⟩:=ha
 obtain⟨b1,b2,b3,b4,b5,b6⟩:=hb
 simp -implicitDefEqProofs
 refine Aa (hE a.server b.server a1 b1) ?_
 by_cases g1:a.server=b.server
 rotate_left
 ·have hne:a≠b:=fun h=>g1 (by simp[h])
  simp -implicitDefEqProofs [g1,hne]
 simp -implicitDefEqProofs [g1]
 refine Aa (hE a.tags b.tags a2 b2) ?_
 by_cases g2:a.tags=b.tags
 rotate_left
 ·have hne:a≠b:=fun h=>g2 (by simp[h])
  simp -implicitDefEqProofs [g2,hne]
 by_cases g3:a.key=b.key
 rotate_left
 ·have hne:a≠b:=fun h=>g3 (by simp[h])
  simp -implicitDefEqProofs [g2,g3,hne]
 simp -implicitDefEqProofs [g2,g3]
 refine Aa (hFE a.ends b.ends Azj a3.1 b3.1 (fun j h h'=>hEn _ _ (a3.2 j h) (b3.2 j h'))) ?_
 by_cases g4:a.ends=b.ends
 rotate_left
 ·have hne:a≠b:=fun h=>g4 (by simp[h])
  simp -implicitDefEqProofs [g4,hne]
 simp -implicitDefEqProofs [g4]
 refine Aa (hR a.rollout b.rollout a4 b4) ?_
 by_cases g5:a.rollout=b.rollout
 rotate_left
 ·have hne:a≠b:=fun h=>g5 (by simp[h])
  have g5':decide (a.rollout=b.rollout)=false:=by simpa using g5
  rw[g5']
  simp -implicitDefEqProofs [hne]
 have g5':decide (a.rollout=b.rollout)=true:=by simpa using g5
 rw[g5']
 by_cases g6:a.least=b.least
 rotate_left
 ·have hne:a≠b:=fun h=>g6 (by simp[h])
  simp -implicitDefEqProofs [g6,hne]
 by_cases g7:a.percent=b.percent
 rotate_left
 ·have hne:a≠b:=fun h=>g7 (by simp[h])
  simp -implicitDefEqProofs [g6,g7,hne]
 simp -implicitDefEqProofs [g6,g7]
 refine Aa (hFD a.stage b.stage ADa a5.1 b5.1 (fun j h h'=>hDi _ _ (a5.2 j h) (b5.2 j h'))) ?_
 by_cases g8:a.stage=b.stage
 rotate_left
 ·have hne:a≠b:=fun h=>g8 (by simp[h])
  simp -implicitDefEqProofs [g8,hne]
 simp -implicitDefEqProofs [g8]
 refine Aa (hFL a.log b.log ADb a6.1 b6.1 (fun j h h'=>hLo _ _ (a6.2 j h) (b6.2 j h'))) ?_
 by_cases g9:a.log=b.log
 rotate_left
 ·have hne:a≠b:=fun h=>g9 (by simp[h])
  simp -implicitDefEqProofs [g9,hne]
 by_cases h1:a.now=b.now
 rotate_left
 ·have hne:a≠b:=fun h=>h1 (by simp[h])
  simp -implicitDefEqProofs [g9,h1,hne]
 by_cases h2:a.hurt=b.hurt
 rotate_left
 ·have hne:a≠b:=fun h=>h2 (by simp[h])
  simp -implicitDefEqProofs [g9,h1,h2,hne]
 by_cases h3:a.reached=b.reached
 ·have e:a=b:=by cases a;cases b;simp_all
  simp -implicitDefEqProofs [g9,h1,h2,h3,e]
 ·have hne:a≠b:=fun h=>h3 (by simp[h])
  simp -implicitDefEqProofs [g9,h1,h2,h3,hne]
end Go.Eng.T
namespace Go.Eng.T
set_option maxRecDepth 20000
set_option maxHeartbeats 2000000
theorem max_mem:∀ {l:List Int} {a x:Int},x∈l→x≤l.foldl (fun a v=>if v>a then v else a) a
 | y::l,a,x,h=>by
  have ge:∀(l:List Int) (a:Int),a≤l.foldl (fun a v=>if v>a then v else a) a:=by
   intro l
   induction l with
   | nil=>intro a;exact Int.le_refl a
   | cons z l ih=>
    intro a
    simp only[List.foldl_cons]
    refine Int.le_trans ?_ (ih _)
    split<;>omega
  simp only[List.foldl_cons]
  rcases List.mem_cons.1 h with rfl | h
  ·refine Int.le_trans ?_ (ge l _)
   split<;>omega
  ·exact max_mem h
theorem AVy {s l:List Int} (hs:Bt s=true) (hl:Bt l=true) (h1:1∈s) (h2:1∈l):reach s l=true:=by
 unfold reach BZ
 rw[if_pos ⟨hs,hl⟩]
 have hm:(1:Int)∈common s l:=List.mem_filter.2 ⟨h1,by simpa using h2⟩
 have:=max_mem (a:=0) hm
 have:¬Acb (common s l)=0:=by unfold Acb;omega
 simp[this]
def ARb (y:Int):List Int:=Ic [1] (2+y)
theorem ARi {y:Int} (h:0≤y∧y<2):VP (ARb y) 6 2∧1∈ARb y∧0<(ARb y).length:=
 ⟨AS5 (AVK (by omega)) (by omega),(AIL _ _ _).2 (.inl (by simp)),put_pos _ _⟩
theorem AU4 {l:List Int} {m:Nat} (h:VP l 6 m) (h0:0<l.length):Bt l=true:=ASS h.1 (fun x hx=>by have:=h.2.1 x hx;omega) h0
def AWj (e:Az):Prop:=AVc e∧1∈e.versions∧∃y:Int,(0≤y∧y<2)∧e.versions=ARb y
theorem AWd {e:Az} (h:AVc e):Ad e≤40:=by
 have h1:=h.vers.2.2
 have h2:=h.tags.2.2
 have h3:∀(l:List H9),(∀b,b∈l→AS6 b)→AP BD l≤9*l.length:=by
  intro l
  induction l with
  | nil=>intro _;simp[AP]
  | cons b l ih=>
   intro hb
   have:=ih (fun x hx=>hb x (by simp[hx]))
   have hb0:=hb b (by simp)
   have e1:=hb0.2.1
   have e2:=hb0.2.2
   simp only[AP,BD,List.length_cons,List.map_cons,List.sum_cons]at *
   omega
 have:=h3 e.path h.path.2
 have:=h.path.1
 unfold Ad
 omega
theorem AWg {l:List Az} {m:Nat} (h:∀e,e∈l→Ad e≤m):AP Ad l≤l.length*(m+1):=by
 induction l with
 | nil=>simp[AP]
 | cons e l ih=>
  have:=ih (fun x hx=>h x (by simp[hx]))
  have:=h e (by simp)
  simp only[AP,List.length_cons,List.map_cons,List.sum_cons,Nat.add_mul,Nat.mul_add,Nat.mul_one]at *
  omega
theorem AVL {l:List Az} {P:Az→Prop} {e:Az} (h:∀x,x∈l→P x) (he:P e):∀x,x∈l++ [e]→P x:=by
 intro x hx
 rcases List.mem_append.1 hx with hx | hx
 ·exact h x hx
 ·simp at hx;subst hx;exact he
abbrev zW:List V:=[.nil 1,.nil 1,I 0,.nil 4,I 0,.nil 1,I 0,B false,I 0,I 0,.nil 5,.nil 8,I 0,I 0,I 0]
structure AUf (w:World):Prop where
 ok:Arw w=true
 sz:Ai w≤400
 ends:0<w.ends.length
 eok:∀e,e∈w.ends→AWj e
 nolog:w.log=[]
 nostage:w.stage=[]
 few:w.ends.length≤5
 start:w.now=0∧w.hurt=0
 key:w.key=77∧w.reached=0
 ver:w.rollout.version=4∨w.rollout.version=5
theorem AUx {y z:Int} {r:Cr} {t:List Int} {es:List Az} (hy:0≤y∧y<2) (hz:0≤z∧z<2) (hr:AVV r) (ht:VP t 200 4) (he:∀e,e∈es→AWj e) (hl:0<es.length∧es.length≤5)
 {s:List Int} (hs:s=Ic (Ic [1] (2+y)) (4+z)) {v:Int} (hv:v∈s) (hv4:v=4∨v=5):AUf (AM8 s t es ⟨v,r.stages,0,r.off⟩):=by
 have hs1:VP s 6 3:=by rw[hs];exact AS5 (ARi hy).1 (by omega)
 have hs2:1∈s:=by rw[hs];exact(AIL _ _ _).2 (.inl (ARi hy).2.1)
 have hs3:0<s.length:=List.length_pos_of_mem hs2
 have hsv:=AU4 hs1 hs3
 obtain⟨⟨⟨q1,q2,q3⟩,q4,q5⟩,q6⟩:=hr
 have e1:AOW (AM8 s t es ⟨v,r.stages,0,r.off⟩).server (Ka (AM8 s t es ⟨v,r.stages,0,r.off⟩))=true:=by
  show AOW s _=true
  unfold AOW
  rw[hsv,Bool.true_and,List.all_eq_true]
  intro l hl
  obtain⟨e,he',rfl⟩:=List.mem_map.1 hl
  have h1:=he e he'
  exact AVy hsv (AU4 h1.1.vers h1.1.pos) hs2 h1.2.1
 refine⟨?_,?_,hl.1,he,rfl,rfl,hl.2,⟨rfl,rfl⟩,⟨rfl,rfl⟩,hv4⟩
 ·have e2:Pm t=true:=AU8 ht.1 (fun x hx=>by have:=ht.2.1 x hx;omega)
  have e3:es.all BH=true:=List.all_eq_true.2 fun e h=>AWq (he e h).1
  have e4:BF ⟨v,r.stages,0,r.off⟩=true:=by
   unfold BF
   dsimp only
   have hvb:=hs1.2.1 v hv
   rw[AVB q1 q2,q5]
   simp only[Bool.true_and,Bool.and_eq_true,decide_eq_true_eq]
   exact⟨⟨⟨⟨by omega,by omega⟩,by omega,by omega⟩,by trivial⟩,by omega,by omega⟩
  unfold Arw APc AOM AIX
  rw[e1]
  simp only[AM8,e2,e3,e4,Bool.true_and,Bool.and_true]
  simp -implicitDefEqProofs only[Bool.and_eq_true]
  exact⟨rfl,decide_eq_true (by omega),⟨decide_eq_true hv,decide_eq_true ⟨by omega,by omega⟩,decide_eq_true ⟨by omega,by omega⟩⟩,rfl,rfl,decide_eq_true ⟨by omega,by omega⟩,decide_eq_true ⟨by simp,by simp⟩,decide_eq_true ⟨by omega,by omega⟩⟩
 ·rw[AV2]
  have h1:=hs1.2.2
  have h2:=ht.2.2
  have h3:=AWg (l:=es) (m:=40) (fun e h=>AWd (he e h).1)
  have h4:es.length*41≤5*41:=Nat.mul_le_mul_right _ hl.2
  simp only[AU]
  omega
theorem AVR {y z:Int} (hy:0≤y∧y<2) (hz:0≤z∧z<2) {s:List Int} (hs:s=Ic (Ic [1] (2+y)) (4+z)) (h:s.length-1<s.length):s[s.length-1]=4∨s[s.length-1]=5:=by
 have h1:y=0∨y=1:=by omega
 have h2:z=0∨z=1:=by omega
 subst hs
 rcases h1 with rfl | rfl<;>rcases h2 with rfl | rfl<;>revert h<;>decide
abbrev ARf (R:Rel):Prop:=∀c:Cur,AO2 c→ARs R [] c AUf (fun w=> .agg (Cc w))
theorem AUZ (D:Dn) (hB:AON (D AJG)) (hP:Apu (D Akt)) (hR:ARX (D AJx)) (hE:AR3 (D AJM)) (hT:ARc (D AJt)) (hN:ARg (D AId)):ARf (Body D APH):=by
 intro c hc
 refine APS (fun Q hQ=> ?_)
 simp -implicitDefEqProofs
 obtain⟨y,c1,hy,hc1,py⟩:=hB c 2 hc (by omega)
 simp -implicitDefEqProofs [AGZ,ints]at py
 refine Aa (py) ?_
 have hy2:=hy.2.2 (by omega)
 have w1:IntKind.i64.wrap (2+y)=2+y:=Ab (by omega) (by omega)
 simp -implicitDefEqProofs [w1]
 have pp:=hP [1] (2+y) (by simp)
 simp -implicitDefEqProofs [ints]at pp
 refine Aa (pp) ?_
 simp -implicitDefEqProofs
 obtain⟨z,c2,hz,hc2,pz⟩:=hB c1 2 hc1 (by omega)
 simp -implicitDefEqProofs [AGZ,ints]at pz
 refine Aa (pz) ?_
 have hz2:=hz.2.2 (by omega)
 have w2:IntKind.i64.wrap (4+z)=4+z:=Ab (by omega) (by omega)
 have hl2:=(ARi (y:=y) ⟨by omega,by omega⟩).1.2.2
 unfold ARb at hl2
 simp -implicitDefEqProofs [w2]
 have pp2:=hP (Ic [1] (2+y)) (4+z) (by omega)
 simp -implicitDefEqProofs [ints]at pp2
 refine Aa (pp2) ?_
 obtain⟨sv,hs⟩:∃sv,sv=Ic (Ic [1] (2+y)) (4+z):=⟨_,rfl⟩
 have hsp:0<sv.length:=by rw[hs];exact put_pos _ _
 have hsl:sv.length≤3:=by rw[hs];exact Nat.le_trans (Apl _ _) (by omega)
 rw[←hs]
 simp -implicitDefEqProofs
 obtain⟨r,c3,hr,hc3,pr⟩:=hR c2 hc2
 simp -implicitDefEqProofs [AGZ,ints]at pr
 refine Aa (pr) ?_
 have hws:IntKind.i64.wrap ((sv.length:Int)-1)=(sv.length-1:Nat):=by rw[Ab (by omega) (by omega)];omega
 have hs1:sv.length-1<sv.length:=by omega
 simp -implicitDefEqProofs [hws,hs1]
 obtain⟨x,c4,hx,hc4,px⟩:=hB c3 4 hc3 (by omega)
 simp -implicitDefEqProofs [AGZ,ints]at px
 refine Aa (px) ?_
 have hx4:=hx.2.2 (by omega)
 have w3:IntKind.i64.wrap (2+x)=2+x:=Ab (by omega) (by omega)
 obtain⟨n,hn⟩:∃n:Nat,2+x=n:=⟨(2+x).toNat,by omega⟩
 simp -implicitDefEqProofs [w3,hn]
 have hv:sv[sv.length-1]∈sv:=List.getElem_mem hs1
 have hv4:=AVR ⟨by omega,by omega⟩ ⟨by omega,by omega⟩ hs hs1
 have w5:IntKind.i64.wrap (n:Int)=n:=Ab (by omega) (by omega)
 generalize sv[sv.length-1]=v at hv hv4
 obtain⟨LI,hLI⟩:∃LI:Nat→St→Prop,LI=fun k s=>∃j cc es o8 o9 o10 o11 o12 o13 o14,j+k=n∧AO2 cc∧(es:List Az).length=j∧(∀e,e∈es→AWj e)∧s=⟨[.ptr 0 0,.ptr 1 0,.arr 4,.ptr 6 0,.arr 24,I k,.undef,.undef,.undef],[.var (AGZ cc),.var zW,.arr 1 0 1 [I 1],.arr 1 0 (Ic [1] (2+y)).length (ints (Ic [1] (2+y))),.arr 1 0 sv.length (ints sv),.arr 1 0 r.stages.length (ints r.stages),.var [I v,.arr 5,I 0,B r.off],.free,o8,o9,o10,o11,o12,o13,o14,.free,.free,.free,.free,.free,.free,.free,.free,.free,.arr 4 0 es.length (es.flatMap Ag)]⟩:=⟨_,rfl⟩
 refine Af LI ?_ (n) _ (by rw[hLI];exact⟨0,c4,[],.free,.free,.free,.free,.free,.free,.free,by simp,hc4,rfl,by simp,by simp[ints,w5]⟩)
 intro k s hs
 rw[hLI]at hs
 obtain⟨j,cc,es,o8,o9,o10,o11,o12,o13,o14,hj,hcc,hel,hes,hs⟩:=hs
 subst hs
 by_cases hk:0<k
 ·have hwk:IntKind.i64.wrap ((k:Int)-1)=(k-1:Nat):=by rw[Ab (by omega) (by omega)];omega
  have hb1:(es.length+1)*80≤1099511627776:=by omega
  simp -implicitDefEqProofs [hk]
  obtain⟨e,c5,he,hc5,pe⟩:=hE cc hcc
  simp -implicitDefEqProofs [AGZ,ints]at pe
  refine Aa (pe) ?_
  simp -implicitDefEqProofs
  obtain⟨u,c6,hu,hc6,pu⟩:=hB c5 2 hc5 (by omega)
  simp -implicitDefEqProofs [AGZ,ints]at pu
  refine Aa (pu) ?_
  have hu2:=hu.2.2 (by omega)
  have w4:IntKind.i64.wrap (2+u)=2+u:=Ab (by omega) (by omega)
  simp -implicitDefEqProofs [w4]
  have pp3:=hP [1] (2+u) (by simp)
  simp -implicitDefEqProofs [ints]at pp3
  refine Aa (pp3) ?_
  simp -implicitDefEqProofs [hb1,hwk]
  have ho:=ARi (y:=u) ⟨by omega,by omega⟩
  have he1:AWj ⟨ARb u,e.tags,e.path,e.cls⟩:=⟨⟨ARR ho.1 (by omega),ho.2.2,he.tags,he.path,he.cls⟩,ho.2.1,u,⟨by omega,by omega⟩,rfl⟩
  refine⟨k-1,by omega,?_⟩
  rw[hLI]
  exact⟨j+1,c6,es++ [⟨ARb u,e.tags,e.path,e.cls⟩],_,_,_,_,_,_,_,by omega,hc6,by simp[hel],AVL hes he1,by simp[Ag,ints,ARb];exact⟨rfl,rfl,rfl,rfl,rfl,rfl,rfl⟩⟩
 ·have hk0:k=0:=by omega
  subst hk0
  simp -implicitDefEqProofs
  obtain⟨t,c7,ht,hc7,pt⟩:=hT cc hcc
  simp -implicitDefEqProofs [AGZ,ints]at pt
  refine Aa (pt) ?_
  have hw:=AUx (y:=y) (z:=z) (r:=r) (t:=t) (es:=es) ⟨by omega,by omega⟩ ⟨by omega,by omega⟩ hr ht hes ⟨by omega,by omega⟩ hs hv hv4
  have hnw:=hN sv t es ⟨v,r.stages,0,r.off⟩ (by have:=hw.sz;omega)
  have hne:AP8 sv t es ⟨v,r.stages,0,r.off⟩=(AM8 sv t es ⟨v,r.stages,0,r.off⟩,true):=by unfold AP8;rw[if_pos hw.ok]
  rw[hne]at hnw
  simp -implicitDefEqProofs
  simp -implicitDefEqProofs [AGZ,ints,AM8]at hnw
  refine Aa (hnw) ?_
  simp -implicitDefEqProofs [AhE,F5]
  exact hQ _ c7 hw hc7
end Go.Eng.T
namespace Go.Eng.T
set_option maxRecDepth 20000
set_option maxHeartbeats 4000000
def FK (w:World) (r:Cr):World:={w with rollout:=r}
def BQ (w:World):World×Bool:=
 if w.reached=0 then(w,false)
 else if L8 w=1 then(if(BM w.rollout).2=true then(enter (FK w (BM w.rollout).1),true)else(w,false))
 else if L8 w=2 then(if(Cq w.rollout).2=true then(leave (FK w (Cq w.rollout).1),true)else(w,false))
 else(w,false)
abbrev LG (R:Rel):Prop:=∀w:World,Ai w≤4194304→R [arg (Cc w)] [] (.tup [.agg (Cc (BQ w).1),B (BQ w).2]) []
theorem Awq (r:Cr):AU (BM r).1=AU r:=by unfold BM;split<;>rfl
theorem ADu (r:Cr):AU (Cq r).1=AU r:=by unfold Cq;split<;>rfl
theorem Azx (r:Cr):(Cq r).1.version=r.version:=by unfold Cq;split<;>rfl
theorem Aa3 {w:World} {r:Cr} (h:AU r=AU w.rollout):Ai (FK w r)=Ai w:=by simp only[Ai,FK,h]
theorem ACD {w:World} {r:Cr} (h:r.version=w.rollout.version):leave (FK w r)=FK (leave w) r:=by
 have e:DY (FK w r)=DY w:=by
  funext x
  unfold DY FK
  rw[h]
 unfold leave
 rw[e]
 rfl
theorem Axj (D:Dn) (hC:CV (D Dt)) (hN:Lr (D Anl)) (hX:Lj (D Amm)) (hE:Io (D Xo)) (hB:LK (D Anm)) (hL:Ik (D AeJ)):LG (Body D Tj):=by
 intro w hsz
 have hr:=VH hsz
 simp -implicitDefEqProofs
 refine Aa (hC w hsz) ?_
 by_cases h0:w.reached=0
 ·have e:BQ w=(w,false):=by unfold BQ;rw[if_pos h0]
  simp -implicitDefEqProofs [h0,e]
 simp -implicitDefEqProofs [h0]
 refine Aa (hN w hsz) ?_
 by_cases g1:L8 w=1
 ·simp -implicitDefEqProofs [g1]
  refine Aa (hX w.rollout hr) ?_
  have hs:=Awq w.rollout
  by_cases hk:(BM w.rollout).2=true
  ·have e:BQ w=(enter (FK w (BM w.rollout).1),true):=by unfold BQ;rw[if_neg h0,if_pos g1,if_pos hk]
   rw[e]
   generalize(BM w.rollout).1=r at hs
   simp -implicitDefEqProofs [hk]
   refine Aa (hE (FK w r) (by rw[Aa3 hs];exact hsz)) ?_
   simp -implicitDefEqProofs
  ·have e:BQ w=(w,false):=by unfold BQ;rw[if_neg h0,if_pos g1,if_neg hk]
   rw[e]
   generalize(BM w.rollout).1=r
   simp -implicitDefEqProofs [hk]
   refine Aa (hC w hsz) ?_
   simp -implicitDefEqProofs
 simp -implicitDefEqProofs [g1]
 by_cases g2:L8 w=2
 ·simp -implicitDefEqProofs [g2]
  refine Aa (hB w.rollout hr) ?_
  have hs:=ADu w.rollout
  by_cases hk:(Cq w.rollout).2=true
  ·have e:BQ w=(leave (FK w (Cq w.rollout).1),true):=by unfold BQ;rw[if_neg h0,if_neg g1,if_pos g2,if_pos hk]
   rw[e]
   generalize(Cq w.rollout).1=r at hs
   simp -implicitDefEqProofs [hk]
   refine Aa (hL (FK w r) (by rw[Aa3 hs];exact hsz)) ?_
   simp -implicitDefEqProofs
  ·have e:BQ w=(w,false):=by unfold BQ;rw[if_neg h0,if_neg g1,if_pos g2,if_neg hk]
   rw[e]
   generalize(Cq w.rollout).1=r
   simp -implicitDefEqProofs [hk]
   refine Aa (hC w hsz) ?_
   simp -implicitDefEqProofs
 have e:BQ w=(w,false):=by unfold BQ;rw[if_neg h0,if_neg g1,if_neg g2]
 rw[e]
 simp -implicitDefEqProofs [g2]
 refine Aa (hC w hsz) ?_
 simp -implicitDefEqProofs
theorem Au3 (D:Dn) (hC:CV (D EB)) (hN:Lr (D Ak7)) (hX:Lj (D AkM)) (hE:Io (D XA)) (hB:LK (D AlT)) (hL:Ik (D AdX)):LG (Body D Tw):=by
 intro w hsz
 have hr:=VH hsz
 simp -implicitDefEqProofs
 refine Aa (hC w hsz) ?_
 by_cases h0:w.reached=0
 ·have e:BQ w=(w,false):=by unfold BQ;rw[if_pos h0]
  simp -implicitDefEqProofs [h0,e]
 simp -implicitDefEqProofs [h0]
 refine Aa (hN w hsz) ?_
 by_cases g1:L8 w=1
 ·simp -implicitDefEqProofs [g1]
  refine Aa (hX w.rollout hr) ?_
  have hs:=Awq w.rollout
  by_cases hk:(BM w.rollout).2=true
  ·have e:BQ w=(enter (FK w (BM w.rollout).1),true):=by unfold BQ;rw[if_neg h0,if_pos g1,if_pos hk]
   rw[e]
   generalize(BM w.rollout).1=r at hs
   simp -implicitDefEqProofs [hk]
   refine Aa (hE (FK w r) (by rw[Aa3 hs];exact hsz)) ?_
   simp -implicitDefEqProofs
  ·have e:BQ w=(w,false):=by unfold BQ;rw[if_neg h0,if_pos g1,if_neg hk]
   rw[e]
   generalize(BM w.rollout).1=r
   simp -implicitDefEqProofs [hk]
 simp -implicitDefEqProofs [g1]
 by_cases g2:L8 w=2
 ·simp -implicitDefEqProofs [g2]
  refine Aa (hB w.rollout hr) ?_
  have hv:=Azx w.rollout
  by_cases hk:(Cq w.rollout).2=true
  ·have e:BQ w=(FK (leave w) (Cq w.rollout).1,true):=by unfold BQ;rw[if_neg h0,if_neg g1,if_pos g2,if_pos hk,ACD hv]
   rw[e]
   generalize(Cq w.rollout).1=r
   simp -implicitDefEqProofs [hk]
   refine Aa (hL w hsz) ?_
   simp -implicitDefEqProofs [FK]
  ·have e:BQ w=(w,false):=by unfold BQ;rw[if_neg h0,if_neg g1,if_pos g2,if_neg hk]
   rw[e]
   generalize(Cq w.rollout).1=r
   simp -implicitDefEqProofs [hk]
 have e:BQ w=(w,false):=by unfold BQ;rw[if_neg h0,if_neg g1,if_neg g2]
 rw[e]
 simp -implicitDefEqProofs [g2]
end Go.Eng.T
namespace Go.Eng.T
set_option maxRecDepth 20000
set_option maxHeartbeats 2000000
theorem AnE (p:Int→Bool) (l:List Ext):(kept p l).length≤l.length:=List.length_filter_le _ _
theorem ABe (b:H9) (h:Hello):(CO b h).1.exts.length≤h.exts.length:=by
 unfold CO
 split
 ·exact AnE _ _
 ·simp[Bg]
theorem At1:∀(path:List H9) (h:Hello),(Kg path h).1.exts.length≤h.exts.length
 | [],h=>by simp[Kg]
 | b::r,h=>by
  have h1:=ABe b h
  have h2:=At1 r (CO b h).1
  unfold Kg
  split
  ·omega
  ·simp[Bg]
theorem Ax9 (path:List H9) (h:Hello):(Bw path h).1.exts.length≤h.exts.length:=by
 unfold Bw
 split
 ·exact At1 _ _
 ·simp[Bg]
theorem AKn (h:Hello) (a b:List Int):(GR h a b).1.exts.length≤h.exts.length:=by
 unfold GR
 split
 ·exact AnE (fun t=> !decide (t∈b)) h.exts
 ·simp[Bg]
theorem AJS (h:Hello) (path:List H9):(Di h path).1.exts.length≤h.exts.length:=by
 unfold Di fallback
 have:=AKn h (BS path h.versions) (Gz path (leftOf h.versions (BS path h.versions)) h.exts)
 repeat' split
 all_goals simp[Bg]<;>omega
theorem AFg (h seen:Hello) (vs tags:List Int) (key:Int):(Aj9 h seen vs tags key).tags.length≤seen.exts.length:=by
 unfold Aj9
 split
 ·have:(BI vs tags seen).1.exts.length≤seen.exts.length:=by
   unfold BI
   split
   ·exact Nat.le_trans (AnE (fun t=> !A9 t) (M9 seen.exts tags)) (AnE (fun t=>decide (t∈tags)) seen.exts)
   ·simp
  simpa[Av]using this
 ·simp[Ij]
theorem ALk (h:Hello) (path:List H9) (vs tags:List Int) (key:Int):Ak (AzW h path vs tags key)≤2*h.exts.length+h.versions.length:=by
 unfold AzW
 split
 ·have h1:=AJS h path
  have h2:=Ax9 path (Di h path).1
  have h3:(Yb (Di h path).1 path vs tags key).tags.length≤h.exts.length:=by
   unfold Yb
   split
   ·have:=AFg (Di h path).1 (Bw path (Di h path).1).1 vs tags key;omega
   ·simp[Ij]
  have h4:(ZC h (Di h path).1).length≤h.exts.length+h.versions.length:=by
   unfold ZC leftOf
   have a1:=List.length_filter_le (fun v=> !decide (v∈(Di h path).1.versions)) h.versions
   have a2:=List.length_filter_le (Akn (Av (Di h path).1.exts)) (Av h.exts)
   have a3:(Av h.exts).length=h.exts.length:=Pk _
   simp only[List.length_append,List.length_map]
   omega
  simp only[Ak,EN]
  omega
 ·simp[Ak,EN,Ij]
theorem AES (l:List Ext) (seed:Int) (h:l.length≤5):(En l seed).length≤6:=by
 unfold En
 split
 ·simp;omega
 ·omega
theorem ABD (e:Az) (vs tags:List Int) (key seed:Int):Ak (M8 e vs tags key seed)≤21:=by
 unfold M8
 split
 ·rename_i h1
  have h5:=YE h1
  have e1:Jf e seed=⟨e.versions,En (bare e.tags) seed⟩:=by unfold Jf;rw[if_pos h1]
  have h2:=ALk (Jf e seed) e.path vs tags key
  have h3:=AES (bare e.tags) seed (by rw[Pt];exact h5)
  have h4:e.versions.length≤9:=by
   unfold BH at h1
   simp only[Bool.and_eq_true,decide_eq_true_eq]at h1
   exact AqU h1.1
  rw[e1]at h2⊢
  dsimp only at h2⊢
  omega
 ·simp[Ak,EN,Pn,Ij]
theorem Ait (w:World) (i:Int):Ak (O8 w i)≤21:=by
 unfold O8
 repeat' split
 all_goals first | exact ABD _ _ _ _ _ | simp[Ak,EN,Pn,Ij]
def Q5 (w:World) (i:Int) (d:Cu) (on:Bool):World:=
 {w with log:=w.log++ [⟨i,w.now,on,d⟩],stage:=(if on=true then w.stage++ [d]else w.stage),hurt:=(if(on&&K7 w.rollout.version d)=true then IntKind.i64.wrap (w.hurt+1)else w.hurt)}
def Q6 (w:World) (i:Int):Bool:=decide (PL i 0 ((w.ends.length:Int)-1))&&(decide (w.log.length<60)&&decide (w.stage.length<60))
def DN (w:World) (i:Int):World×Bool:=if Q6 w i=true then(Q5 w i (O8 w i) (Nc w i),true)else(w,false)
abbrev NW (R:Rel):Prop:=∀(w:World) (i:Int),Ai w≤4194304→R [arg (Cc w),I i] [] (.tup [.agg (Cc (DN w i).1),B (DN w i).2]) []
theorem Ayu (D:Dn) (hC:CV (D EB)) (hI:TF (D Cw)) (hDo:VG (D AwK)) (hOn:Rj (D AtB)) (hCd:KJ (D ZE)) (hB:GD (D AlK)):NW (Body D UA):=by
 intro w i hsz
 have he:=DU hsz
 have hw:IntKind.i64.wrap ((w.ends.length:Int)-1)=(w.ends.length:Int)-1:=Ab (by omega) (by omega)
 simp -implicitDefEqProofs
 refine Aa (hC w hsz) ?_
 simp -implicitDefEqProofs [hw]
 refine Aa (hI _ _ _) ?_
 by_cases h1:PL i 0 ((w.ends.length:Int)-1)
 rotate_left
 ·simp -implicitDefEqProofs [h1,DN,Q6]
 by_cases h2:w.log.length<60
 rotate_left
 ·have h2':(60:Int)≤w.log.length:=by omega
  simp -implicitDefEqProofs [h1,h2,h2',DN,Q6]
 have h2':¬(60:Int)≤w.log.length:=by omega
 by_cases h3:w.stage.length<60
 rotate_left
 ·have h3':(60:Int)≤w.stage.length:=by omega
  simp -implicitDefEqProofs [h1,h2,h2',h3,h3',DN,Q6]
 have h3':¬(60:Int)≤w.stage.length:=by omega
 have e:DN w i=(Q5 w i (O8 w i) (Nc w i),true):=by unfold DN Q6;rw[if_pos (by simp[h1,h2,h3])]
 rw[e]
 have hds:=Ait w i
 simp -implicitDefEqProofs [h1,h2',h3']
 refine Aa (hDo w i hsz) ?_
 generalize O8 w i=d at hds
 simp -implicitDefEqProofs
 refine Aa (hOn w i hsz) ?_
 generalize Nc w i=on
 have b1:(w.log.length+1)*96≤1099511627776:=by omega
 have b2:(w.stage.length+1)*72≤1099511627776:=by omega
 have b3:d.up.length≤maxLen:=by unfold Ak at hds;unfold maxLen;omega
 by_cases g:on=true
 rotate_left
 ·simp -implicitDefEqProofs [g,b1,Q5,Am]
 simp -implicitDefEqProofs [g,b1]
 trace_state
 refine Aa (hCd d (by omega)) ?_
 simp -implicitDefEqProofs [g,b1,b2]
 refine Aa (hB d _ b3) ?_
 by_cases g2:K7 w.rollout.version d=true
 ·simp -implicitDefEqProofs [g,g2,b1,b2,Q5,Am,Ap]
 ·simp -implicitDefEqProofs [g,g2,b1,b2,Q5,Am,Ap]
theorem AAt (D:Dn) (hC:CV (D Dt)) (hI:VT (D Py)) (hDo:VG (D Ava)) (hOn:Rj (D ArL)) (hCd:KJ (D X9)) (hB:GD (D AmP)):NW (Body D Ut):=by
 intro w i hsz
 have he:=DU hsz
 simp -implicitDefEqProofs
 refine Aa (hC w hsz) ?_
 simp -implicitDefEqProofs
 refine Aa (hI w i he) ?_
 by_cases h1:PL i 0 ((w.ends.length:Int)-1)
 rotate_left
 ·simp -implicitDefEqProofs [h1,DN,Q6]
 by_cases h2:w.log.length<60
 rotate_left
 ·have h2':(60:Int)≤w.log.length:=by omega
  simp -implicitDefEqProofs [h1,h2,h2',DN,Q6]
 have h2':¬(60:Int)≤w.log.length:=by omega
 by_cases h3:w.stage.length<60
 rotate_left
 ·have h3':(60:Int)≤w.stage.length:=by omega
  simp -implicitDefEqProofs [h1,h2,h2',h3,h3',DN,Q6]
 have h3':¬(60:Int)≤w.stage.length:=by omega
 have e:DN w i=(Q5 w i (O8 w i) (Nc w i),true):=by unfold DN Q6;rw[if_pos (by simp[h1,h2,h3])]
 rw[e]
 have hds:=Ait w i
 simp -implicitDefEqProofs [h1,h2',h3']
 refine Aa (hDo w i hsz) ?_
 generalize O8 w i=d at hds
 simp -implicitDefEqProofs
 refine Aa (hOn w i hsz) ?_
 generalize Nc w i=on
 have b1:(w.log.length+1)*96≤1099511627776:=by omega
 have b2:(w.stage.length+1)*72≤1099511627776:=by omega
 have b3:d.up.length≤maxLen:=by unfold Ak at hds;unfold maxLen;omega
 by_cases g:on=true
 rotate_left
 ·simp -implicitDefEqProofs [g,b1,Q5,Am]
 simp -implicitDefEqProofs [g,b1]
 trace_state
 refine Aa (hCd d (by omega)) ?_
 simp -implicitDefEqProofs [g,b1,b2]
 refine Aa (hB d _ b3) ?_
 by_cases g2:K7 w.rollout.version d=true
 ·simp -implicitDefEqProofs [g,g2,b1,b2,Q5,Am,Ap]
 ·simp -implicitDefEqProofs [g,g2,b1,b2,Q5,Am,Ap]
theorem Af8 (w:World) (i:Int):Ai (DN w i).1+(60-(DN w i).1.log.length)*50≤Ai w+(60-w.log.length)*50∧(DN w i).1.ends=w.ends∧(DN w i).1.rollout=w.rollout:=by
 unfold DN
 split
 ·rename_i h
  unfold Q6 at h
  simp only[Bool.and_eq_true,decide_eq_true_eq]at h
  have hd:=Ait w i
  refine⟨?_,rfl,rfl⟩
  unfold Q5
  simp only[Ai,AP,List.length_append,List.length_cons,List.length_nil,List.map_append,List.map_cons,List.map_nil,List.sum_append,List.sum_cons,List.sum_nil,Ay]
  split
  ·simp only[List.length_append,List.length_cons,List.length_nil,List.map_append,List.map_cons,List.map_nil,List.sum_append,List.sum_cons,List.sum_nil];omega
  ·omega
 ·exact⟨Nat.le_refl _,rfl,rfl⟩
def ADg (w:World):Nat→World
 | 0=>w
 | n+1=>(DN (ADg w n) n).1
def AXR (w:World):World:=ADg w w.ends.length
theorem AFK (w:World):∀n,Ai (ADg w n)+(60-(ADg w n).log.length)*50≤Ai w+(60-w.log.length)*50
 | 0=>Nat.le_refl _
 | n+1=>Nat.le_trans (Af8 (ADg w n) n).1 (AFK w n)
theorem AYf (w:World) (n:Nat):Ai (ADg w n)≤Ai w+3000:=by have:=AFK w n;omega
abbrev AXE (R:Rel):Prop:=∀w:World,Ai w≤4190000→R [arg (Cc w)] [] (.agg (Cc (AXR w))) []
theorem AX7 (D:Dn) (hC:CV (D Dt)) (hD:NW (D Ao5)):AXE (Body D AWC):=by
 intro w hsz
 have he:=DU (w:=w) (by omega)
 simp -implicitDefEqProofs
 refine Aa (hC w (by omega)) ?_
 simp -implicitDefEqProofs
 refine Af (fun k s=>∃j,j+k=w.ends.length∧s=⟨[.undef,.undef,.ptr 1 0,.ptr 8 0,.undef,I w.ends.length,I j,.undef],[.var ((Cc w).map (Be 1)),.var [.nil 1,.nil 1,I 0,.nil 4,I 0,.nil 1,I 0,B false,I 0,I 0,.nil 5,.nil 8,I 0,I 0,I 0],.free,.free,.free,.free,.free,.free,.var [.arr 15,.arr 16,I (ADg w j).key,.arr 17,I (ADg w j).rollout.version,.arr 18,I (ADg w j).rollout.pos,B (ADg w j).rollout.off,I (ADg w j).least,I (ADg w j).percent,.arr 19,.arr 20,I (ADg w j).now,I (ADg w j).hurt,I (ADg w j).reached],.free,.free,.free,.free,.free,.free,.arr 1 0 (ADg w j).server.length (ints (ADg w j).server),.arr 1 0 (ADg w j).tags.length (ints (ADg w j).tags),.arr 4 0 (ADg w j).ends.length ((ADg w j).ends.flatMap Ag),.arr 1 0 (ADg w j).rollout.stages.length (ints (ADg w j).rollout.stages),.arr 5 0 (ADg w j).stage.length ((ADg w j).stage.flatMap Ap),.arr 8 0 (ADg w j).log.length ((ADg w j).log.flatMap Am)]⟩) ?_ (w.ends.length) _ ⟨0,by simp,by simp[ADg]⟩
 intro k s ⟨j,hj,hs⟩
 subst hs
 by_cases hjn:j<w.ends.length
 ·have hw:IntKind.i64.wrap ((j:Int)+1)=(j+1:Nat):=by rw[Ab (by omega) (by omega)];simp
  simp -implicitDefEqProofs [hjn]
  refine Aa (hD (ADg w j) j (by have:=AYf w j;omega)) ?_
  have e:(DN (ADg w j) j).1=ADg w (j+1):=rfl
  rw[e]
  simp -implicitDefEqProofs
  exact⟨k-1,by omega,j+1,by omega,by simp[hw]⟩
 ·obtain rfl:j=w.ends.length:=by omega
  simp -implicitDefEqProofs [AXR]
end Go.Eng.T
namespace Go.Eng.T
theorem ABN (s:List Int) (ls:List (List Int)) (v pm:Int):(J5 s ls v pm).1.length≤s.length:=by
 unfold J5
 split
 ·exact List.length_filter_le _ _
 ·exact Nat.le_refl _
theorem AtM (w:World) (v pm:Int):Ai (BX w v pm).1≤Ai w:=by
 unfold BX
 have:=ABN w.server (Ka w) v pm
 split
 ·simp only[Ai];omega
 ·exact Nat.le_refl _
end Go.Eng.T
namespace Go.Eng.T
set_option maxRecDepth 20000
set_option maxHeartbeats 4000000
def AO (w:World) (e:Event):World×Bool:=
 if e.kind=1 then DN w e.n else if e.kind=2 then Dl w else if e.kind=3 then BQ w else if e.kind=4 then BX w e.n 200 else if e.kind=5 then HV w e.n
 else if e.kind=6 then Gw w e.n e.box else if e.kind=7 then E9 w e.n else if e.kind=8 then EM w e.n else(w,false)
abbrev JX (R:Rel):Prop:=∀(w:World) (e:Event),Ai w≤4194304→Bf e≤4194304→R [arg (Cc w),arg (BB e)] [] (.tup [.agg (Cc (AO w e).1),B (AO w e).2]) []
theorem Asy (D:Dn) (hC:CV (D Dt)) (h1:NW (D Ao5)) (h2:LB (D Anh)) (h3:LG (D AmA)) (h4:JW (D AhL)) (h5:JZ (D AiP))
 (h6:Rh (D As8)) (h7:Lc (D AmD)) (h8:NZ (D Arc)):JX (Body D P6):=by
 intro w e hsz hse
 simp -implicitDefEqProofs
 by_cases g1:e.kind=1
 ·have ha:AO w e=DN w e.n:=by unfold AO;simp[g1]
  rw[ha]
  simp -implicitDefEqProofs [g1]
  refine Aa (h1 w e.n hsz) ?_
  generalize DN w e.n=r
  simp -implicitDefEqProofs
 by_cases g2:e.kind=2
 ·have ha:AO w e=Dl w:=by unfold AO;simp[g2]
  rw[ha]
  simp -implicitDefEqProofs [g2]
  refine Aa (h2 w hsz) ?_
  generalize Dl w=r
  simp -implicitDefEqProofs
 by_cases g3:e.kind=3
 ·have ha:AO w e=BQ w:=by unfold AO;simp[g3]
  rw[ha]
  simp -implicitDefEqProofs [g3]
  refine Aa (h3 w hsz) ?_
  generalize BQ w=r
  simp -implicitDefEqProofs
 by_cases g4:e.kind=4
 ·have ha:AO w e=BX w e.n 200:=by unfold AO;simp[g4]
  rw[ha]
  simp -implicitDefEqProofs [g4]
  refine Aa (h4 w e.n 200 hsz) ?_
  generalize BX w e.n 200=r
  simp -implicitDefEqProofs
 by_cases g5:e.kind=5
 ·have ha:AO w e=HV w e.n:=by unfold AO;simp[g5]
  rw[ha]
  simp -implicitDefEqProofs [g5]
  refine Aa (h5 w e.n hsz) ?_
  generalize HV w e.n=r
  simp -implicitDefEqProofs
 by_cases g6:e.kind=6
 ·have ha:AO w e=Gw w e.n e.box:=by unfold AO;simp[g6]
  rw[ha]
  simp -implicitDefEqProofs [g6]
  refine Aa (h6 w e.n e.box hsz hse) ?_
  generalize Gw w e.n e.box=r
  simp -implicitDefEqProofs
 by_cases g7:e.kind=7
 ·have ha:AO w e=E9 w e.n:=by unfold AO;simp[g7]
  rw[ha]
  simp -implicitDefEqProofs [g7]
  refine Aa (h7 w e.n hsz) ?_
  generalize E9 w e.n=r
  simp -implicitDefEqProofs
 by_cases g8:e.kind=8
 ·have ha:AO w e=EM w e.n:=by unfold AO;simp[g8]
  rw[ha]
  simp -implicitDefEqProofs [g8]
  refine Aa (h8 w e.n hsz) ?_
  generalize EM w e.n=r
  simp -implicitDefEqProofs
 have ha:AO w e=(w,false):=by unfold AO;simp[g1,g2,g3,g4,g5,g6,g7,g8]
 rw[ha]
 simp -implicitDefEqProofs [g1,g2,g3,g4,g5,g6,g7,g8]
 refine Aa (hC w hsz) ?_
 simp -implicitDefEqProofs
theorem Az3:∀(l:List Int) (v:Int),FW (Yf l (FW l v) v) v=FW l v∧(Yf l (FW l v) v)[FW l v]? =some v
 | [],v=>by simp[FW,Yf]
 | x::r,v=>by
  have:=Az3 r v
  by_cases h:x<v
  ·have e:Yf (x::r) (FW (x::r) v) v=x::Yf r (FW r v) v:=by simp[FW,if_pos h,Yf]
   rw[e]
   simp only[FW,if_pos h]
   exact⟨by rw[this.1],by simpa using this.2⟩
  ·simp[FW,if_neg h,Yf]
theorem ACT (l:List Int) (v:Int):Ic (Ic l v) v=Ic l v:=by
 by_cases h:l[FW l v]? =some v
 ·have e:Ic l v=l:=by unfold Ic;rw[if_pos h]
  rw[e,e]
 ·have e:Ic l v=Yf l (FW l v) v:=by unfold Ic;rw[if_neg h]
  have:=Az3 l v
  rw[e]
  unfold Ic
  rw[this.1,if_pos this.2]
theorem AH0 {l:List Int} {v:Int} (h:Ic l v=l):v∈l:=by
 unfold Ic at h
 split at h
 ·rename_i g;exact List.mem_of_getElem? g
 ·have:=congrArg List.length h
  rw[AzN (Axn l v)]at this
  omega
def lacks (v:Int) (e:Az):Nat:=if Ic e.versions v=e.versions then 0 else 1
def Rf (v:Int) (e:Az):Nat:=Ad e+lacks v e
def pot (w:World):Nat:=w.server.length+w.tags.length+AP (Rf w.rollout.version) w.ends+AU w.rollout+AP Ak w.stage+AP Ay w.log+(60-w.log.length)*50
theorem Xw {α β:Type} {f:α→Nat} {g:β→Nat}:∀ {xs:List α} {ys:List β},xs.length=ys.length→(∀(i:Nat) (h:i<xs.length) (h':i<ys.length),f xs[i]≤g ys[i])→AP f xs≤AP g ys
 | [],[],_,_=>Nat.le_refl _
 | x::xs,y::ys,hl,h=>by
  have ih:=Xw (f:=f) (g:=g) (xs:=xs) (ys:=ys) (by simpa using hl) (fun i h1 h2=>h (i+1) (by simpa using h1) (by simpa using h2))
  have h0:=h 0 (by simp) (by simp)
  simp only[AP,List.length_cons,List.map_cons,List.sum_cons,List.getElem_cons_zero]at *
  omega
 | [],_::_,hl,_=>by simp at hl
 | _::_,[],hl,_=>by simp at hl
theorem AMS (w:World):Ai w≤pot w:=by
 have:AP Ad w.ends≤AP (Rf w.rollout.version) w.ends:=Xw rfl (fun i h h'=>by unfold Rf;omega)
 unfold Ai pot
 omega
theorem AMA (w:World):pot w≤Ai w+w.ends.length+3000:=by
 have key:∀(v:Int) (l:List Az),AP (Rf v) l≤AP Ad l+l.length:=by
  intro v l
  induction l with
  | nil=>simp[AP]
  | cons e l ih=>
   have:lacks v e≤1:=by unfold lacks;split<;>omega
   simp only[AP,Rf,List.length_cons,List.map_cons,List.sum_cons]at *
   omega
 have:=key w.rollout.version w.ends
 unfold Ai pot
 omega
theorem AKW (v:Int) (e:Az):Rf v ⟨Ic e.versions v,e.tags,e.path,e.cls⟩≤Rf v e:=by
 have h1:=Apl e.versions v
 unfold Rf lacks Ad
 dsimp only
 rw[if_pos (ACT _ _)]
 split
 ·rename_i h;rw[h];omega
 ·omega
theorem filter_lt {p:Int→Bool} {l:List Int} {x:Int} (h:x∈l) (hp:p x=false):(l.filter p).length<l.length:=by
 induction l with
 | nil=>simp at h
 | cons a r ih=>
  have hr:=List.length_filter_le p r
  rcases List.mem_cons.1 h with rfl | h
  ·rw[List.filter_cons_of_neg (by simp[hp])]
   simp only[List.length_cons];omega
  ·have:=ih h
   rw[List.filter_cons]
   split<;>simp only[List.length_cons]<;>omega
theorem AFM (w:World) (e:Az):Rf w.rollout.version (DY w e)≤Rf w.rollout.version e:=by
 unfold DY
 split
 ·have h1:(Cg e.versions w.rollout.version).length≤e.versions.length:=List.length_filter_le _ _
  unfold Rf Ad
  dsimp only
  by_cases hg:Ic e.versions w.rollout.version=e.versions
  ·have h2:(Cg e.versions w.rollout.version).length<e.versions.length:=filter_lt (AH0 hg) (by simp)
   have:lacks w.rollout.version ⟨Cg e.versions w.rollout.version,e.tags,e.path,e.cls⟩≤1:=by unfold lacks;split<;>omega
   omega
  ·have h2:lacks w.rollout.version e=1:=by unfold lacks;rw[if_neg hg]
   have:lacks w.rollout.version ⟨Cg e.versions w.rollout.version,e.tags,e.path,e.cls⟩≤1:=by unfold lacks;split<;>omega
   omega
 ·exact Nat.le_refl _
theorem AuT (w:World):pot (enter w)≤pot w:=by
 unfold enter
 split
 ·have h:AP (Rf w.rollout.version) (w.ends.mapIdx (Fq w))≤AP (Rf w.rollout.version) w.ends:=Xw (by simp) (fun i h h'=>by
   rw[List.getElem_mapIdx]
   unfold Fq
   split
   ·exact AKW _ _
   ·exact Nat.le_refl _)
  have h0:AP Ak ([]:List Cu)=0:=rfl
  simp only[pot,h0]
  omega
 ·exact Nat.le_refl _
theorem AMf (w:World):pot (leave w)≤pot w:=by
 have h:AP (Rf w.rollout.version) (w.ends.map (DY w))≤AP (Rf w.rollout.version) w.ends:=Xw (by simp) (fun i h h'=>by
  rw[List.getElem_map]
  exact AFM w _)
 have h0:AP Ak ([]:List Cu)=0:=rfl
 unfold leave
 simp only[pot,h0]
 omega
theorem Ax6 {w:World} {r:Cr} (h:AU r=AU w.rollout) (hv:r.version=w.rollout.version):pot (FK w r)=pot w:=by
 unfold FK
 simp only[pot,h,hv]
theorem AIe (r:Cr):(BM r).1.version=r.version:=by unfold BM;split<;>rfl
theorem ADU {w:World} {j:Nat} (hj:j<w.ends.length) (e:Az):pot {w with ends:=w.ends.set j e} +Rf w.rollout.version w.ends[j]=pot w+Rf w.rollout.version e:=by
 have:=size_set (f:=Rf w.rollout.version) hj e
 simp only[pot]
 omega
theorem AFu (w:World) (e:Event):pot (AO w e).1≤pot w+1+Bf e:=by
 unfold AO
 split
 ·have h:=Af8 w e.n
  obtain⟨h1,h2,h3⟩:=h
  have h4:(DN w e.n).1.server=w.server∧(DN w e.n).1.tags=w.tags:=by unfold DN;split<;>exact⟨rfl,rfl⟩
  unfold Ai at h1
  rw[h2,h3,h4.1,h4.2]at h1
  unfold pot
  rw[h2,h3,h4.1,h4.2]
  have hm:AP Ad w.ends≤AP (Rf w.rollout.version) w.ends:=Xw rfl (fun i h h'=>by unfold Rf;omega)
  omega
 split
 ·have:=AuT w
  unfold Dl
  split<;>dsimp only<;>omega
 split
 ·unfold BQ
  split
  ·dsimp only;omega
  split
  ·split
   ·have:=AuT (FK w (BM w.rollout).1)
    rw[Ax6 (Awq _) (AIe _)]at this
    dsimp only;omega
   ·dsimp only;omega
  split
  ·split
   ·have:=AMf (FK w (Cq w.rollout).1)
    rw[Ax6 (ADu _) (Azx _)]at this
    dsimp only;omega
   ·dsimp only;omega
  ·dsimp only;omega
 split
 ·have h:=AtM w e.n 200
  have h2:(BX w e.n 200).1.ends=w.ends∧(BX w e.n 200).1.rollout=w.rollout∧(BX w e.n 200).1.stage=w.stage∧(BX w e.n 200).1.log=w.log∧(BX w e.n 200).1.tags=w.tags:=by
   unfold BX
   repeat' split
   all_goals exact⟨rfl,rfl,rfl,rfl,rfl⟩
  unfold Ai at h
  rw[h2.1,h2.2.1,h2.2.2.1,h2.2.2.2.1,h2.2.2.2.2]at h
  unfold pot
  rw[h2.1,h2.2.1,h2.2.2.1,h2.2.2.2.1,h2.2.2.2.2]
  omega
 split
 ·have h:=Asd w e.n
  unfold Ai at h
  unfold pot
  unfold HV at *
  dsimp only at *
  omega
 split
 ·unfold Gw
  split
  ·split
   ·rename_i x hx
    split
    ·obtain⟨hj,rfl⟩:=List.getElem?_eq_some_iff.1 hx
     have:=ADU hj ⟨w.ends[e.n.toNat].versions,w.ends[e.n.toNat].tags,w.ends[e.n.toNat].path++ [e.box],w.ends[e.n.toNat].cls⟩
     have h1:Rf w.rollout.version ⟨w.ends[e.n.toNat].versions,w.ends[e.n.toNat].tags,w.ends[e.n.toNat].path++ [e.box],w.ends[e.n.toNat].cls⟩=Rf w.rollout.version w.ends[e.n.toNat]+1+BD e.box:=by
      unfold Rf Ad lacks
      simp only[AP,List.length_append,List.length_cons,List.length_nil,List.map_append,List.map_cons,List.map_nil,List.sum_append,List.sum_cons,List.sum_nil]
      omega
     unfold Bf
     dsimp only
     omega
    ·dsimp only;omega
   ·dsimp only;omega
  ·dsimp only;omega
 split
 ·unfold E9
  split
  ·split
   ·rename_i x hx
    split
    ·dsimp only;omega
    ·unfold AgF
     rw[hx]
     obtain⟨hj,rfl⟩:=List.getElem?_eq_some_iff.1 hx
     have:=ADU hj ⟨w.ends[e.n.toNat].versions,w.ends[e.n.toNat].tags,[],w.ends[e.n.toNat].cls⟩
     have h1:Rf w.rollout.version ⟨w.ends[e.n.toNat].versions,w.ends[e.n.toNat].tags,[],w.ends[e.n.toNat].cls⟩≤Rf w.rollout.version w.ends[e.n.toNat]:=by
      unfold Rf Ad lacks
      simp only[AP,List.length_nil,List.map_nil,List.sum_nil]
      omega
     dsimp only
     omega
   ·dsimp only;omega
  ·dsimp only;omega
 split
 ·unfold EM
  split
  ·simp only[pot];omega
  ·dsimp only;omega
 ·dsimp only;omega
def Aq (w:World) (l:List Event):World:=l.foldl (fun x e=>(AO x e).1) w
theorem Ap6 {w:World} {l:List Event} {j:Nat} (h:j<l.length):Aq w (l.take (j+1))=(AO (Aq w (l.take j)) l[j]).1:=by
 have e:l.take (j+1)=l.take j++ [l[j]]:=by simp
 unfold Aq
 rw[e,List.foldl_append]
 rfl
theorem AC7 (w:World) (l:List Event):∀j,j≤l.length→pot (Aq w (l.take j))≤pot w+AP Bf (l.take j)
 | 0,_=>by simp[Aq]
 | j+1,h=>by
  have hj:j<l.length:=by omega
  have h1:=AC7 w l j (by omega)
  have h2:=AFu (Aq w (l.take j)) l[j]
  have e:l.take (j+1)=l.take j++ [l[j]]:=by simp
  rw[Ap6 hj,e]
  simp only[AP,List.length_append,List.length_cons,List.length_nil,List.map_append,List.map_cons,List.map_nil,List.sum_append,List.sum_cons,List.sum_nil]at *
  omega
theorem AEH {α:Type} (f:α→Nat) (l:List α) (j:Nat):AP f (l.take j)≤AP f l:=by
 have e:l=l.take j++l.drop j:=(List.take_append_drop j l).symm
 have:AP f l=AP f (l.take j)+AP f (l.drop j):=by
  conv=>lhs;rw[e]
  simp only[AP,List.length_append,List.map_append,List.sum_append]
  omega
 omega
def Af0 (w:World) (l:List Event):Prop:=Ai w+w.ends.length+3000+AP Bf l≤4194304
theorem ABh {w:World} {l:List Event} (h:Af0 w l) {j:Nat} (hj:j≤l.length):Ai (Aq w (l.take j))≤4194304:=by
 have h1:=AC7 w l j hj
 have h2:=AMS (Aq w (l.take j))
 have h3:=AMA w
 have h4:=AEH Bf l j
 unfold Af0 at h
 omega
abbrev Li (R:Rel):Prop:=∀(w:World) (l:List Event),Af0 w l→R [arg (Cc w),.sl 1 6 l.length (l.flatMap BB)] [] (.agg (Cc (Aq w l))) []
end Go.Eng.T
namespace Go.Eng.T
set_option maxRecDepth 20000
set_option maxHeartbeats 2000000
def AWI (e:Event):Prop:=1≤e.kind∧e.kind≤8∧0≤e.n∧(e.n≤6∧(e.kind=8→e.n≤3))∧AS6 e.box
theorem AV7 {e:Event} (h:AWI e):Bf e≤8:=by
 have h1:=h.2.2.2.2.2.1
 have h2:=h.2.2.2.2.2.2
 unfold Bf BD
 omega
theorem AV0:∀(l:List Event),(∀e,e∈l→AWI e)→AP Bf l≤9*l.length
 | [],_=>by simp[AP]
 | a::r,h=>by
  have h1:=AV7 (h a (by simp))
  have h2:=AV0 r (fun e he=>h e (by simp[he]))
  simp only[AP,List.length_cons,List.map_cons,List.sum_cons]at *
  omega
theorem AVS:AS6 ⟨0,[],[],false⟩:=by
 have hn:=ARR (AU1 200) (show 0≤4 by omega)
 exact ATd (by dsimp only;omega) hn hn
abbrev AWo (R:Rel):Prop:=∀c:Cur,AO2 c→ARs R [] c AWI (fun e=> .agg (BB e))
theorem AXX (D:Dn) (hB:AON (D AJG)) (hX:AQn (D AJI)):AWo (Body D AVF):=by
 intro c hc
 refine APS (fun Q hQ=> ?_)
 simp -implicitDefEqProofs
 obtain⟨x,c1,hx,hc1,px⟩:=hB c 12 hc (by omega)
 simp -implicitDefEqProofs [AGZ,ints]at px
 refine Aa (px) ?_
 by_cases g0:x=0
 ·simp -implicitDefEqProofs [g0,AhE,F5]
  exact hQ ⟨2,0,⟨0,[],[],false⟩⟩ c1 ⟨by dsimp only;omega,by dsimp only;omega,by dsimp only;omega,by dsimp only;omega,AVS⟩ hc1
 by_cases g1:x=1
 ·simp -implicitDefEqProofs [g1,AhE,F5]
  exact hQ ⟨3,0,⟨0,[],[],false⟩⟩ c1 ⟨by dsimp only;omega,by dsimp only;omega,by dsimp only;omega,by dsimp only;omega,AVS⟩ hc1
 by_cases g2:x=2
 ·simp -implicitDefEqProofs [g2,AhE,F5]
  exact hQ ⟨3,0,⟨0,[],[],false⟩⟩ c1 ⟨by dsimp only;omega,by dsimp only;omega,by dsimp only;omega,by dsimp only;omega,AVS⟩ hc1
 by_cases g3:x=3
 ·simp -implicitDefEqProofs [g3]
  obtain⟨y,c2,hy,hc2,py⟩:=hB c1 5 hc1 (by omega)
  simp -implicitDefEqProofs [AGZ,ints]at py
  refine Aa (py) ?_
  have hyn:=hy.2.2 (by omega)
  have w1:IntKind.i64.wrap (1+y)=1+y:=Ab (by omega) (by omega)
  simp -implicitDefEqProofs [w1,AhE,F5]
  exact hQ ⟨4,1+y,⟨0,[],[],false⟩⟩ c2 ⟨by dsimp only;omega,by dsimp only;omega,by dsimp only;omega,by dsimp only;omega,AVS⟩ hc2
 by_cases g4:x=4
 ·simp -implicitDefEqProofs [g4]
  obtain⟨y,c2,hy,hc2,py⟩:=hB c1 6 hc1 (by omega)
  simp -implicitDefEqProofs [AGZ,ints]at py
  refine Aa (py) ?_
  have hyn:=hy.2.2 (by omega)
  have w1:IntKind.i64.wrap (1+y)=1+y:=Ab (by omega) (by omega)
  simp -implicitDefEqProofs [w1,AhE,F5]
  exact hQ ⟨5,1+y,⟨0,[],[],false⟩⟩ c2 ⟨by dsimp only;omega,by dsimp only;omega,by dsimp only;omega,by dsimp only;omega,AVS⟩ hc2
 by_cases g5:x=5
 ·simp -implicitDefEqProofs [g5]
  obtain⟨y,c2,hy,hc2,py⟩:=hB c1 5 hc1 (by omega)
  simp -implicitDefEqProofs [AGZ,ints]at py
  refine Aa (py) ?_
  have hyn:=hy.2.2 (by omega)
  simp -implicitDefEqProofs
  obtain⟨b,c3,hb,hc3,pb⟩:=hX c2 hc2
  simp -implicitDefEqProofs [AGZ,ints]at pb
  refine Aa (pb) ?_
  simp -implicitDefEqProofs [AhE,F5]
  exact hQ ⟨6,y,b⟩ c3 ⟨by dsimp only;omega,by dsimp only;omega,by dsimp only;omega,by dsimp only;omega,hb⟩ hc3
 by_cases g6:x=6
 ·simp -implicitDefEqProofs [g6]
  obtain⟨y,c2,hy,hc2,py⟩:=hB c1 5 hc1 (by omega)
  simp -implicitDefEqProofs [AGZ,ints]at py
  refine Aa (py) ?_
  have hyn:=hy.2.2 (by omega)
  simp -implicitDefEqProofs [AhE,F5]
  exact hQ ⟨7,y,⟨0,[],[],false⟩⟩ c2 ⟨by dsimp only;omega,by dsimp only;omega,by dsimp only;omega,by dsimp only;omega,AVS⟩ hc2
 by_cases g7:x=7
 ·simp -implicitDefEqProofs [g7]
  obtain⟨y,c2,hy,hc2,py⟩:=hB c1 3 hc1 (by omega)
  simp -implicitDefEqProofs [AGZ,ints]at py
  refine Aa (py) ?_
  have hyn:=hy.2.2 (by omega)
  have w1:IntKind.i64.wrap (1+y)=1+y:=Ab (by omega) (by omega)
  simp -implicitDefEqProofs [w1,AhE,F5]
  exact hQ ⟨8,1+y,⟨0,[],[],false⟩⟩ c2 ⟨by dsimp only;omega,by dsimp only;omega,by dsimp only;omega,by dsimp only;omega,AVS⟩ hc2
 ·simp -implicitDefEqProofs [g0,g1,g2,g3,g4,g5,g6,g7]
  obtain⟨y,c2,hy,hc2,py⟩:=hB c1 5 hc1 (by omega)
  simp -implicitDefEqProofs [AGZ,ints]at py
  refine Aa (py) ?_
  have hyn:=hy.2.2 (by omega)
  simp -implicitDefEqProofs [AhE,F5]
  exact hQ ⟨1,y,⟨0,[],[],false⟩⟩ c2 ⟨by dsimp only;omega,by dsimp only;omega,by dsimp only;omega,by dsimp only;omega,AVS⟩ hc2
abbrev AWA (R:Rel):Prop:=∀(c:Cur) (m:Int),AO2 c→m≤100→ARs R [I m] c (fun l:List Event=>(∀e,e∈l→AWI e)∧0<l.length∧(l.length:Int)≤1+(if 0<m then m-1 else 0)) (fun l=> .sl 0 6 l.length (l.flatMap BB))
theorem AXV (D:Dn) (hB:AON (D AJG)) (hE:AWo (D AGW)):AWA (Body D AU5):=by
 intro c m hc hm
 refine APS (fun Q hQ=> ?_)
 simp -implicitDefEqProofs
 obtain⟨x,c1,hx,hc1,px⟩:=hB c m hc (by omega)
 simp -implicitDefEqProofs [AGZ,ints]at px
 refine Aa (px) ?_
 have hxm:0≤x∧x≤(if 0<m then m-1 else 0):=by
  refine⟨hx.1,?_⟩
  by_cases g:0<m
  ·have:=hx.2.2 g
   rw[if_pos g];omega
  ·have:=hx.2.1 (by omega)
   rw[if_neg g];omega
 have hx100:x≤100:=by
  have:=hxm.2
  split at this<;>omega
 obtain⟨n,rfl⟩:∃n:Nat,x=n:=⟨x.toNat,by omega⟩
 simp -implicitDefEqProofs
 obtain⟨LI,hLI⟩:∃LI:Nat→St→Prop,LI=fun k s=>∃cd l o1 o2 o3 o4 o5,k≤n∧(l:List Event).length+k=n+1∧(∀e,e∈l→AWI e)∧AO2 cd∧s=⟨[.ptr 0 0,.undef,.undef,.arr 6,I k,.undef],[.var (AGZ cd),o1,o2,o3,o4,o5,.arr 6 0 l.length (l.flatMap BB)]⟩:=⟨_,rfl⟩
 refine Af LI ?_ n _ (by
  rw[hLI]
  exact⟨c1,[⟨2,0,⟨0,[],[],false⟩⟩],.free,.free,.free,.free,.free,by omega,by simp;omega,fun e he=>by
   rw[List.mem_singleton.1 he]
   exact⟨by dsimp only;omega,by dsimp only;omega,by dsimp only;omega,by dsimp only;omega,AVS⟩,hc1,by simp[AGZ,BB,ints]⟩)
 intro k s hs
 rw[hLI]at hs
 obtain⟨cd,l,o1,o2,o3,o4,o5,hkn,hlk,hl,hcd,hs⟩:=hs
 subst hs
 by_cases hk:0<k
 ·have hwk:IntKind.i64.wrap ((k:Int)-1)=(k-1:Nat):=by rw[Ab (by omega) (by omega)];omega
  have hb1:(l.length+1)*80≤1099511627776:=by omega
  simp -implicitDefEqProofs [hk]
  obtain⟨e,c5,he,hc5,pe⟩:=hE cd hcd
  simp -implicitDefEqProofs [AGZ,ints]at pe
  refine Aa (pe) ?_
  simp -implicitDefEqProofs [hb1,hwk]
  refine⟨k-1,by omega,?_⟩
  rw[hLI]
  exact⟨c5,l++ [e],_,_,_,_,_,by omega,by simp;omega,fun x hx=>by
   rcases List.mem_append.1 hx with hx | hx
   ·exact hl x hx
   ·rw[List.mem_singleton.1 hx];exact he,hc5,by simp[AGZ,BB,ints];exact⟨rfl,rfl,rfl,rfl,rfl⟩⟩
 ·have hk0:k=0:=by omega
  subst hk0
  simp -implicitDefEqProofs [AhE,F5]
  exact hQ l cd ⟨hl,by omega,by have:=hxm.2;omega⟩ hcd
end Go.Eng.T
namespace Go.Eng.T
set_option maxRecDepth 20000
set_option maxHeartbeats 2000000
def apart (w:World) (j:Nat):Bool:=match w.ends[j]? with
 | some e=>AQa e.path&&(!(O8 w j).deal.ok|| !decide ((O8 w j).deal.version=BZ w.server e.versions))
 | none=>false
end Go.Eng.T
namespace Go.Eng.T
set_option maxRecDepth 20000
set_option maxHeartbeats 2000000
theorem AV1 (p:Int→Bool) (l:List Ext):(kept p l).length≤l.length:=List.length_filter_le _ _
theorem AUp (b:H9) (h:Hello):(CO b h).1.exts.length≤h.exts.length:=by
 unfold CO
 split
 ·exact AV1 _ _
 ·simp[Bg]
theorem AUV:∀(path:List H9) (h:Hello),(Kg path h).1.exts.length≤h.exts.length
 | [],h=>Nat.le_refl _
 | b::r,h=>by
  unfold Kg
  split
  ·exact Nat.le_trans (AUV r _) (AUp b h)
  ·simp[Bg]
end Go.Eng.T
namespace Go.Eng.T
set_option maxRecDepth 20000
set_option maxHeartbeats 2000000
def AUy (bs:List Int):Prop:=bs.length≤1048576∧∀b,b∈bs→0≤b∧b≤255
def ARw (R:Rel) (bs:List Int) {α:Type} (P:α→Prop) (res:α→V):Prop:=∃a,P a∧R [.sl 3 1 bs.length (u8s bs)] [] (res a) []
theorem AQu {D:Dn} {f:Bp} {bs:List Int} {α:Type} {P:α→Prop} {res:α→V} (h:∀Q:V→List O→Prop,(∀a,P a→Q (res a) [])→AU6 D f [.sl 3 1 bs.length (u8s bs)] [] Q):ARw (Body D f) bs P res:=by
 obtain⟨v,o,⟨a,h1,rfl,rfl⟩,h3⟩:=AT8 (P:=fun v o=>∃a,P a∧v=res a∧o=[]) (fun Q hQ=>h Q (fun a h1=>hQ _ _ ⟨a,h1,rfl,rfl⟩))
 exact⟨a,h1,h3⟩
end Go.Eng.T
namespace Go.Eng.T
set_option maxRecDepth 20000
set_option maxHeartbeats 2000000
abbrev AWb (R:Rel):Prop:=∀bs:List Int,bs.length≤maxLen→R [.sl 3 1 bs.length (u8s bs)] [] (B (decide (1048576<bs.length))) []
theorem AWO (D:Dn):AWb (Body D ASj):=by
 intro bs h
 unfold maxLen at h
 by_cases h1:1048576<bs.length
 ·have h1':(1048576:Int)<bs.length:=by omega
  simp -implicitDefEqProofs [h1,h1']
 ·have h1':¬(1048576:Int)<bs.length:=by omega
  simp -implicitDefEqProofs [h1,h1']
def AWf (bs:List Int):Prop:=bs.length≤maxLen∧∀b,b∈bs→0≤b∧b≤255
end Go.Eng.T
namespace Go.Eng.T
open Go.Eng.X
def FE:Nat→Bl
 |0=>R 0 [m (z 2)] [] [2]
 |1=>R 1 [m (s 0),C 318 [r (l 0)] [0],m (s 1),C 319 [r (l 2)] [],m (l 1),m (l 3)] [(3,4),(4,5)] []
 |2=>R 2 [m (s 0),C 320 [r (l 0)] [],n (l 1),m (l 2),G 3 (m (s 0)),G 3 (e (l 4)),G 3 (y .eql (l 5) (i 6)),k (l 3) t (l 6),m (l 7),G 8 (m (s 0)),G 8 (m (s 4)),G 8 (C 321 [r (l 9),r (l 10)] []),G 8 (y .geq (l 11) (i 0)),k (l 8) t (l 12)] [(6,13)] []
 |3=>R 3 [m (s 3),m (l 0)] [(2,1)] [0,1,3,4]
 |4=>R 4 [m (s 1),C 322 [r (l 0),r (i 3),r (i 256)] [],M 1 1 1 [l 1],m (s 1),C 322 [r (l 3),r (i 2),r (i 3)] [],C 323 [r (l 2),r (l 4)] [2],m (l 5)] [(5,6)] []
 |_=>R 5 [m (s 3),m (s 1),m (s 0),e (l 2),y .add (l 3) (i 1),C 322 [r (l 1),r (i 1),r (l 4)] [],m (s 4),m (s 5),b [o,N 1] [(0,1,l 6),(1,1,l 7)],M 3 2 1 [l 8],C 324 [v (l 0),r (l 5),v (l 9)] [4],m (l 10)] [(2,11)] [0,1,3,4,5]
def PZ:Bp:=⟨7,5,[0,1],0,false,[],j (d (FE 0)) (j (d (FE 1)) (j (j (d (FE 2)) (h 6 (j (d (FE 3)) (.ret)) (.skip))) (j (d (FE 4)) (j (d (FE 5)) (.ret))))),[.slot 2]⟩
def Aeu:List Tmp:=[0,1,4,5,6,7,25]
def ASs:Nat→Bl
 |0=>R 0 [m f] [] [1]
 |1=>R 1 [m (s 0),C 460 [r (l 0)] []] [(12,1)] []
 |2=>R 2 [m t] [(1,0)] [0]
 |3=>R 3 [m (s 0),C 522 [r (l 0)] [0,1,2,3,4,5,6],m (l 1),X (l 2) 0,X (l 2) 1,a 7 zW,W 15 (l 5) (l 3),m (l 4)] [(2,5),(3,7)] []
 |4=>R 4 [P 15 (s 2),m (s 3),C 533 [r (l 0),r (l 1)] [8,9,10,11,12,13],a 14 zW,W 15 (l 3) (l 2)] [(4,3)] []
 |5=>R 5 [m (s 0),C 534 [r (l 0),r (i 3)] [],m (s 3),e (l 2),y .rem (l 1) (l 3),m (l 4)] [(5,5)] []
 |6=>T 6 [D (P 15 (s 4)) [14] [],D (C 184 [r (l 0)] []) [8,9,10,11,12,13] [],D (n (l 1)) [] [],D (m (l 2)) [] [],H 3 (P 15 (s 4)) [14] [],H 3 (P 15 (s 2)) [7] [],H 3 (m (s 3)) [] [],H 3 (m (s 5)) [] [],H 3 (.slice 6 (l 6) none (some (l 7))) [6] [],H 3 (C 533 [r (l 5),r (l 8)] [15,16,17,18,19,20]) [0,1,2,3,4,5,6,15,16,17,18,19,20] [15,16,17,18,19,20],H 3 (m (s 3)) [] [],H 3 (m (s 5)) [] [],H 3 (.slice 6 (l 10) (some (l 11)) none) [6] [],H 3 (C 533 [r (l 9),r (l 12)] [21,22,23,24,25,26]) [6,15,16,17,18,19,20,21,22,23,24,25,26] [21,22,23,24,25,26],H 3 (C 500 [r (l 4),r (l 13)] []) [8,9,10,11,12,13,21,22,23,24,25,26] [],H 3 (n (l 14)) [] [],D (k (l 3) t (l 15)) [] [],D (m (l 16)) [] [],H 17 (F (s 4) 11) [] [],H 17 (L (l 18)) [14] [],H 17 (e (l 19)) [13] [],H 17 (m (s 3)) [] [],H 17 (C 383 [r (l 21),r (i 1)] []) [6] [],H 17 (y .gtr (l 20) (l 22)) [] [],D (k (l 17) t (l 23)) [] []] [(13,24)] [2,3,4,5]
 |7=>R 7 [m f] [(1,0)] [0]
 |8=>R 8 [m (s 0),C 535 [r (l 0)] [27,28,29,30,31,32,33,34],m (l 1),X (l 2) 0,X (l 2) 1,a 35 zW,a 36 [o,o,o,N 1,N 1,c],W 15 (l 5) (l 3),W 6 (l 6) (l 4)] [(6,5),(7,6)] []
 |9=>R 9 [P 15 (s 6),P 6 (s 7),C 41 [r (l 0),r (l 1)] [37,38,39,40,41,42],m (l 2),X (l 3) 0,X (l 3) 1,a 43 zW,W 15 (l 6) (l 4),m (l 5)] [(8,6),(9,8)] []
 |10=>R 10 [m (s 0),C 536 [r (l 0)] [44,45,46,47,48,49],a 50 zW,W 15 (l 2) (l 1)] [(10,2)] [0]
 |11=>R 11 [P 15 (s 10),C 44 [r (l 0)] [51,52,53,54,55,56],a 57 zW,W 15 (l 2) (l 1)] [(11,2)] []
 |_=>R 12 [m (s 9),m (l 0),G 1 (P 15 (s 6)),G 1 (P 15 (s 8)),G 1 (C 500 [r (l 2),r (l 3)] []),k (l 1) t (l 4),m (l 5),J 6 (m (s 9)),J 6 (n (l 7)),J 6 (m (l 8)),G 9 (F (s 7) 0),G 9 (L (l 10)),G 9 (C 377 [r (l 11)] []),G 9 (y .neq (l 12) (.con (.sc (.string ⟨#[]⟩)))),J 6 (k (l 9) t (l 13)),k (l 6) (l 14) f,m (l 15),J 16 (F (s 11) 11),J 16 (L (l 17)),J 16 (e (l 18)),J 16 (F (s 10) 11),J 16 (L (l 20)),J 16 (e (l 21)),J 16 (F (s 10) 3),J 16 (L (l 23)),J 16 (e (l 24)),J 16 (y .add (l 22) (l 25)),J 16 (y .eql (l 19) (l 26)),k (l 16) (l 27) f,m (l 28)] [(1,29)] [6,7,8,9,10,11]
def AV4:Bp:=⟨14,58,[0],0,false,[],j (d (ASs 0)) (j (j (d (ASs 1)) (h 12 (j (d (ASs 2)) (.ret)) (.skip))) (j (d (ASs 3)) (j (d (ASs 4)) (j (d (ASs 5)) (j (j (d (ASs 6)) (h 13 (j (d (ASs 7)) (.ret)) (.skip))) (j (d (ASs 8)) (j (d (ASs 9)) (j (d (ASs 10)) (j (d (ASs 11)) (j (d (ASs 12)) (.ret))))))))))),[.slot 1]⟩
def AXq:List Tmp:=[0,2,3,4,5,6,7,8,9,10,11,12,14,52]
def AS4:Nat→Bl
 |0=>R 0 [a 0 zW,m (z 6)] [(1,0)] [2]
 |1=>R 1 [m (s 0),C 473 [r (l 0)] [1],m (l 1)] [(3,2)] [0]
 |2=>R 2 [m (s 3),C 479 [v (l 0)] [2,3,4,5,6,7],a 8 zW,W 15 (l 2) (l 1)] [(4,2)] []
 |3=>R 3 [m (s 3),C 474 [v (l 0),r (i 2)] []] [(5,1)] []
 |4=>R 4 [m (s 3),C 478 [v (l 0),r (i 3)] [],y .add (i 1) (l 1),F (s 4) 8,W 1 (l 3) (l 2)] [] []
 |_=>T 5 [D (P 15 (s 4)) [8] [],D (m (s 3)) [] [],D (C 484 [v (l 1),r (i 18)] [9]) [1,9] [1,9],D (W 15 (s 1) (l 0)) [0] [0],D (m (l 2)) [] []] [(2,4)] [3,4]
def AUE:Bp:=⟨6,10,[0],0,false,[],j (d (AS4 0)) (j (d (AS4 1)) (j (d (AS4 2)) (j (j (d (AS4 3)) (h 5 (d (AS4 4)) (.skip))) (j (d (AS4 5)) (.ret))))),[.cell 1 (some 15),.slot 2]⟩
def AWD:List Tmp:=[0,2,3,4,5,11]
def Ej:Nat→Bl
 |0=>R 0 [x 0 (s 0),a 1 zW] [(2,0),(3,1)] [0]
 |1=>Q 1 [P 15 (s 2),C 38 [r (l 0)] [2,3,4,5,6,7],a 8 zW,W 15 (l 2) (l 1)] [(4,2)] [2] [] [w 2 16,w 3 17,w 6 20,w 7 21,w 4 18,w 5 19]
 |2=>R 2 [m (s 1),e (l 0),m (i 0)] [(6,0),(7,1),(8,2)] [1]
 |3=>R 3 [y .lss (s 8) (s 7)] [(9,0)] []
 |4=>Q 4 [A 6 (s 6) (s 8),P 6 (l 0),a 9 [o,o,o,N 1,N 1,c],W 6 (l 2) (l 1)] [(5,2)] [] [9] []
 |5=>Q 5 [P 15 (s 4),P 6 (s 5),C 41 [r (l 0),r (l 1)] [10,11,12,13,14,15],m (l 2),X (l 3) 0,X (l 3) 1,W 15 (s 4) (l 4)] [] [5] [10,11,12,13,14,15] [w 10 16,w 11 17,w 14 20,w 15 21,w 12 18,w 13 19]
 |6=>R 6 [y .add (s 8) (i 1),m (l 0)] [(8,1)] []
 |_=>R 7 [P 15 (s 4),W 15 (s 3) (l 0)] [] [4,6,7,8]
def RY:Bp:=⟨10,22,[0,1],0,false,[],j (d (Ej 0)) (j (d (Ej 1)) (j (j (d (Ej 2)) (.block 0 (.loop (j (d (Ej 3)) (j (h 9 (.skip) (.exit 0)) (j (.block 1 (j (d (Ej 4)) (d (Ej 5)))) (d (Ej 6)))))))) (j (d (Ej 7)) (.ret)))),[.cell 3 (some 15)]⟩
def Agd:List Tmp:=[0,1,2,4,5,7,10,11,12,13]
def AV5:Nat→Bl
 |0=>R 0 [m (i 0)] [] [2]
 |1=>R 1 [m (s 1),m (s 0),e (l 1),y .lss (l 0) (l 2)] [(3,3)] []
 |2=>R 2 [m (s 0),m (s 1),A 1 (l 0) (l 1),L (l 2),JQ.conv .i64 (l 3),m (l 4)] [(2,5)] [0,1]
 |_=>R 3 [m (s 1),y .mul (l 0) (i 31),m (s 0),e (l 2),y .mul (l 3) (i 7),y .add (l 1) (l 4),y .rem (l 5) (i 256),m (l 6)] [(2,7)] [0,1]
def AXG:Bp:=⟨4,0,[0,1],0,false,[],j (d (AV5 0)) (j (j (d (AV5 1)) (h 3 (j (d (AV5 2)) (.ret)) (.skip))) (j (d (AV5 3)) (.ret))),[.slot 2]⟩
def AXY:List Tmp:=[0,1,4,8]
def ASG:Nat→Bl
 |0=>R 0 [a 0 zW,a 1 [o,o,o,N 1,N 1,c]] [(1,0),(2,1)] []
 |1=>R 1 [m (s 0),C 473 [r (l 0)] [2],m (l 1)] [(3,2)] [0]
 |2=>R 2 [m (s 3),C 539 [v (l 0)] [3,4,5,6,7,8],a 9 zW,W 15 (l 2) (l 1)] [(4,2)] []
 |3=>R 3 [m (s 3),C 492 [v (l 0)] [10,11],a 12 [o,o,o,N 1,N 1,c],W 6 (l 2) (l 1)] [(5,2)] []
 |4=>R 4 [m (s 3),C 474 [v (l 0),r (i 9)] []] [(6,1)] []
 |5=>R 5 [m (s 3),C 478 [v (l 0),r (i 11)] [],y .sub (l 1) (i 1),F (s 5) 0,W 1 (l 3) (l 2)] [] [3]
 |_=>T 6 [D (P 15 (s 4)) [9] [],D (P 6 (s 5)) [12] [],D (W 15 (s 1) (l 0)) [0] [0],D (W 6 (s 2) (l 1)) [1] [1]] [] [4,5]
def AUh:Bp:=⟨7,13,[0],0,false,[],j (d (ASG 0)) (j (d (ASG 1)) (j (d (ASG 2)) (j (d (ASG 3)) (j (j (d (ASG 4)) (h 6 (d (ASG 5)) (.skip))) (j (d (ASG 6)) (.ret)))))),[.cell 1 (some 15),.cell 2 (some 6)]⟩
def AWs:List Tmp:=[0,2,3,4,5,6,14]
def AUN:Nat→Bl
 |0=>R 0 [a 0 zW] [(1,0)] []
 |1=>R 1 [m (s 0),C 473 [r (l 0)] [1],m (l 1)] [(2,2)] [0]
 |_=>R 2 [m (s 2),C 539 [v (l 0)] [2,3,4,5,6,7],W 15 (s 1) (l 1)] [] [2]
def AUY:Bp:=⟨3,8,[0],0,false,[],j (d (AUN 0)) (j (d (AUN 1)) (j (d (AUN 2)) (.ret))),[.cell 1 (some 15)]⟩
def AXf:List Tmp:=[0,2,3]
def ArA:Nat→Bl
 |0=>R 0 [a 1 zW] [(1,0)] []
 |1=>Q 1 [m (s 0),C 479 [v (l 0)] [2,3,4,5,6,7],a 8 zW,W 15 (l 2) (l 1)] [(2,2)] [] [] [w 2 41,w 3 42,w 6 45,w 7 46,w 4 43,w 5 44]
 |2=>R 2 [m (s 0),C 474 [v (l 0),r (i 3)] []] [(4,1)] []
 |3=>R 3 [m (s 0),C 478 [v (l 0),r (i 3)] [],y .add (i 1) (l 1),F (s 2) 8,W 1 (l 3) (l 2)] [] []
 |4=>R 4 [m (s 0),C 474 [v (l 0),r (i 4)] [],n (l 1)] [(5,2)] []
 |5=>Q 5 [P 15 (s 2),C 74 [r (l 0)] [9,10,11,12,13,14],m (l 1),X (l 2) 0,X (l 2) 1,W 15 (s 2) (l 3)] [] [] [] [w 9 41,w 10 42,w 13 45,w 14 46,w 11 43,w 12 44]
 |6=>R 6 [m (s 0),C 478 [v (l 0),r (i 9)] [],m (l 1)] [(3,2)] []
 |7=>R 7 [m (s 3),y .gtr (l 0) (i 0)] [(6,1)] []
 |8=>R 9 [m (s 0),C 478 [v (l 0),r (i 7)] []] [(7,1)] []
 |9=>R 11 [y .eql (s 7) (i 0),m (l 0)] [(8,1)] []
 |10=>Y 12 [D (P 15 (s 2)) [8] [],D (m (s 0)) [] [],D (C 478 [v (l 1),r (i 3)] []) [0] [0],D (y .add (i 1) (l 2)) [] [],D (C 80 [r (l 0),r (l 3)] [15,16,17,18,19,20]) [15,16,17,18,19,20,41,42,43,44,45,46] [15,16,17,18,19,20],D (m (l 4)) [] [],D (X (l 5) 0) [] [],D (X (l 5) 1) [] [],D (W 15 (s 2) (l 6)) [8] [8]] [] [7] [15,16,17,18,19,20] [w 15 41,w 16 42,w 19 45,w 20 46,w 17 43,w 18 44]
 |11=>R 13 [y .eql (s 7) (i 1),m (l 0)] [(9,1)] []
 |12=>Q 14 [P 15 (s 2),C 75 [r (l 0)] [21,22,23,24,25,26],m (l 1),X (l 2) 0,X (l 2) 1,W 15 (s 2) (l 3)] [] [7] [21,22,23,24,25,26] [w 21 41,w 22 42,w 25 45,w 26 46,w 23 43,w 24 44]
 |13=>R 15 [y .eql (s 7) (i 2),m (l 0)] [(10,1)] [7]
 |14=>Y 16 [D (P 15 (s 2)) [8] [],D (m (s 0)) [] [],D (C 478 [v (l 1),r (i 5)] []) [0] [0],D (m (s 0)) [] [],D (C 494 [v (l 3)] [27,28]) [0,27,28] [0,27,28],D (C 78 [r (l 0),r (l 2),r (l 4)] [29,30,31,32,33,34]) [27,28,29,30,31,32,33,34,41,42,43,44,45,46] [29,30,31,32,33,34],D (m (l 5)) [] [],D (X (l 6) 0) [] [],D (X (l 6) 1) [] [],D (W 15 (s 2) (l 7)) [8] [8]] [] [] [27,28,29,30,31,32,33,34] [w 29 41,w 30 42,w 33 45,w 34 46,w 31 43,w 32 44]
 |15=>Y 10 [D (P 15 (s 2)) [8] [],D (m (s 0)) [] [],D (F (s 2) 3) [] [],D (L (l 2)) [8] [],D (e (l 3)) [43] [],D (C 478 [v (l 1),r (l 4)] []) [0] [0],D (C 72 [r (l 0),r (l 5)] [35,36,37,38,39,40]) [35,36,37,38,39,40,41,42,43,44,45,46] [35,36,37,38,39,40],D (m (l 6)) [] [],D (X (l 7) 0) [] [],D (X (l 7) 1) [] [],D (W 15 (s 2) (l 8)) [8] [8]] [] [] [35,36,37,38,39,40] [w 35 41,w 36 42,w 39 45,w 40 46,w 37 43,w 38 44]
 |16=>R 8 [m (s 3),y .sub (l 0) (i 1),m (l 1)] [(3,2)] []
 |_=>R 17 [P 15 (s 2),W 15 (s 1) (l 0)] [] [0,2,3]
def AOX:Bp:=⟨11,47,[0],1,false,[],j (d (ArA 0)) (j (d (ArA 1)) (j (j (d (ArA 2)) (h 4 (d (ArA 3)) (.skip))) (j (j (d (ArA 4)) (h 5 (d (ArA 5)) (.skip))) (j (j (d (ArA 6)) (.block 0 (.loop (j (j (d (ArA 7)) (h 6 (.skip) (.exit 0))) (j (.block 1 (j (d (ArA 8)) (.block 2 (j (d (ArA 9)) (h 8 (d (ArA 10)) (j (d (ArA 11)) (h 9 (d (ArA 12)) (j (d (ArA 13)) (h 10 (d (ArA 14)) (d (ArA 15))))))))))) (d (ArA 16))))))) (j (d (ArA 17)) (.ret)))))),[.cell 1 (some 15)]⟩
def ASe:List Tmp:=[0,2,3,4,8,15,24,28,39,49,56]
def Ao:Nat→Bl
 |0=>R 0 [m (z 1)] [] [1]
 |1=>R 1 [m (i 0)] [(2,0)] []
 |2=>R 2 [m (s 0),e (l 0),m (i 0)] [(6,0),(7,1),(8,2)] []
 |3=>R 3 [y .lss (s 8) (s 7)] [(9,0)] []
 |4=>R 4 [A 1 (s 6) (s 8),L (l 0),m (l 1)] [(3,2)] []
 |5=>R 5 [m (s 2),m (s 3),e (l 1),y .add (l 0) (l 2),m (l 3)] [(2,4)] [3]
 |6=>R 6 [m (s 2),y .lss (l 0) (i 0)] [(10,1)] []
 |7=>R 8 [y .add (s 8) (i 1),m (l 0)] [(8,1)] []
 |8=>Q 9 [m (s 2),C 419 [r (.con (.sc (.slice none 0 0))),r (l 0)] [0],m (l 1)] [(4,2)] [2,6,7,8] [] [w 0 2]
 |9=>R 10 [m (s 0),e (l 0),m (i 0)] [(11,0),(12,1),(13,2)] [0]
 |10=>R 11 [y .lss (s 13) (s 12)] [(14,0)] []
 |11=>R 12 [A 1 (s 11) (s 13),L (l 0),m (l 1)] [(5,2)] []
 |12=>Q 13 [m (s 4),m (s 5),q 1 1 8 (l 0) (l 1),m (l 2)] [(4,3)] [5] [1] [w 1 2]
 |13=>R 14 [y .add (s 13) (i 1),m (l 0)] [(13,1)] []
 |_=>R 15 [m (s 4),m (l 0)] [(1,1)] [4,11,12,13]
def IK:Bp:=⟨15,3,[0],0,false,[],j (d (Ao 0)) (j (d (Ao 1)) (j (j (d (Ao 2)) (.block 0 (.loop (j (d (Ao 3)) (j (h 9 (.skip) (.exit 0)) (j (.block 1 (j (d (Ao 4)) (j (d (Ao 5)) (j (d (Ao 6)) (h 10 (.stuck) (.skip)))))) (d (Ao 7)))))))) (j (d (Ao 8)) (j (j (d (Ao 9)) (.block 2 (.loop (j (d (Ao 10)) (j (h 14 (.skip) (.exit 2)) (j (.block 3 (j (d (Ao 11)) (d (Ao 12)))) (d (Ao 13)))))))) (j (d (Ao 14)) (.ret)))))),[.slot 1]⟩
def RL:List Tmp:=[0,2,3,5,6,8,9,10,11,12,20,25,26,27,28]
attribute [simp] FE PZ ASs AV4 AS4 AUE Ej RY AV5 AXG ASG AUh AUN AUY ArA AOX Ao IK
end Go.Eng.T
namespace Go.Eng.T
abbrev Aum:Nat:=511
abbrev AAA:Nat:=512
abbrev AFI:Nat:=513
abbrev AFj:Nat:=514
abbrev Axu:Nat:=515
abbrev AHP:Nat:=516
abbrev AHM:Nat:=517
abbrev AI1:Nat:=518
abbrev AAE:Nat:=519
abbrev AyW:Nat:=520
abbrev ALP:Nat:=521
abbrev AAG:Nat:=522
abbrev AJr:Nat:=523
abbrev AC1:Nat:=524
abbrev AAB:Nat:=525
abbrev AAe:Nat:=526
abbrev AzJ:Nat:=527
abbrev ADr:Nat:=528
abbrev AA4:Nat:=529
abbrev AAF:Nat:=530
abbrev AAM:Nat:=531
abbrev AIV:Nat:=532
abbrev Ali:Nat:=533
abbrev ANX:Nat:=534
abbrev Ayh:Nat:=535
abbrev AE3:Nat:=536
abbrev AGe:Nat:=537
abbrev ADm:Nat:=538
abbrev AID:Nat:=539
abbrev AAX:Nat:=540
abbrev AHg:Nat:=541
abbrev Auw:Nat:=542
abbrev AGj:Nat:=543
abbrev Aw7:Nat:=544
abbrev AiZ:Nat:=545
abbrev AGD:Nat:=546
abbrev Axw:Nat:=547
abbrev AxF:Nat:=548
abbrev AxQ:Nat:=549
abbrev AJF:Nat:=550
abbrev Avb:Nat:=551
abbrev Aui:Nat:=552
abbrev AAx:Nat:=553
abbrev Axx:Nat:=554
abbrev AJj:Nat:=555
abbrev Axy:Nat:=556
abbrev AAz:Nat:=557
abbrev Azp:Nat:=558
abbrev ALw:Nat:=559
abbrev ABw:Nat:=560
abbrev AJe:Nat:=561
abbrev AKP:Nat:=562
abbrev AJ7:Nat:=563
abbrev ALJ:Nat:=564
end Go.Eng.T
namespace Go.Eng.T
set_option maxRecDepth 20000
set_option maxHeartbeats 4000000
theorem AYe {w:World} {l:List Event} {m:Nat} (hw:Ai w≤400) (he:∀e,e∈l→AWI e) (hl:l.length≤30):Af0 w l∧Ai (Aq w l)≤4200:=by
 have h1:=AV0 l he
 have h2:=AC7 w l l.length (Nat.le_refl _)
 rw[List.take_length]at h2
 have h3:=AMS (Aq w l)
 have h4:=AMA w
 have h5:w.ends.length≤Ai w:=by have:=FL (f:=Ad) (xs:=w.ends);unfold Ai;omega
 refine⟨by unfold Af0;omega,by omega⟩
end Go.Eng.T
namespace Go.Eng.T
set_option maxRecDepth 20000
set_option maxHeartbeats 2000000
theorem AUR {α:Type} {f:α→Nat}:∀(l:List α) (j:Nat) (hj:j<l.length) (e:α),f e≤f l[j]+1→AP f (l.set j e)≤AP f l+1
 | a::l,0,_,e,h=>by
  simp only[List.getElem_cons_zero]at h
  simp[AP];omega
 | a::l,j+1,hj,e,h=>by
  have:=AUR l j (by simpa using hj) e (by simpa using h)
  simp only[AP,List.set_cons_succ,List.length_cons,List.map_cons,List.sum_cons]at *
  omega
end Go.Eng.T
namespace Go.Eng.T
set_option maxRecDepth 20000
def AVl (p:Nat→Bool):Nat→Nat
 | 0=>0
 | n+1=>AVl p n+(if p n then 1 else 0)
theorem AWi (p:Nat→Bool):∀n,AVl p n≤n
 | 0=>Nat.le_refl 0
 | n+1=>by have:=AWi p n;simp only[AVl];split<;>omega
end Go.Eng.T
namespace Go.Eng.T
set_option maxRecDepth 20000
theorem AUC {l:List Int} (h:0<Acb l):∃x,x∈l∧0<x:=by
 by_cases hx:∃x,x∈l∧0<x
 ·exact hx
 ·exfalso
  have h1:∀y,y∈l→y<1:=fun y hy=>by
   by_cases h2:0<y
   ·exact absurd ⟨y,hy,h2⟩ hx
   ·omega
  have:=ADI (x:=1) l 0 h1 (by omega)
  unfold Acb at h
  omega
theorem AVj {s l l':List Int} (h:0<BZ s l) (hl:Bt l' =true) (hs:∀x,x∈l→x∈l'):0<BZ s l':=by
 unfold BZ at h⊢
 split at h
 ·rename_i hc
  rw[if_pos ⟨hc.1,hl⟩]
  obtain⟨x,hx,h0⟩:=AUC h
  unfold common at hx⊢
  have hx':=List.mem_filter.1 hx
  have hm:x∈s.filter fun v=>decide (v∈l'):=List.mem_filter.2 ⟨hx'.1,by simpa using hs x (by simpa using hx'.2)⟩
  have:=max_mem (a:=0) hm
  unfold Acb
  omega
 ·omega
theorem AU3 (s l:List Int):0≤BZ s l:=by
 unfold BZ
 split
 ·unfold Acb
  have ge:∀(l:List Int) (a:Int),a≤l.foldl (fun a v=>if v>a then v else a) a:=by
   intro l
   induction l with
   | nil=>intro a;exact Int.le_refl a
   | cons z l ih=>
    intro a
    simp only[List.foldl_cons]
    refine Int.le_trans ?_ (ih _)
    split<;>omega
  exact ge _ 0
 ·omega
theorem APB {s l:List Int}:reach s l=true↔0<BZ s l:=by
 unfold reach
 have:=AU3 s l
 simp
 omega
theorem AS2 {l:List Int} {v:Int} (h:Bt l=true) (hv:1≤v∧v≤9):Bt (Ic l v)=true:=by
 refine ASS (ADP v (AjX h)) (fun x hx=> ?_) (put_pos l v)
 rcases(AIL l v x).1 hx with hx | rfl
 ·have:=AD1 h x hx;exact⟨this.1,this.2⟩
 ·exact hv
theorem AQR {l:List Int} {s:List Int} (h:0<BZ s l):Bt l=true:=by
 unfold BZ at h
 split at h
 ·rename_i hc;exact hc.2
 ·omega
theorem ARv {e:Az} (h:BH e=true) {l:List Int} (hl:Bt l=true):BH ⟨l,e.tags,e.path,e.cls⟩=true:=by
 unfold BH at h⊢
 simp only[Bool.and_eq_true]at h⊢
 exact⟨hl,h.2⟩
structure AWp (w:World):Prop where
 reach:Bt w.server=true∧∀e,e∈w.ends→reach w.server e.versions=true
 tags:Pm w.tags=true∧Yk w.key=true
 few:w.ends.length≤6
 ends:∀e,e∈w.ends→BH e=true
 b:AOM w=true
 c:AIX w=true
theorem AGm {w:World}:Arw w=true↔AWp w:=by
 unfold Arw APc AOW
 simp only[Bool.and_eq_true,decide_eq_true_eq,List.all_eq_true]
 constructor
 ·rintro ⟨⟨⟨h1,h2⟩,h3,h4⟩,h5,h6,h7,h8⟩
  exact⟨⟨h1,fun e he=>h2 _ (List.mem_map.2 ⟨e,he,rfl⟩)⟩,⟨h3,h4⟩,h5,h6,h7,h8⟩
 ·rintro ⟨⟨h1,h2⟩,⟨h3,h4⟩,h5,h6,h7,h8⟩
  exact⟨⟨⟨h1,fun l hl=>by obtain⟨e,he,rfl⟩:=List.mem_map.1 hl;exact h2 e he⟩,h3,h4⟩,h5,h6,h7,h8⟩
theorem AUk {w:World} (h:Arw w=true):Arw (leave w)=true:=by
 have p:=AGm.1 h
 refine AGm.2 ⟨⟨p.reach.1,?_⟩,p.tags,by simp[leave];exact p.few,?_,p.b,?_⟩
 ·intro e he
  obtain⟨e0,h0,rfl⟩:=List.mem_map.1 he
  unfold DY
  split
  ·rename_i hb;exact APB.2 hb
  ·exact p.reach.2 e0 h0
 ·intro e he
  obtain⟨e0,h0,rfl⟩:=List.mem_map.1 he
  unfold DY
  split
  ·rename_i hb;exact ARv (p.ends e0 h0) (AQR hb)
  ·exact p.ends e0 h0
 ·have hc:=p.c
  unfold AIX at hc⊢
  simp only[leave,Bool.and_eq_true]at hc⊢
  exact⟨by simp,hc.2⟩
theorem AUM {r:Cr} (h:BF r=true):PL r.version 1 9∧PL r.pos 0 ((r.stages.length:Int)-1)∧(∀x,x∈r.stages→1≤x∧x≤100):=by
 unfold BF at h
 simp only[Bool.and_eq_true,decide_eq_true_eq]at h
 obtain⟨h1,⟨⟨h2,h3⟩,h4⟩,h5⟩:=h
 refine⟨h2,h5,fun x hx=> ?_⟩
 obtain⟨i,hi,rfl⟩:=List.getElem_of_mem hx
 have:=AI4 h1 hi
 rw[getD_at hi]at this
 exact⟨this.1,this.2⟩
theorem ASn {w:World} (h:Arw w=true):Arw (enter w)=true:=by
 by_cases hc:Jg w=true
 rotate_left
 ·unfold enter;rw[if_neg hc];exact h
 have p:=AGm.1 h
 have hr:BF w.rollout=true:=by
  unfold Jg at hc
  simp only[Bool.and_eq_true]at hc
  exact hc.1
 have rf:=AUM hr
 have e:enter w={w with ends:=w.ends.mapIdx (Fq w),stage:=[],reached:=max w.reached (w.rollout.pos+1)}:=by unfold enter;rw[if_pos hc]
 have hm:∀e1,e1∈(enter w).ends→∃e0,e0∈w.ends∧(e1=e0∨e1=⟨Ic e0.versions w.rollout.version,e0.tags,e0.path,e0.cls⟩):=by
  intro e1 h1
  rw[e]at h1
  dsimp only at h1
  obtain⟨i,hi,rfl⟩:=List.getElem_of_mem h1
  rw[List.getElem_mapIdx]
  have hi':i<w.ends.length:=by simpa using hi
  refine⟨w.ends[i],List.getElem_mem hi',?_⟩
  unfold Fq
  split
  ·exact .inr rfl
  ·exact .inl rfl
 refine AGm.2 ⟨⟨by rw[e];exact p.reach.1,?_⟩,by rw[e];exact p.tags,by rw[e];simp;exact p.few,?_,by rw[e];exact p.b,?_⟩
 ·intro e1 h1
  obtain⟨e0,h0,h2⟩:=hm e1 h1
  have hs:(enter w).server=w.server:=by rw[e]
  rw[hs]
  rcases h2 with rfl | rfl
  ·exact p.reach.2 _ h0
  ·have:=APB.1 (p.reach.2 e0 h0)
   exact APB.2 (AVj this (AS2 (AQR this) ⟨rf.1.1,rf.1.2⟩) (fun x hx=>(AIL _ _ _).2 (.inl hx)))
 ·intro e1 h1
  obtain⟨e0,h0,h2⟩:=hm e1 h1
  rcases h2 with rfl | rfl
  ·exact p.ends _ h0
  ·have:=APB.1 (p.reach.2 e0 h0)
   exact ARv (p.ends e0 h0) (AS2 (AQR this) ⟨rf.1.1,rf.1.2⟩)
 ·have hc:=p.c
  unfold AIX at hc⊢
  rw[e]
  simp only[Bool.and_eq_true,decide_eq_true_eq]at hc⊢
  obtain⟨_,h2,h3,h4,h5⟩:=hc
  refine⟨by simp,h2,h3,h4,?_⟩
  have:=rf.2.1.1
  have:=rf.2.1.2
  have:=h5.1
  have:=h5.2
  constructor<;>omega
theorem AV9 {p:Nat→Bool} {c:Int} (h0:0≤c):∀n,(∀i,i<n→p i=decide ((i:Int)<c))→(AVl p n:Int)=min (n:Int) c
 | 0,_=>by simp[AVl];omega
 | n+1,h=>by
  have ih:=AV9 h0 n (fun i hi=>h i (by omega))
  have hn:=h n (by omega)
  unfold AVl
  by_cases hc:(n:Int)<c
  ·rw[hn]
   simp only[hc,decide_true,if_true]
   omega
  ·rw[hn]
   simp only[hc,decide_false]
   simp only[Bool.false_eq_true,if_false]
   omega
end Go.Eng.T
namespace Go.Eng.T
set_option maxRecDepth 20000
set_option maxHeartbeats 2000000
theorem AVb {w:World} (h:Arw w=true):WO w.hurt 0 w.log.length∧w.log.length≤60∧w.stage.length≤60:=by
 have:=(AGm.1 h).c
 unfold AIX at this
 simp only[Bool.and_eq_true,decide_eq_true_eq]at this
 exact⟨this.2.2.2.1,this.2.1,this.1⟩
theorem AUX {w:World} {i:Int} {d:Cu} {on:Bool} (h:Arw w=true) (hm:Q6 w i=true):Arw (Q5 w i d on)=true:=by
 have p:=AGm.1 h
 have hh:=AVb h
 unfold Q6 at hm
 simp only[Bool.and_eq_true,decide_eq_true_eq]at hm
 have hw:IntKind.i64.wrap (w.hurt+1)=w.hurt+1:=Ab (by have:=hh.1.1;omega) (by have:=hh.1.2;omega)
 refine AGm.2 ⟨p.reach,p.tags,p.few,p.ends,p.b,?_⟩
 have hc:=p.c
 unfold AIX at hc⊢
 simp only[Bool.and_eq_true,decide_eq_true_eq]at hc⊢
 obtain⟨h1,h2,h3,h4,h5⟩:=hc
 refine⟨?_,by simp[Q5];omega,h3,?_,h5⟩
 ·unfold Q5;dsimp only;split
  ·simp;omega
  ·exact h1
 ·unfold Q5
  dsimp only
  rw[hw]
  have a1:=h4.1
  have a2:=h4.2
  split
  ·constructor
   ·omega
   ·simp;omega
  ·constructor
   ·omega
   ·simp;omega
theorem ASX {w:World} {i:Int} (h:Arw w=true):Arw (DN w i).1=true:=by
 unfold DN
 split
 ·rename_i hm;exact AUX h hm
 ·exact h
theorem ASz {w:World} (h:Arw w=true):Arw (Dl w).1=true:=by
 unfold Dl
 split
 ·exact ASn h
 ·exact h
theorem ASW {w:World} {r:Cr} (h:Arw w=true) (hr:BF r=true) (hv:r.version=w.rollout.version) (hs:r.stages=w.rollout.stages):Arw (FK w r)=true:=by
 have p:=AGm.1 h
 refine AGm.2 ⟨p.reach,p.tags,p.few,p.ends,?_,?_⟩
 ·have hb:=p.b
  unfold AOM at hb⊢
  unfold FK
  simp only[Bool.and_eq_true,decide_eq_true_eq]at hb⊢
  rw[hv]
  exact⟨hr,hb.2⟩
 ·have hc:=p.c
  unfold AIX at hc⊢
  unfold FK
  dsimp only
  rw[hs]
  exact hc
theorem AVC {r:Cr} (h:(BM r).2=true):BF (BM r).1=true:=by
 unfold BM at h⊢
 split at h
 ·rename_i hc
  rw[if_pos hc]
  unfold TW at hc
  simp only[Bool.and_eq_true,Bool.not_eq_true',decide_eq_false_iff_not]at hc
  obtain⟨h1,h2,h3⟩:=hc
  unfold BF at h1⊢
  simp only[Bool.and_eq_true,decide_eq_true_eq]at h1⊢
  obtain⟨a1,⟨⟨a2,a3⟩,a4⟩,a5⟩:=h1
  have:=a5.1
  have:=a5.2
  exact⟨a1,⟨⟨a2,a3⟩,a4⟩,⟨by omega,by omega⟩⟩
 ·cases h
theorem AVq {r:Cr} (h:(Cq r).2=true):BF (Cq r).1=true:=by
 unfold Cq at h⊢
 split at h
 ·rename_i hc
  rw[if_pos hc]
  unfold YW at hc
  simp only[Bool.and_eq_true]at hc
  have h1:=hc.1
  unfold BF at h1⊢
  simp only[Bool.and_eq_true,decide_eq_true_eq]at h1⊢
  obtain⟨a1,⟨⟨a2,a3⟩,a4⟩,a5⟩:=h1
  have:=a5.1
  have:=a5.2
  exact⟨a1,⟨⟨a2,a3⟩,a4⟩,⟨by omega,by omega⟩⟩
 ·cases h
theorem AUu (r:Cr):(BM r).1.stages=r.stages:=by unfold BM;split<;>rfl
theorem AUq (r:Cr):(Cq r).1.stages=r.stages:=by unfold Cq;split<;>rfl
theorem ASH {w:World} (h:Arw w=true):Arw (BQ w).1=true:=by
 unfold BQ
 split
 ·exact h
 ·split
  ·split
   ·rename_i hn;exact ASn (ASW h (AVC hn) (AIe _) (AUu _))
   ·exact h
  ·split
   ·split
    ·rename_i hn;exact AUk (ASW h (AVq hn) (Azx _) (AUq _))
    ·exact h
   ·exact h
theorem AUA {α:Type} {p:α→Bool}:∀(xs:List α) (i:Nat),P7 p xs i=[]→∀x,x∈xs→p x=false
 | [],_,_,x,hx=>by cases hx
 | a::r,i,h,x,hx=>by
  unfold P7 at h
  split at h
  ·cases h
  ·rename_i hp
   rcases List.mem_cons.1 hx with rfl | hx
   ·simpa using hp
   ·exact AUA r (i+1) h x hx
theorem AQF {w:World} {v pm:Int} (h:Arw w=true):Arw (BX w v pm).1=true:=by
 unfold BX
 split
 rotate_left
 ·exact h
 rename_i hc
 obtain⟨h1,h2⟩:=hc
 have p:=AGm.1 h
 have hm:Gn w.server (Ka w) v pm=true:=by
  unfold J5 at h1
  split at h1
  ·assumption
  ·cases h1
 have e:(J5 w.server (Ka w) v pm).1=Cg w.server v:=by unfold J5;rw[if_pos hm]
 rw[e]
 unfold Gn at hm
 simp only[Bool.and_eq_true,decide_eq_true_eq,Bool.not_eq_true',decide_eq_false_iff_not]at hm
 obtain⟨m1,m2,m3,m4,m5,m6⟩:=hm
 have hmem:∀x,x∈Cg w.server v↔x∈w.server∧¬x=v:=by intro x;unfold Cg;simp[List.mem_filter]
 have hver:w.rollout.version∈w.server:=by
  have hb:=p.b
  unfold AOM at hb
  simp only[Bool.and_eq_true,decide_eq_true_eq]at hb
  exact hb.2.1
 refine AGm.2 ⟨⟨?_,?_⟩,p.tags,p.few,p.ends,?_,p.c⟩
 ·refine ASS ?_ (fun x hx=> ?_) ?_
  ·exact List.Pairwise.filter _ (AjX m1)
  ·have:=AD1 m1 x ((hmem x).1 hx).1;exact⟨this.1,this.2⟩
  ·exact List.length_pos_of_mem ((hmem _).2 ⟨hver,fun h=>h2 h.symm⟩)
 ·intro e he
  have h3:=AUA _ _ m5 e.versions (by unfold Ka;exact List.mem_map.2 ⟨e,he,rfl⟩)
  have h4:=APB.1 (p.reach.2 e he)
  have h5:=AU3 (Cg w.server v) e.versions
  unfold WG at h3
  refine APB.2 ?_
  dsimp only
  simp[h4]at h3
  omega
 ·have hb:=p.b
  unfold AOM at hb⊢
  simp only[Bool.and_eq_true,decide_eq_true_eq]at hb⊢
  exact⟨hb.1,(hmem _).2 ⟨hver,fun h=>h2 h.symm⟩,hb.2.2⟩
theorem AUT {s s' l:List Int} (h:0<BZ s l) (hl:Bt s' =true) (hs:∀x,x∈s→x∈s'):0<BZ s' l:=by
 unfold BZ at h⊢
 split at h
 ·rename_i hc
  rw[if_pos ⟨hl,hc.2⟩]
  obtain⟨x,hx,h0⟩:=AUC h
  unfold common at hx⊢
  have hx':=List.mem_filter.1 hx
  have hm:x∈s'.filter fun v=>decide (v∈l):=List.mem_filter.2 ⟨hs x hx'.1,hx'.2⟩
  have:=max_mem (a:=0) hm
  unfold Acb
  omega
 ·omega
theorem AR8 {w:World} {v:Int} (h:Arw w=true):Arw (HV w v).1=true:=by
 unfold HV
 dsimp only
 have p:=AGm.1 h
 by_cases hc:Zj w.server v=true
 rotate_left
 ·have e:(MX w.server v).1=w.server:=by unfold MX;rw[if_neg hc]
  rw[e];exact h
 have e:(MX w.server v).1=Ic w.server v:=by unfold MX;rw[if_pos hc]
 rw[e]
 unfold Zj at hc
 simp only[Bool.and_eq_true,decide_eq_true_eq]at hc
 have hv:=AS2 hc.1 hc.2.1
 refine AGm.2 ⟨⟨hv,fun e he=> ?_⟩,p.tags,p.few,p.ends,?_,p.c⟩
 ·exact APB.2 (AUT (APB.1 (p.reach.2 e he)) hv (fun x hx=>(AIL _ _ _).2 (.inl hx)))
 ·have hb:=p.b
  unfold AOM at hb⊢
  simp only[Bool.and_eq_true,decide_eq_true_eq]at hb⊢
  exact⟨hb.1,(AIL _ _ _).2 (.inl hb.2.1),hb.2.2⟩
theorem AT1 {w:World} {j:Nat} {e:Az} (h:Arw w=true) (hj:j<w.ends.length) (he:BH e=true) (hv:e.versions=w.ends[j].versions):Arw {w with ends:=w.ends.set j e} =true:=by
 have p:=AGm.1 h
 have hm:∀x,x∈w.ends.set j e→x∈w.ends∨x=e:=fun x hx=>List.mem_or_eq_of_mem_set hx
 refine AGm.2 ⟨⟨p.reach.1,fun x hx=> ?_⟩,p.tags,by simp;exact p.few,fun x hx=> ?_,p.b,p.c⟩
 ·rcases hm x hx with hx | rfl
  ·exact p.reach.2 x hx
  ·rw[hv];exact p.reach.2 _ (List.getElem_mem hj)
 ·rcases hm x hx with hx | rfl
  ·exact p.ends x hx
  ·exact he
theorem ATU {w:World} {i:Int} {b:H9} (h:Arw w=true):Arw (Gw w i b).1=true:=by
 have p:=AGm.1 h
 unfold Gw
 split
 rotate_left
 ·exact h
 split
 rotate_left
 ·exact h
 rename_i x hx
 split
 rotate_left
 ·exact h
 rename_i hc
 obtain⟨hj,rfl⟩:=List.getElem?_eq_some_iff.1 hx
 refine AT1 h hj ?_ rfl
 have he:=p.ends _ (List.getElem_mem hj)
 unfold BH at he⊢
 simp only[Bool.and_eq_true,decide_eq_true_eq]at he⊢
 obtain⟨a1,a2,a3,a4,a5,a6,a7⟩:=he
 refine⟨a1,a2,a3,a4,by simp;omega,?_,a7⟩
 rw[List.all_append,a6]
 simp[hc.1]
theorem ASw {w:World} {i:Int} (h:Arw w=true):Arw (E9 w i).1=true:=by
 have p:=AGm.1 h
 unfold E9
 split
 rotate_left
 ·exact h
 split
 rotate_left
 ·exact h
 rename_i x hx
 split
 ·exact h
 unfold AgF
 rw[hx]
 dsimp only
 obtain⟨hj,rfl⟩:=List.getElem?_eq_some_iff.1 hx
 refine AT1 h hj ?_ rfl
 have he:=p.ends _ (List.getElem_mem hj)
 unfold BH at he⊢
 simp only[Bool.and_eq_true,decide_eq_true_eq]at he⊢
 obtain⟨a1,a2,a3,a4,a5,a6,a7⟩:=he
 exact⟨a1,a2,a3,a4,by simp,by simp,a7⟩
theorem ATf {w:World} {n:Int} (h:Arw w=true):Arw (EM w n).1=true:=by
 have p:=AGm.1 h
 unfold EM
 split
 rotate_left
 ·exact h
 rename_i hc
 refine AGm.2 ⟨p.reach,p.tags,p.few,p.ends,p.b,?_⟩
 have hh:=p.c
 unfold AIX at hh⊢
 simp only[Bool.and_eq_true,decide_eq_true_eq]at hh⊢
 have a1:=hc.1.1
 have a2:=hc.2.1
 have a3:=hc.2.2
 exact⟨hh.1,hh.2.1,⟨by omega,by omega⟩,hh.2.2.2⟩
theorem ASl {w:World} {e:Event} (h:Arw w=true):Arw (AO w e).1=true:=by
 unfold AO
 repeat' split
 ·exact ASX h
 ·exact ASz h
 ·exact ASH h
 ·exact AQF h
 ·exact AR8 h
 ·exact ATU h
 ·exact ASw h
 ·exact ATf h
 ·exact h
theorem AX9 {w:World}:∀ {l:List Event},Arw w=true→Arw (Aq w l)=true:=by
 intro l
 induction l generalizing w with
 | nil=>intro h;exact h
 | cons e l ih=>intro h;exact ih (ASl h)
theorem AYn (w:World) (a b:List Event):Aq w (a++b)=Aq (Aq w a) b:=by
 unfold Aq
 rw[List.foldl_append]
end Go.Eng.T
namespace Go.Eng.T
set_option maxRecDepth 20000
set_option maxHeartbeats 4000000
theorem ATZ (w:World):(enter w).log=w.log:=by unfold enter;split<;>rfl
theorem AT2 (w:World):(enter w).stage.length≤w.stage.length:=by unfold enter;split<;>simp
theorem ATB (w:World):(enter w).ends.length=w.ends.length:=by unfold enter;split<;>simp
theorem AVD (w:World) (e:Event):(AO w e).1.log.length≤w.log.length+(if e.kind=1 then 1 else 0)∧(AO w e).1.stage.length≤w.stage.length+1∧(AO w e).1.ends.length=w.ends.length:=by
 unfold AO
 by_cases g1:e.kind=1
 ·rw[if_pos g1,if_pos g1]
  unfold DN
  split
  ·unfold Q5
   dsimp only
   refine⟨by simp,?_,rfl⟩
   split<;>simp
  ·exact⟨by first | omega | (dsimp only;omega),by first | omega | (dsimp only;omega),rfl⟩
 rw[if_neg g1,if_neg g1]
 split
 ·unfold Dl
  split
  ·have:=AT2 w
   exact⟨by rw[ATZ];first | omega | (dsimp only;omega),by first | omega | (dsimp only;omega),ATB w⟩
  ·exact⟨by first | omega | (dsimp only;omega),by first | omega | (dsimp only;omega),rfl⟩
 split
 ·unfold BQ
  split
  ·exact⟨by first | omega | (dsimp only;omega),by first | omega | (dsimp only;omega),rfl⟩
  split
  ·split
   ·have:=AT2 (FK w (BM w.rollout).1)
    refine⟨by rw[ATZ];unfold FK;first | omega | (dsimp only;omega),?_,by show(enter _).ends.length=_;rw[ATB];rfl⟩
    unfold FK at this⊢;dsimp only at this⊢;omega
   ·exact⟨by first | omega | (dsimp only;omega),by first | omega | (dsimp only;omega),rfl⟩
  split
  ·split
   ·refine⟨?_,?_,?_⟩
    ·unfold leave FK;first | omega | (dsimp only;omega)
    ·unfold leave FK;simp
    ·unfold leave FK;simp
   ·exact⟨by first | omega | (dsimp only;omega),by first | omega | (dsimp only;omega),rfl⟩
  ·exact⟨by first | omega | (dsimp only;omega),by first | omega | (dsimp only;omega),rfl⟩
 split
 ·unfold BX;split<;>exact⟨by first | omega | (dsimp only;omega),by first | omega | (dsimp only;omega),rfl⟩
 split
 ·unfold HV;exact⟨by first | omega | (dsimp only;omega),by first | omega | (dsimp only;omega),rfl⟩
 split
 ·unfold Gw
  split
  ·split
   ·split
    ·exact⟨by first | omega | (dsimp only;omega),by first | omega | (dsimp only;omega),by simp⟩
    ·exact⟨by first | omega | (dsimp only;omega),by first | omega | (dsimp only;omega),rfl⟩
   ·exact⟨by first | omega | (dsimp only;omega),by first | omega | (dsimp only;omega),rfl⟩
  ·exact⟨by first | omega | (dsimp only;omega),by first | omega | (dsimp only;omega),rfl⟩
 split
 ·unfold E9
  split
  ·split
   ·split
    ·exact⟨by first | omega | (dsimp only;omega),by first | omega | (dsimp only;omega),rfl⟩
    ·unfold AgF
     split
     ·exact⟨by first | omega | (dsimp only;omega),by first | omega | (dsimp only;omega),by simp⟩
     ·exact⟨by first | omega | (dsimp only;omega),by first | omega | (dsimp only;omega),rfl⟩
   ·exact⟨by first | omega | (dsimp only;omega),by first | omega | (dsimp only;omega),rfl⟩
  ·exact⟨by first | omega | (dsimp only;omega),by first | omega | (dsimp only;omega),rfl⟩
 split
 ·unfold EM;split<;>exact⟨by first | omega | (dsimp only;omega),by first | omega | (dsimp only;omega),rfl⟩
 ·exact⟨by first | omega | (dsimp only;omega),by first | omega | (dsimp only;omega),rfl⟩
structure LW (n:Nat) (w:World):Prop where
 ok:Arw w=true
 pt:pot w≤3500+10*n
 log:w.log.length≤n
 stg:w.stage.length≤n
 ends:0<w.ends.length∧w.ends.length≤5
theorem ARO {n:Nat} {w:World} (h:LW n w) {e:Event} (he:Bf e≤8):LW (n+1) (AO w e).1:=by
 obtain⟨h1,h2,h3⟩:=AVD w e
 have h4:=AFu w e
 have a1:=h.pt
 have a2:=h.log
 have a3:=h.stg
 have a4:=h.ends
 refine⟨ASl h.ok,by omega,?_,by omega,by omega⟩
 split at h1<;>omega
theorem AUa {n m:Nat} {w:World} (h:LW n w) (hm:n≤m):LW m w:=by
 have a1:=h.pt
 have a2:=h.log
 have a3:=h.stg
 exact⟨h.ok,by omega,by omega,by omega,h.ends⟩
theorem ARy {n:Nat} {w:World} (h:LW n w):Ai w≤3500+10*n:=by
 have:=h.pt
 have:=AMS w
 omega
theorem AV3 {w:World} (h:AUf w):LW 0 w:=by
 have h1:=AMA w
 have h2:=h.sz
 have h3:=h.few
 exact⟨h.ok,by omega,by rw[h.nolog];simp,by rw[h.nostage];simp,h.ends,h.few⟩
theorem AUm {w:World} {x:Int} (h:Arw w=true) (hx:1≤x∧x≤100):Arw {w with least:=x} =true:=by
 have p:=AGm.1 h
 refine AGm.2 ⟨p.reach,p.tags,p.few,p.ends,?_,p.c⟩
 have hb:=p.b
 unfold AOM at hb⊢
 simp only[Bool.and_eq_true,decide_eq_true_eq]at hb⊢
 exact⟨hb.1,hb.2.1,⟨by omega,by omega⟩,hb.2.2.2⟩
theorem AVW {n:Nat} {w:World} {x:Int} (h:LW n w) (hx:1≤x∧x≤100):LW n {w with least:=x}:=⟨AUm h.ok hx,h.pt,h.log,h.stg,h.ends⟩
theorem AUv {n:Nat} {w:World} (h:LW n w):LW (n+1) (Dl w).1:=ARO h (e:=⟨2,0,⟨0,[],[],false⟩⟩) (by simp[Bf,BD])
theorem AVJ {n:Nat} {w:World} (h:LW n w):LW (n+1) (BQ w).1:=ARO h (e:=⟨3,0,⟨0,[],[],false⟩⟩) (by simp[Bf,BD])
theorem AVd {n:Nat} {w:World} {i:Int} (h:LW n w):LW (n+1) (DN w i).1:=ARO h (e:=⟨1,i,⟨0,[],[],false⟩⟩) (by simp[Bf,BD])
theorem AWc {n:Nat} {w:World} {i:Int} (h:LW n w):LW (n+1) (EM w i).1:=ARO h (e:=⟨8,i,⟨0,[],[],false⟩⟩) (by simp[Bf,BD])
theorem AWu {n:Nat} {w:World} {i:Int} {b:H9} (h:LW n w) (hb:AS6 b):LW (n+1) (Gw w i b).1:=ARO h (e:=⟨6,i,b⟩) (by have:=hb.2.1;have:=hb.2.2;unfold Bf BD;dsimp only;omega)
abbrev APz (R:Rel):Prop:=∀c:Cur,AO2 c→ARs R [] c (LW 9) (fun w=> .agg (Cc w))
def AUG:SC:=match AOX.body with | .seq _ (.seq _ (.seq _ (.seq _ x)))=>x | x=>x
theorem AWa:AOX=⟨11,47,[0],1,false,[],.seq (.reg (ArA 0)) (.seq (.reg (ArA 1)) (.seq (.seq (.reg (ArA 2)) (.cond 4 (.reg (ArA 3)) .skip)) (.seq (.seq (.reg (ArA 4)) (.cond 5 (.reg (ArA 5)) .skip)) AUG))),[.cell 1 (some 15)]⟩:=rfl
theorem ARe {D:Dn} (hB:AON (D AJG)) (hX:AQn (D AJI)) (hTk:NZ (D Aop)) (hSg:LG (D AmS)) (hBx:Rh (D ArS)) (hDl:NW (D Ap4))
 {Q:V→List O→Prop} (hQ:∀a c',LW 9 a→AO2 c'→Q (.agg (Cc a)) [.var (AGZ c')]) {w:World} {cd:Cur} {o2 o3 o4 o5 o6 o7 o9 o10 o11 o12 o13 o14 o15 o16 o17 o18 o19 o20 o21 o22 o23 o24 o25 o26 o27 o28 o29 o30 o31 o32 o33 o34 o35 o36 o37 o38 o39 o40:O} (hl:LW 1 w) (hcd:AO2 cd):
 swp D ⟨false,[]⟩ AUG (ASk [Res.cell 1 (some 15)] 1 Q) ⟨[.ptr 0 0,.ptr 1 0,.ptr 8 0,.undef,.undef,.undef,.undef,.undef,.undef,.undef,.undef],[.var (AGZ cd),.var zW,o2,o3,o4,o5,o6,o7,.var [.arr 41,.arr 42,I w.key,.arr 43,I w.rollout.version,.arr 44,I w.rollout.pos,B w.rollout.off,I w.least,I w.percent,.arr 45,.arr 46,I w.now,I w.hurt,I w.reached],o9,o10,o11,o12,o13,o14,o15,o16,o17,o18,o19,o20,o21,o22,o23,o24,o25,o26,o27,o28,o29,o30,o31,o32,o33,o34,o35,o36,o37,o38,o39,o40,.arr 1 0 w.server.length (ints w.server),.arr 1 0 w.tags.length (ints w.tags),.arr 4 0 w.ends.length (w.ends.flatMap Ag),.arr 1 0 w.rollout.stages.length (ints w.rollout.stages),.arr 5 0 w.stage.length (w.stage.flatMap Ap),.arr 8 0 w.log.length (w.log.flatMap Am)]⟩:=by
 simp -implicitDefEqProofs only[AUG,AOX,Go.Eng.X.j]
 obtain⟨LI,hLI⟩:∃LI:Nat→St→Prop,LI=fun k s=>∃w cd o2 o3 o4 o5 o6 o7 o9 o10 o11 o12 o13 o14 o15 o16 o17 o18 o19 o20 o21 o22 o23 o24 o25 o26 o27 o28 o29 o30 o31 o32 o33 o34 o35 o36 o37 o38 o39 o40,k≤8∧LW (9-k) w∧AO2 cd∧s=⟨[.ptr 0 0,.ptr 1 0,.ptr 8 0,I k,.undef,.undef,.undef,.undef,.undef,.undef,.undef],[.var (AGZ cd),.var zW,o2,o3,o4,o5,o6,o7,.var [.arr 41,.arr 42,I w.key,.arr 43,I w.rollout.version,.arr 44,I w.rollout.pos,B w.rollout.off,I w.least,I w.percent,.arr 45,.arr 46,I w.now,I w.hurt,I w.reached],o9,o10,o11,o12,o13,o14,o15,o16,o17,o18,o19,o20,o21,o22,o23,o24,o25,o26,o27,o28,o29,o30,o31,o32,o33,o34,o35,o36,o37,o38,o39,o40,.arr 1 0 w.server.length (ints w.server),.arr 1 0 w.tags.length (ints w.tags),.arr 4 0 w.ends.length (w.ends.flatMap Ag),.arr 1 0 w.rollout.stages.length (ints w.rollout.stages),.arr 5 0 w.stage.length (w.stage.flatMap Ap),.arr 8 0 w.log.length (w.log.flatMap Am)]⟩:=⟨_,rfl⟩
 simp -implicitDefEqProofs
 obtain⟨n,c5,hn,hc5,pn⟩:=hB cd 9 hcd (by omega)
 simp -implicitDefEqProofs [AGZ,ints]at pn⊢
 refine Aa (pn) ?_
 clear pn
 have hn9:=hn.2.2 (by omega)
 obtain⟨n,rfl⟩:∃m:Nat,n=m:=⟨n.toNat,by omega⟩
 simp -implicitDefEqProofs
 refine Af LI ?_ n _ (by
  rw[hLI]
  exact⟨w,c5,_,_,_,_,_,_,_,_,_,_,_,_,_,_,_,_,_,_,_,_,_,_,_,_,_,_,_,_,_,_,_,_,_,_,_,_,_,_,by omega,AUa hl (by omega),hc5,rfl⟩)
 intro k s hs
 rw[hLI]at hs
 obtain⟨w,cd,o2,o3,o4,o5,o6,o7,o9,o10,o11,o12,o13,o14,o15,o16,o17,o18,o19,o20,o21,o22,o23,o24,o25,o26,o27,o28,o29,o30,o31,o32,o33,o34,o35,o36,o37,o38,o39,o40,hk8,hl,hcd,hs⟩:=hs
 subst hs
 have hsz:=ARy hl
 by_cases hk:0<k
 rotate_left
 ·have hk0:k=0:=by omega
  subst hk0
  simp -implicitDefEqProofs [AhE,F5]
  exact hQ w cd hl hcd
 have hwk:IntKind.i64.wrap ((k:Int)-1)=(k-1:Nat):=by rw[Ab (by omega) (by omega)];omega
 have hnx:9-(k-1)=(9-k)+1:=by omega
 simp -implicitDefEqProofs [hk]
 obtain⟨x,c6,hx,hc6,px⟩:=hB cd 7 hcd (by omega)
 simp -implicitDefEqProofs [AGZ,ints]at px⊢
 refine Aa (px) ?_
 clear px
 by_cases g0:x=0
 ·simp -implicitDefEqProofs [g0]
  obtain⟨y,c7,hy,hc7,py⟩:=hB c6 3 hc6 (by omega)
  simp -implicitDefEqProofs [AGZ,ints]at py
  refine Aa (py) ?_
  have hy3:=hy.2.2 (by omega)
  have w1:IntKind.i64.wrap (1+y)=1+y:=Ab (by omega) (by omega)
  have ps:=hTk w (1+y) (by omega)
  have hl2:=AWc (i:=1+y) hl
  generalize EM w (1+y)=r at ps hl2
  simp -implicitDefEqProofs [Cc,ints]at ps
  simp -implicitDefEqProofs [w1]
  refine Aa (ps) ?_
  simp -implicitDefEqProofs [hwk]
  refine⟨k-1,by omega,?_⟩
  rw[hLI]
  exact⟨r.1,c7,_,_,_,_,_,_,_,_,_,_,_,_,_,_,_,_,_,_,_,_,_,_,_,_,_,_,_,_,_,_,_,_,_,_,_,_,_,_,by omega,by rw[hnx];exact hl2,hc7,rfl⟩
 by_cases g1:x=1
 ·simp -implicitDefEqProofs [g1]
  have ps:=hSg w (by omega)
  have hl2:=AVJ hl
  generalize BQ w=r at ps hl2
  simp -implicitDefEqProofs [Cc,ints]at ps
  refine Aa (ps) ?_
  simp -implicitDefEqProofs [hwk]
  refine⟨k-1,by omega,?_⟩
  rw[hLI]
  exact⟨r.1,c6,_,_,_,_,_,_,_,_,_,_,_,_,_,_,_,_,_,_,_,_,_,_,_,_,_,_,_,_,_,_,_,_,_,_,_,_,_,_,by omega,by rw[hnx];exact hl2,hc6,rfl⟩
 by_cases g2:x=2
 ·simp -implicitDefEqProofs [g2]
  obtain⟨y,c7,hy,hc7,py⟩:=hB c6 5 hc6 (by omega)
  simp -implicitDefEqProofs [AGZ,ints]at py
  refine Aa (py) ?_
  simp -implicitDefEqProofs
  obtain⟨b,c8,hb,hc8,pb⟩:=hX c7 hc7
  simp -implicitDefEqProofs [AGZ,ints]at pb
  refine Aa (pb) ?_
  have ps:=hBx w y b (by omega) (by have:=hb.2.1;have:=hb.2.2;unfold BD;omega)
  have hl2:=AWu (i:=y) hl hb
  generalize Gw w y b=r at ps hl2
  simp -implicitDefEqProofs [Cc,CW,ints]at ps
  simp -implicitDefEqProofs
  refine Aa (ps) ?_
  simp -implicitDefEqProofs [hwk]
  refine⟨k-1,by omega,?_⟩
  rw[hLI]
  exact⟨r.1,c8,_,_,_,_,_,_,_,_,_,_,_,_,_,_,_,_,_,_,_,_,_,_,_,_,_,_,_,_,_,_,_,_,_,_,_,_,_,_,by omega,by rw[hnx];exact hl2,hc8,rfl⟩
 ·simp -implicitDefEqProofs [g0,g1,g2]
  obtain⟨y,c7,hy,hc7,py⟩:=hB c6 w.ends.length hc6 (by have:=hl.ends;omega)
  simp -implicitDefEqProofs [AGZ,ints]at py
  refine Aa (py) ?_
  have ps:=hDl w y (by omega)
  have hl2:=AVd (i:=y) hl
  generalize DN w y=r at ps hl2
  simp -implicitDefEqProofs [Cc,ints]at ps
  simp -implicitDefEqProofs
  refine Aa (ps) ?_
  simp -implicitDefEqProofs [hwk]
  refine⟨k-1,by omega,?_⟩
  rw[hLI]
  exact⟨r.1,c7,_,_,_,_,_,_,_,_,_,_,_,_,_,_,_,_,_,_,_,_,_,_,_,_,_,_,_,_,_,_,_,_,_,_,_,_,_,_,by omega,by rw[hnx];exact hl2,hc7,rfl⟩
end Go.Eng.T
namespace Go.Eng.T
set_option maxRecDepth 20000
set_option maxHeartbeats 4000000
theorem AUL (D:Dn) (hB:AON (D AJG)) (hO:AQL (D AKv)) (hW:ARf (D AIC)) (hX:AQn (D AJI)) (hSt:LB (D Ano)) (hTk:NZ (D Aop))
 (hSg:LG (D AmS)) (hBx:Rh (D ArS)) (hDl:NW (D Ap4)):APz (Body D AOX):=by
 intro c hc
 refine APS (fun Q hQ=> ?_)
 rw[AWa]
 simp -implicitDefEqProofs
 obtain⟨w0,c1,hw0,hc1,pw⟩:=hW c hc
 simp -implicitDefEqProofs [AGZ,ints]at pw
 refine Aa (pw) ?_
 have hl0:=AV3 hw0
 clear pw hw0
 simp -implicitDefEqProofs
 obtain⟨q,c2,hq,hc2,pq⟩:=hO c1 3 hc1 (by omega)
 simp -implicitDefEqProofs [AGZ,ints]at pq
 refine Aa (pq) ?_
 clear pq
 by_cases g:q=true
 ·simp -implicitDefEqProofs [g]
  obtain⟨y,c3,hy,hc3,py⟩:=hB c2 3 hc2 (by omega)
  simp -implicitDefEqProofs [AGZ,ints]at py
  refine Aa (py) ?_
  have hy3:=hy.2.2 (by omega)
  have w1:IntKind.i64.wrap (1+y)=1+y:=Ab (by omega) (by omega)
  have hl1:LW 0 {w0 with least:=1+y}:=AVW hl0 ⟨by omega,by omega⟩
  simp -implicitDefEqProofs [w1]
  obtain⟨q2,c4,hq2,hc4,pq2⟩:=hO c3 4 hc3 (by omega)
  simp -implicitDefEqProofs [AGZ,ints]at pq2
  refine Aa (pq2) ?_
  clear pq2
  by_cases g2:q2=true
  ·simp -implicitDefEqProofs [g2]
   exact ARe hB hX hTk hSg hBx hDl hQ (w:={w0 with least:=1+y}) (AUa hl1 (by omega)) hc4
  ·simp -implicitDefEqProofs [g2]
   have ps:=hSt {w0 with least:=1+y} (by have:=ARy hl1;omega)
   have hl2:=AUv hl1
   generalize Dl {w0 with least:=1+y} =r at ps hl2
   simp -implicitDefEqProofs [Cc,ints]at ps
   refine Aa (ps) ?_
   simp -implicitDefEqProofs
   exact ARe hB hX hTk hSg hBx hDl hQ (w:=r.1) hl2 hc4
 ·simp -implicitDefEqProofs [g]
  have hl1:=hl0
  obtain⟨q2,c4,hq2,hc4,pq2⟩:=hO c2 4 hc2 (by omega)
  simp -implicitDefEqProofs [AGZ,ints]at pq2
  refine Aa (pq2) ?_
  clear pq2
  by_cases g2:q2=true
  ·simp -implicitDefEqProofs [g2]
   exact ARe hB hX hTk hSg hBx hDl hQ (w:=w0) (AUa hl1 (by omega)) hc4
  ·simp -implicitDefEqProofs [g2]
   have ps:=hSt w0 (by have:=ARy hl1;omega)
   have hl2:=AUv hl1
   generalize Dl w0=r at ps hl2
   simp -implicitDefEqProofs [Cc,ints]at ps
   refine Aa (ps) ?_
   simp -implicitDefEqProofs
   exact ARe hB hX hTk hSg hBx hDl hQ (w:=r.1) hl2 hc4
abbrev AWl (R:Rel):Prop:=∀bs:List Int,AUy bs→ARw R bs (LW 9) (fun w=> .agg (Cc w))
theorem AXU (D:Dn) (hN:AQP (D ALS)) (hW:APz (D AID)):AWl (Body D AUY):=by
 intro bs hb
 refine AQu (fun Q hQ=> ?_)
 simp -implicitDefEqProofs
 obtain⟨c0,hc0,pc0⟩:=hN bs hb.1 hb.2
 simp -implicitDefEqProofs [AGZ,ints]at pc0
 refine Aa (pc0) ?_
 clear pc0
 simp -implicitDefEqProofs
 obtain⟨w,c1,hw,hc1,pw⟩:=hW c0 hc0
 simp -implicitDefEqProofs [AGZ,ints]at pw
 refine Aa (pw) ?_
 clear pw
 have hsz:=ARy hw
 have hok:=hw.ok
 have hen:=hw.ends
 have hlg:=hw.log
 simp -implicitDefEqProofs
 exact hQ w hw
end Go.Eng.T
namespace Go.Eng.T
theorem At9:∀(n:Nat) (k:Int),nums n k++ [k+n]=nums (n+1) k
 | 0,k=>by simp[nums]
 | n+1,k=>by
  have:=At9 n (k+1)
  simp only[nums,List.cons_append]
  rw[show k+((n+1:Nat):Int)=k+1+(n:Int)by omega,this]
  rfl
end Go.Eng.T
namespace Go.Eng.T
end Go.Eng.T
namespace Go.Eng.T
set_option maxRecDepth 20000
end Go.Eng.T
namespace Go.Eng.T
set_option maxRecDepth 20000
end Go.Eng.T
namespace Go.Eng.T
abbrev Apc (R:Rel):Prop:=∀(x:H9) (l:Int),0≤l→l≤4194304→JG x→R [arg (CW x),I l] [] (I (szl (BD x) l)) []
abbrev Ap7 (R:Rel):Prop:=∀x:H9,BD x≤4194304→R [arg (CW x)] [] (.agg (CW x)) []
abbrev Arm (R:Rel):Prop:=∀x y:H9,BD x≤2 ^ 40→BD y≤2 ^ 40→R [arg (CW x),arg (CW y)] [] (B (decide (x=y))) []
abbrev Agg (R:Rel):Prop:=∀(x:Event) (l:Int),0≤l→l≤4194304→VU x→R [arg (BB x),I l] [] (I (szl (Bf x) l)) []
abbrev AfT (R:Rel):Prop:=∀x:Event,Bf x≤4194304→R [arg (BB x)] [] (.agg (BB x)) []
abbrev AeV (R:Rel):Prop:=∀x y:Event,Bf x≤2 ^ 40→Bf y≤2 ^ 40→R [arg (BB x),arg (BB y)] [] (B (decide (x=y))) []
end Go.Eng.T
namespace Go.Eng.T
abbrev VY (R:Rel):Prop:=∀(x:Az) (l:Int),0≤l→l≤4194304→Ke x→R [arg (Ag x),I l] [] (I (szl (Ad x) l)) []
abbrev V3 (R:Rel):Prop:=∀x:Az,Ad x≤4194304→R [arg (Ag x)] [] (.agg (Ag x)) []
end Go.Eng.T
namespace Go.Eng.T
abbrev XQ (R:Rel):Prop:=∀(x:Cu) (l:Int),0≤l→l≤4194304→Ri x→R [arg (Ap x),I l] [] (I (szl (Ak x) l)) []
abbrev Yg (R:Rel):Prop:=∀x:Cu,Ak x≤4194304→R [arg (Ap x)] [] (.agg (Ap x)) []
abbrev Ym (R:Rel):Prop:=∀x y:Cu,Ak x≤2 ^ 40→Ak y≤2 ^ 40→R [arg (Ap x),arg (Ap y)] [] (B (decide (x=y))) []
end Go.Eng.T
namespace Go.Eng.T
abbrev AbA (R:Rel):Prop:=∀(x:CX) (l:Int),0≤l→l≤4194304→UQ x→R [arg (Am x),I l] [] (I (szl (Ay x) l)) []
abbrev AbO (R:Rel):Prop:=∀x:CX,Ay x≤4194304→R [arg (Am x)] [] (.agg (Am x)) []
abbrev Abt (R:Rel):Prop:=∀x y:CX,Ay x≤2 ^ 40→Ay y≤2 ^ 40→R [arg (Am x),arg (Am y)] [] (B (decide (x=y))) []
end Go.Eng.T
namespace Go.Eng.T
abbrev VL (R:Rel):Prop:=∀x y:Az,Ad x≤2 ^ 40→Ad y≤2 ^ 40→R [arg (Ag x),arg (Ag y)] [] (B (decide (x=y))) []
end Go.Eng.T
namespace Go.Eng.T
set_option maxRecDepth 20000
end Go.Eng.T
namespace Go.Eng.T
set_option maxRecDepth 20000
set_option maxHeartbeats 2000000
end Go.Eng.T
namespace Go.Eng.T
set_option maxRecDepth 20000
set_option maxHeartbeats 2000000
theorem AVH {α:Type} {p:α→Bool}:∀(xs:List α) (i:Nat) (x:Int),x∈P7 p xs i↔∃(j:Nat) (h:j<xs.length),x=((i+j:Nat):Int)∧p xs[j]=true
 | [],i,x=>by simp[P7]
 | a::r,i,x=>by
  have ih:=AVH (p:=p) r (i+1) x
  constructor
  ·intro h
   have h':(p a=true∧x=(i:Int))∨x∈P7 p r (i+1):=by
    unfold P7 at h
    split at h
    ·rename_i hp
     rcases List.mem_cons.1 h with h | h
     ·exact .inl ⟨hp,h⟩
     ·exact .inr h
    ·exact .inr h
   rcases h' with⟨h1,h2⟩ | h1
   ·exact⟨0,by simp,by simpa using h2,by simpa using h1⟩
   ·obtain⟨j,hj,h2,h3⟩:=ih.1 h1
    exact⟨j+1,by simpa using hj,by rw[h2];congr 1;omega,by simpa using h3⟩
  ·rintro ⟨j,hj,h2,h3⟩
   unfold P7
   cases j with
   | zero=>
    have hp:p a=true:=by simpa using h3
    rw[if_pos hp]
    exact List.mem_cons.2 (.inl (by simpa using h2))
   | succ j=>
    have:x∈P7 p r (i+1):=ih.2 ⟨j,by simpa using hj,by rw[h2];congr 1;omega,by simpa using h3⟩
    split
    ·exact List.mem_cons_of_mem _ this
    ·exact this
theorem AVo {α β:Type} {p:α→Bool} {q:β→Bool}:∀(xs:List α) (ys:List β) (i:Nat),xs.length=ys.length→(∀(j:Nat) (h:j<xs.length) (h':j<ys.length),p xs[j]=true→q ys[j]=true)→(P7 p xs i).length≤(P7 q ys i).length
 | [],_,i,_,_=>by simp[P7]
 | a::r,[],i,hl,_=>by simp at hl
 | a::r,b::t,i,hl,h=>by
  have ih:=AVo (p:=p) (q:=q) r t (i+1) (by simpa using hl) (fun j h1 h2 h3=>h (j+1) (by simpa using h1) (by simpa using h2) h3)
  have h0:=h 0 (by simp) (by simp)
  unfold P7
  by_cases hp:p a=true
  ·have hq:q b=true:=by simpa using h0 (by simpa using hp)
   rw[if_pos hp,if_pos hq]
   simp only[List.length_cons];omega
  ·rw[if_neg hp]
   split
   ·simp only[List.length_cons];omega
   ·exact ih
end Go.Eng.T
namespace Go.Eng.T
set_option maxRecDepth 20000
set_option maxHeartbeats 4000000
end Go.Eng.T
namespace Go.Eng.T
set_option maxRecDepth 20000
set_option maxHeartbeats 4000000
theorem Aw4 (D:Dn) (hC:CV (D Dt)) (hA:JX (D Aj2)):Li (Body D RY):=by
 intro w l hok
 have hsz:Ai w≤4194304:=by unfold Af0 at hok;omega
 have hle:AP Bf l≤4194304:=by unfold Af0 at hok;omega
 have hll:=FL (f:=Bf) (xs:=l)
 simp -implicitDefEqProofs
 refine Aa (hC w hsz) ?_
 simp -implicitDefEqProofs
 refine Af (fun k s=>∃j o9,j+k=l.length∧s=⟨[.undef,.undef,.undef,.ptr 1 0,.ptr 8 0,.undef,.sl 1 6 l.length (l.flatMap BB),I l.length,I j,.undef],[.var ((Cc w).map (Be 1)),.var [.nil 1,.nil 1,I 0,.nil 4,I 0,.nil 1,I 0,B false,I 0,I 0,.nil 5,.nil 8,I 0,I 0,I 0],.free,.free,.free,.free,.free,.free,.var [.arr 16,.arr 17,I (Aq w (l.take j)).key,.arr 18,I (Aq w (l.take j)).rollout.version,.arr 19,I (Aq w (l.take j)).rollout.pos,B (Aq w (l.take j)).rollout.off,I (Aq w (l.take j)).least,I (Aq w (l.take j)).percent,.arr 20,.arr 21,I (Aq w (l.take j)).now,I (Aq w (l.take j)).hurt,I (Aq w (l.take j)).reached],o9,.free,.free,.free,.free,.free,.free,.arr 1 0 (Aq w (l.take j)).server.length (ints (Aq w (l.take j)).server),.arr 1 0 (Aq w (l.take j)).tags.length (ints (Aq w (l.take j)).tags),.arr 4 0 (Aq w (l.take j)).ends.length ((Aq w (l.take j)).ends.flatMap Ag),.arr 1 0 (Aq w (l.take j)).rollout.stages.length (ints (Aq w (l.take j)).rollout.stages),.arr 5 0 (Aq w (l.take j)).stage.length ((Aq w (l.take j)).stage.flatMap Ap),.arr 8 0 (Aq w (l.take j)).log.length ((Aq w (l.take j)).log.flatMap Am)]⟩) ?_ (l.length) _ ⟨0,.free,by simp,by simp[Aq]⟩
 intro k s ⟨j,o9,hj,hs⟩
 subst hs
 by_cases hjn:j<l.length
 ·have hw:IntKind.i64.wrap ((j:Int)+1)=(j+1:Nat):=by rw[Ab (by omega) (by omega)];simp
  have hst:=Ap6 (w:=w) hjn
  have hsj:=ABh hok (j:=j) (by omega)
  have hej:=size_at (f:=Bf) hjn
  simp -implicitDefEqProofs [hjn]
  refine Aa (hA (Aq w (l.take j)) l[j] hsj (by omega)) ?_
  rw[←hst]
  simp -implicitDefEqProofs
  exact⟨k-1,by omega,j+1,by omega,by simp[hw]⟩
 ·have e:l.take j=l:=List.take_of_length_le (by omega)
  simp -implicitDefEqProofs [hjn,e]
end Go.Eng.T
namespace Go.Eng.T
set_option maxRecDepth 20000
set_option maxHeartbeats 4000000
structure AYG (p:World×List Event):Prop where
 ok:Arw p.1=true
 sz:Ai p.1≤400
 log:p.1.log=[]
 ev:∀e,e∈p.2→AWI e
 len:0<p.2.length∧p.2.length≤18
 first:∃(w:World) (y:Int),AUf w∧p.1={w with least:=y}
abbrev AVs (R:Rel):Prop:=∀bs:List Int,AUy bs→ARw R bs AYG (fun p=> .tup [.agg (Cc p.1),.sl 0 6 p.2.length (p.2.flatMap BB)])
theorem AXw (D:Dn) (hN:AQP (D ALS)) (hB:AON (D AJG)) (hO:AQL (D AKv)) (hW:ARf (D AIC)) (hE:AWA (D AGA)):AVs (Body D AUE):=by
 intro bs hb
 refine AQu (fun Q hQ=> ?_)
 simp -implicitDefEqProofs
 obtain⟨c0,hc0,pc0⟩:=hN bs hb.1 hb.2
 simp -implicitDefEqProofs [AGZ,ints]at pc0
 refine Aa (pc0) ?_
 clear pc0
 simp -implicitDefEqProofs
 obtain⟨w,c1,hw,hc1,pw⟩:=hW c0 hc0
 simp -implicitDefEqProofs [AGZ,ints]at pw
 refine Aa (pw) ?_
 clear pw
 simp -implicitDefEqProofs
 obtain⟨q,c2,hq,hc2,pq⟩:=hO c1 2 hc1 (by omega)
 simp -implicitDefEqProofs [AGZ,ints]at pq
 refine Aa (pq) ?_
 clear pq
 by_cases g:q=true
 ·simp -implicitDefEqProofs [g]
  obtain⟨y,c3,hy,hc3,py⟩:=hB c2 3 hc2 (by omega)
  simp -implicitDefEqProofs [AGZ,ints]at py
  refine Aa (py) ?_
  have hy3:=hy.2.2 (by omega)
  have w1:IntKind.i64.wrap (1+y)=1+y:=Ab (by omega) (by omega)
  simp -implicitDefEqProofs [w1]
  obtain⟨l,c4,⟨he,hl1,hl2⟩,hc4,pl⟩:=hE c3 18 hc3 (by omega)
  simp -implicitDefEqProofs [AGZ,ints]at pl
  refine Aa (pl) ?_
  simp -implicitDefEqProofs
  exact hQ ({w with least:=1+y},l) ⟨AUm hw.ok ⟨by omega,by omega⟩,hw.sz,hw.nolog,he,⟨hl1,by simp at hl2;show l.length≤18;omega⟩,w,1+y,hw,rfl⟩
 ·simp -implicitDefEqProofs [g]
  obtain⟨l,c4,⟨he,hl1,hl2⟩,hc4,pl⟩:=hE c2 18 hc2 (by omega)
  simp -implicitDefEqProofs [AGZ,ints]at pl
  refine Aa (pl) ?_
  simp -implicitDefEqProofs
  exact hQ (w,l) ⟨hw.ok,hw.sz,hw.nolog,he,⟨hl1,by simp at hl2;show l.length≤18;omega⟩,w,w.least,hw,rfl⟩
abbrev AU2 (R:Rel):Prop:=∀bs:List Int,AUy bs→ARw R bs (fun p:World×Event=>LW 9 p.1∧Bf p.2≤8) (fun p=> .tup [.agg (Cc p.1),.agg (BB p.2)])
theorem AXr (D:Dn) (hN:AQP (D ALS)) (hB:AON (D AJG)) (hO:AQL (D AKv)) (hW:APz (D AID)) (hE:AWo (D AGW)):AU2 (Body D AUh):=by
 intro bs hb
 refine AQu (fun Q hQ=> ?_)
 simp -implicitDefEqProofs
 obtain⟨c0,hc0,pc0⟩:=hN bs hb.1 hb.2
 simp -implicitDefEqProofs [AGZ,ints]at pc0
 refine Aa (pc0) ?_
 clear pc0
 simp -implicitDefEqProofs
 obtain⟨w,c1,hw,hc1,pw⟩:=hW c0 hc0
 simp -implicitDefEqProofs [AGZ,ints]at pw
 refine Aa (pw) ?_
 clear pw
 simp -implicitDefEqProofs
 obtain⟨e,c2,he,hc2,pe⟩:=hE c1 hc1
 simp -implicitDefEqProofs [AGZ,ints]at pe
 refine Aa (pe) ?_
 clear pe
 have hez:=AV7 he
 simp -implicitDefEqProofs
 obtain⟨q,c3,hq,hc3,pq⟩:=hO c2 9 hc2 (by omega)
 simp -implicitDefEqProofs [AGZ,ints]at pq
 refine Aa (pq) ?_
 clear pq
 by_cases g:q=true
 ·simp -implicitDefEqProofs [g]
  obtain⟨y,c4,hy,hc4,py⟩:=hB c3 11 hc3 (by omega)
  simp -implicitDefEqProofs [AGZ,ints]at py
  refine Aa (py) ?_
  have hy3:=hy.2.2 (by omega)
  have w1:IntKind.i64.wrap (y-1)=y-1:=Ab (by omega) (by omega)
  simp -implicitDefEqProofs [w1]
  exact hQ (w,{e with kind:=y-1}) ⟨hw,hez⟩
 ·simp -implicitDefEqProofs [g]
  exact hQ (w,e) ⟨hw,hez⟩
end Go.Eng.T
namespace Go.Eng
theorem AQo {D:Dn} {c:Cf} {env:List V} {Q:List V→List O→Prop}:∀(a b:List Qq) {vals:List V} {H:List O},IX D c env a vals H (fun v u=>IX D c env b v u Q)→IX D c env (a++b) vals H Q
 | [],_,_,_,hh=>hh
 | rop::r,b,vals,H,hh=>by
  show IX D c env (rop::(r++b)) vals H Q
  unfold IX at hh⊢
  dsimp only at *
  have go:∀ {K K':V→Gq→Prop},(∀v u,K v u→K' v u)→stepW D c (masked rop.tau (hp H)) (evs vals env) rop.op K→stepW D c (masked rop.tau (hp H)) (evs vals env) rop.op K':=fun h hh=>AA3 h hh
  split at hh
  ·exact go (fun v u hk=>⟨hk.1,AQo r b hk.2⟩) hh
  ·split at hh
   ·split at hh
    ·rename_i hb;rw[if_pos hb];exact go (fun v u hk=>⟨hk.1,AQo r b hk.2⟩) hh
    ·rename_i hb;rw[if_neg hb];exact AQo r b hh
   ·exact AQo r b hh
   ·exact hh.elim
end Go.Eng
namespace Go.Eng.T
set_option maxRecDepth 20000
set_option maxHeartbeats 4000000
theorem AVU {w:World} {e:Event} (h:(AO w e).2=false):(AO w e).1=w:=by
 unfold AO at h⊢
 split at h
 ·rename_i g;rw[if_pos g];unfold DN at h⊢;split at h
  ·cases h
  ·rename_i g2;rw[if_neg g2]
 rename_i g;rw[if_neg g]
 split at h
 ·rename_i g;rw[if_pos g];unfold Dl at h⊢;split at h
  ·cases h
  ·rename_i g2;rw[if_neg g2]
 rename_i g;rw[if_neg g]
 split at h
 ·rename_i g;rw[if_pos g];unfold BQ at h⊢
  repeat' split
  all_goals first | rfl | (exfalso;simp_all)
 rename_i g;rw[if_neg g]
 split at h
 ·rename_i g;rw[if_pos g];unfold BX at h⊢;split at h
  ·cases h
  ·rename_i g2;rw[if_neg g2]
 rename_i g;rw[if_neg g]
 split at h
 ·rename_i g;rw[if_pos g];unfold HV at h⊢;dsimp only at h⊢;rw[AJQ h]
 rename_i g;rw[if_neg g]
 split at h
 ·rename_i g;rw[if_pos g];unfold Gw at h⊢
  repeat' split
  all_goals first | rfl | (exfalso;simp_all)
 rename_i g;rw[if_neg g]
 split at h
 ·rename_i g;rw[if_pos g];unfold E9 at h⊢
  repeat' split
  all_goals first | rfl | (exfalso;simp_all)
 rename_i g;rw[if_neg g]
 split at h
 ·rename_i g;rw[if_pos g];unfold EM at h⊢;split at h
  ·cases h
  ·rename_i g2;rw[if_neg g2]
 rename_i g;rw[if_neg g]
structure ARQ (w:World) (r:World×Bool):Prop where
 ok:Arw r.1=true
 sz:Ai r.1≤30000
 no:r.2=false→r.1=w
theorem AOE {w:World} (h:Ai w≤30000):AfI w:=by
 have ml:∀n:Nat,n≤30000→n≤maxLen:=fun n h=>by unfold maxLen;omega
 unfold Ai at h
 have e1:=FL (f:=Ad) (xs:=w.ends)
 have e2:=FL (f:=Ak) (xs:=w.stage)
 have e3:=FL (f:=Ay) (xs:=w.log)
 have d:∀x:Cu,Ak x≤30000→Ri x:=fun x hx=>by
  simp only[Ak,EN]at hx
  exact⟨ml _ (by omega),ml _ (by omega)⟩
 refine⟨ml _ (by omega),ml _ (by omega),⟨ml _ (by omega),fun j hj=> ?_⟩,ml _ (by unfold AU at h;omega),⟨ml _ (by omega),fun j hj=> ?_⟩,⟨ml _ (by omega),fun j hj=> ?_⟩⟩
 ·have:=size_at (f:=Ad) hj
  exact Axr (by omega)
 ·have:=size_at (f:=Ak) hj
  exact d _ (by omega)
 ·have:=size_at (f:=Ay) hj
  have h3:Ay w.log[j]=Ak w.log[j].dialed:=rfl
  exact d _ (by omega)
end Go.Eng.T
namespace Go.Eng.T
set_option maxRecDepth 20000
set_option maxHeartbeats 4000000
@[simp high] theorem AYq (xs:List Event) (o n:Nat):part (xs.flatMap BB) 6 o n=((xs.drop o).take n).flatMap BB:=AEX EO xs o n
def atV (bs:List Int) (i:Int):Int:=if i<bs.length then bs.getD i.toNat 0 else(i*31+bs.length*7).tmod 256
abbrev atS (R:Rel):Prop:=∀(bs:List Int) (i:Nat),AUy bs→i≤100→R [.sl 3 1 bs.length (u8s bs),I i] [] (I (atV bs i)) []
theorem AYF (D:Dn):atS (Body D AXG):=by
 intro bs i hb hi
 have hl:=hb.1
 simp -implicitDefEqProofs
 by_cases h:(i:Int)<bs.length
 ·have h1:i<bs.length:=by omega
  have e:atV bs i=bs[i]:=by unfold atV;rw[if_pos h];simp[h1]
  have hr:=hb.2 bs[i] (List.getElem_mem h1)
  have w1:IntKind.i64.wrap bs[i]=bs[i]:=Ab (by omega) (by omega)
  simp -implicitDefEqProofs [h,h1,e,w1]
 ·have e:atV bs i=((i:Int)*31+bs.length*7).tmod 256:=by unfold atV;rw[if_neg h]
  have w1:IntKind.i64.wrap ((i:Int)*31)=(i:Int)*31:=Ab (by omega) (by omega)
  have w2:IntKind.i64.wrap ((bs.length:Int)*7)=(bs.length:Int)*7:=Ab (by omega) (by omega)
  have w3:IntKind.i64.wrap ((i:Int)*31+bs.length*7)=(i:Int)*31+bs.length*7:=Ab (by omega) (by omega)
  have h':¬i<bs.length:=by omega
  simp -implicitDefEqProofs [h',e,w1,w2,w3]
theorem AYs {bs:List Int} {i:Nat} (hb:AUy bs):0≤atV bs i:=by
 unfold atV
 split
 ·rename_i h
  have h1:i<bs.length:=by omega
  have:=hb.2 bs[i] (List.getElem_mem h1)
  simp[h1];omega
 ·exact Int.tmod_nonneg _ (by omega)
theorem AX2 (w:World):∀l:List Event,(Aq w l).log.length≤w.log.length+(cntF (fun e=>decide (e.kind=1)) l)
 | []=>by simp[Aq]
 | e::l=>by
  have h1:=(AVD w e).1
  have h2:=AX2 (AO w e).1 l
  have h3:Aq w (e::l)=Aq (AO w e).1 l:=rfl
  have h4:cntF (fun e:Event=>decide (e.kind=1)) (e::l)=(if e.kind=1 then 1 else 0)+cntF (fun e=>decide (e.kind=1)) l:=by
   by_cases g:e.kind=1<;>simp[cntF,g]<;>omega
  rw[h3,h4]
  omega
theorem AXN {w:World} (h0:Ai w≤4200):AfI w:=by
 have h:Ai w≤30000:=by omega
 have ml:∀n:Nat,n≤30000→n≤maxLen:=fun n h=>by unfold maxLen;omega
 unfold Ai at h
 have e1:=FL (f:=Ad) (xs:=w.ends)
 have e2:=FL (f:=Ak) (xs:=w.stage)
 have e3:=FL (f:=Ay) (xs:=w.log)
 have d:∀x:Cu,Ak x≤30000→Ri x:=fun x hx=>by
  simp only[Ak,EN]at hx
  exact⟨ml _ (by omega),ml _ (by omega)⟩
 refine⟨ml _ (by omega),ml _ (by omega),⟨ml _ (by omega),fun j hj=> ?_⟩,ml _ (by unfold AU at h;omega),⟨ml _ (by omega),fun j hj=> ?_⟩,⟨ml _ (by omega),fun j hj=> ?_⟩⟩
 ·have:=size_at (f:=Ad) hj
  exact Axr (by omega)
 ·have:=size_at (f:=Ak) hj
  exact d _ (by omega)
 ·have:=size_at (f:=Ay) hj
  have h3:Ay w.log[j]=Ak w.log[j].dialed:=rfl
  exact d _ (by omega)
theorem AYo {w:World} {e:Event} (h:(AO w e).2=true):¬(AXS e.kind).toList=[]:=by
 have hk:e.kind=1∨e.kind=2∨e.kind=3∨e.kind=4∨e.kind=5∨e.kind=6∨e.kind=7∨e.kind=8:=by
  by_cases g:e.kind=1∨e.kind=2∨e.kind=3∨e.kind=4∨e.kind=5∨e.kind=6∨e.kind=7∨e.kind=8
  ·exact g
  ·exfalso
   simp only[not_or]at g
   obtain⟨g1,g2,g3,g4,g5,g6,g7,g8⟩:=g
   unfold AO at h
   rw[if_neg g1,if_neg g2,if_neg g3,if_neg g4,if_neg g5,if_neg g6,if_neg g7,if_neg g8]at h
   cases h
 rcases hk with h1 | h1 | h1 | h1 | h1 | h1 | h1 | h1<;>rw[h1]<;>decide +kernel
theorem AX3 {w:World} (h:LW 9 w):∀n:Nat,n≤w.ends.length→(ADg w n).log.length=w.log.length+n∧(ADg w n).stage.length≤w.stage.length+n∧(ADg w n).ends.length=w.ends.length
 | 0,_=>⟨rfl,Nat.le_refl _,rfl⟩
 | n+1,hn=>by
  obtain⟨h1,h2,h3⟩:=AX3 h n (by omega)
  have a1:=h.log
  have a2:=h.stg
  have a3:=h.ends
  have hm:Q6 (ADg w n) n=true:=by
   unfold Q6
   simp only[Bool.and_eq_true,decide_eq_true_eq]
   exact⟨⟨by omega,by omega⟩,by omega,by omega⟩
  have e:ADg w (n+1)=Q5 (ADg w n) n (O8 (ADg w n) n) (Nc (ADg w n) n):=by
   show(DN (ADg w n) n).1=_
   unfold DN
   rw[if_pos hm]
  rw[e]
  unfold Q5
  dsimp only
  refine⟨by simp;omega,?_,h3⟩
  split
  ·simp;omega
  ·omega
abbrev AXt (R:Rel):Prop:=∀bs:List Int,AWf bs→R [.sl 3 1 bs.length (u8s bs)] [] (B true) []
theorem AX0 (D:Dn) (hBig:AWb (D ANn)) (dR:AVs (D AAG)) (hRE:Li (D Ali)) (hAt:atS (D ANX)) (hW:AP4 (D AJH)) (hE:AQf (D ADF)) (hCK:AWB (D AGB))
 (dA:AU2 (D Ayh)) (hA:JX (D Aj2)) (dT:AWl (D AE3)) (hT:AXE (D AK7)) (hN:AWy (D AGa)):AXt (Body D AV4):=by
 intro bs hb
 simp -implicitDefEqProofs
 refine Aa (hBig bs hb.1) ?_
 by_cases hbig:1048576<bs.length
 ·simp -implicitDefEqProofs [hbig]
 have hBs:AUy bs:=⟨by omega,hb.2⟩
 simp -implicitDefEqProofs [hbig]
 obtain⟨⟨w,l⟩,hp,p1⟩:=dR bs hBs
 obtain⟨hw,hsz,hlog,hev,hl0,hl1⟩:=hp
 dsimp only at hw hsz hlog hev hl0 hl1
 simp -implicitDefEqProofs [Cc]at p1
 refine Aa (p1) ?_
 clear p1
 simp -implicitDefEqProofs
 have hrun:=AYe (m:=0) hsz hev (by omega)
 have p2:=hRE w l hrun.1
 simp -implicitDefEqProofs [Cc]at p2
 refine Aa (p2) ?_
 clear p2
 simp -implicitDefEqProofs
 have p3:=hAt bs 3 hBs (by omega)
 have hn:=AYs (i:=3) hBs
 simp -implicitDefEqProofs at p3
 refine Aa (p3) ?_
 clear p3
 have hlne:¬l=[]:=by intro h;rw[h]at hl0;simp at hl0
 have hk0:=Int.tmod_nonneg (b:=(l.length:Int)) hn
 obtain⟨k,hk,hkl⟩:∃k:Nat,(atV bs (3:Nat)).tmod l.length=k∧k<l.length:=by
  have h1:=Int.tmod_nonneg (l.length:Int) hn
  have h2:=Int.tmod_lt_of_pos (atV bs (3:Nat)) (b:=(l.length:Int)) (by omega)
  exact⟨((atV bs (3:Nat)).tmod l.length).toNat,by omega,by omega⟩
 simp at hk
 have hxw:=AX9 (w:=w) (l:=l) hw
 simp -implicitDefEqProofs [hlne,hk]
 have hxs:Ai (Aq w l)≤4194304:=by have:=hrun.2;omega
 refine Aa (hW (Aq w l) hxs) ?_
 have hkl':k≤l.length:=by omega
 simp -implicitDefEqProofs [hxw,hkl']
 have hevT:∀e,e∈l.take k→AWI e:=fun e he=>hev e (List.mem_of_mem_take he)
 have hevD:∀e,e∈l.drop k→AWI e:=fun e he=>hev e (List.mem_of_mem_drop he)
 have hrT:=AYe (m:=0) hsz hevT (by simp;omega)
 have p3:=hRE w (l.take k) hrT.1
 have lT:(l.take k).length=k:=by simp;omega
 rw[lT]at p3
 simp -implicitDefEqProofs [Cc]at p3
 refine Aa (p3) ?_
 clear p3
 have hkd:(l.drop k).take (l.length-k)=l.drop k:=List.take_of_length_le (by simp)
 have happ:Aq (Aq w (l.take k)) (l.drop k)=Aq w l:=by rw[←AYn,List.take_append_drop]
 simp -implicitDefEqProofs [hkl',hkd]
 have hrD:Af0 (Aq w (l.take k)) (l.drop k):=by
  have h1:=AV0 (l.drop k) hevD
  have h2:=hrT.2
  have h3:(Aq w (l.take k)).ends.length≤Ai (Aq w (l.take k)):=by have:=FL (f:=Ad) (xs:=(Aq w (l.take k)).ends);unfold Ai;omega
  have h4:(l.drop k).length≤18:=by simp;omega
  unfold Af0;omega
 have p4:=hRE (Aq w (l.take k)) (l.drop k) hrD
 rw[happ]at p4
 have lD:(l.drop k).length=l.length-k:=by simp
 rw[lD]at p4
 simp -implicitDefEqProofs [Cc]at p4
 refine Aa (p4) ?_
 clear p4
 simp -implicitDefEqProofs
 have p5:=hE (Aq w l) (Aq w l) (AXN hrun.2) (AXN hrun.2)
 simp -implicitDefEqProofs [Cc]at p5
 refine Aa (p5) ?_
 clear p5
 simp -implicitDefEqProofs
 have p6:=hCK l 1 (by unfold maxLen;omega)
 refine Aa (p6) ?_
 clear p6
 have hct:=AX2 w l
 rw[hlog]at hct
 simp at hct
 have hng:¬((cntF (fun e:Event=>decide (e.kind=1)) l:Nat):Int)<((Aq w l).log.length:Int):=by omega
 simp -implicitDefEqProofs [hng]
 obtain⟨⟨a,e⟩,⟨ha,he⟩,p7⟩:=dA bs hBs
 replace ha:LW 9 a:=ha
 replace he:Bf e≤8:=he
 have hasz:=ARy ha
 simp -implicitDefEqProofs [Cc]at p7
 refine Aa (p7) ?_
 clear p7
 simp -implicitDefEqProofs
 have p8:=hA a e (by omega) (by omega)
 have hno:=AVU (w:=a) (e:=e)
 have hnm:=AYo (w:=a) (e:=e)
 generalize AO a e=r at p8 hno hnm
 simp -implicitDefEqProofs [Cc]at p8
 refine Aa (p8) ?_
 clear p8
 simp -implicitDefEqProofs
 obtain⟨y,hy,p9⟩:=dT bs hBs
 have hysz:=ARy hy
 simp -implicitDefEqProofs [Cc]at p9
 refine Aa (p9) ?_
 clear p9
 simp -implicitDefEqProofs
 have p10:=hT y (by omega)
 have htl:=(AX3 hy y.ends.length (Nat.le_refl _)).1
 have htl2:(AXR y).log.length=y.log.length+y.ends.length:=htl
 have hya:=hy.log
 have hyb:=hy.ends
 have wl:IntKind.i64.wrap ((y.log.length:Int)+y.ends.length)=(y.log.length:Int)+y.ends.length:=Ab (by omega) (by omega)
 generalize AXR y=z at p10 htl2
 simp -implicitDefEqProofs [Cc]at p10
 refine Aa (p10) ?_
 clear p10
 by_cases q:r.2=true
 ·simp -implicitDefEqProofs [q]
  refine Aa (hN e.kind) ?_
  have hnm2:=hnm q
  simp(maxSteps:=2000000)-implicitDefEqProofs [hnm2,htl2,wl]
 ·obtain⟨r1,ok⟩:=r
  have q2:ok=false:=by simpa using q
  subst q2
  have hz:r1=a:=hno rfl
  subst hz
  have p11:=hE r1 r1 (AOE (by omega)) (AOE (by omega))
  simp -implicitDefEqProofs [Cc]at p11
  simp -implicitDefEqProofs
  refine Aa (p11) ?_
  simp -implicitDefEqProofs [htl2,wl]
end Go.Eng.T
namespace Go.Eng.T
set_option maxRecDepth 20000
set_option maxHeartbeats 2000000
abbrev AHZ (R:Rel):Prop:=∀n:Nat,n≤16777216→R [.sc (.slice none 0 0),I n] [] (.sl 0 1 0 []) []
def Yd (ls:List (List Int)):List Int:=ls.flatten
abbrev Afs (R:Rel):Prop:=∀ls:List (List Int),I4 ls≤8388608→R [Jb ls] [] (.sl 0 1 (Yd ls).length (ints (Yd ls))) []
theorem AuV {ls:List (List Int)} {j:Nat} (h:j<ls.length):Yd (ls.take (j+1))=Yd (ls.take j)++ls[j]:=by
 have e:ls.take (j+1)=ls.take j++ [ls[j]]:=by simp
 unfold Yd
 rw[e,List.flatten_append];simp
theorem Awo (ls:List (List Int)) (j:Nat):(Yd (ls.take j)).length≤I4 ls:=by
 unfold Yd
 have h1:(ls.take j).flatten.length≤ls.flatten.length:=by
  conv=>rhs;rw[←List.take_append_drop j ls,List.flatten_append,List.length_append]
  omega
 have h2:ls.flatten.length≤I4 ls:=by
  unfold I4 AP
  rw[List.length_flatten]
  omega
 omega
theorem AHb (D:Dn) (hG:AHZ (D XT)):Afs (Body D IK):=by
 intro ls hl
 have hll:=JL (xs:=ls)
 simp -implicitDefEqProofs
 refine Af (fun k s=>∃j,j+k=ls.length∧s=⟨[Jb ls,.undef,I ((Yd (ls.take j)).length:Nat),.undef,.undef,.undef,Jb ls,I ls.length,I j,.undef,.undef,.undef,.undef,.undef,.undef],[.free,.free,.free]⟩) ?_ (ls.length) _ ⟨0,by simp,by simp[Yd]⟩
 intro k s ⟨j,hj,hs⟩
 subst hs
 by_cases hjn:j<ls.length
 ·have hw:IntKind.i64.wrap ((j:Int)+1)=(j+1:Nat):=by rw[Ab (by omega) (by omega)];simp
  have hst:=congrArg List.length (AuV hjn)
  rw[List.length_append]at hst
  have hle:=Awo ls (j+1)
  obtain⟨n2,hn2⟩:∃n2,n2=(Yd (ls.take (j+1))).length:=⟨_,rfl⟩
  obtain⟨n1,hn1⟩:∃n1,n1=(Yd (ls.take j)).length:=⟨_,rfl⟩
  rw[←hn2]at hst hle
  rw[←hn1]at hst⊢
  have hw2:IntKind.i64.wrap ((n1:Int)+(ls[j].length:Nat))=(n2:Int):=by rw[hst,Ab (by omega) (by omega)];omega
  have hneg:¬(n2:Int)<0:=by omega
  simp -implicitDefEqProofs [hjn,hw2,hneg]
  exact⟨k-1,by omega,j+1,by omega,by simp[hw,hn2]⟩
 ·have e:ls.take j=ls:=List.take_of_length_le (by omega)
  have hle:=Awo ls j
  simp -implicitDefEqProofs [hjn,e]
  rw[e]at hle
  refine Aa (hG (Yd ls).length (by omega)) ?_
  simp -implicitDefEqProofs
  refine Af (fun k s=>∃j o1,j+k=ls.length∧s=⟨[.undef,.undef,.undef,.undef,.arr 2,.undef,.undef,.undef,.undef,.undef,.undef,Jb ls,I ls.length,I j,.undef],[.free,o1,.arr 1 0 (Yd (ls.take j)).length (ints (Yd (ls.take j)))]⟩) ?_ (ls.length) _ ⟨0,.free,by simp,by simp[Yd]⟩
  intro k s ⟨j,o1,hj,hs⟩
  subst hs
  clear hjn e
  by_cases hjn:j<ls.length
  ·have hw:IntKind.i64.wrap ((j:Int)+1)=(j+1:Nat):=by rw[Ab (by omega) (by omega)];simp
   have hst:=AuV hjn
   have hle2:=Awo ls (j+1)
   have hsl:=congrArg List.length hst
   rw[List.length_append]at hsl
   generalize(Yd (ls.take j))=r1 at *
   have hb1:(r1.length+ls[j].length)*8≤1099511627776:=by omega
   simp -implicitDefEqProofs [hjn,hb1]
   exact⟨k-1,by omega,j+1,by omega,by simp[hw],by rw[hst];simp[ints]⟩
  ·have e:ls.take j=ls:=List.take_of_length_le (by omega)
   simp -implicitDefEqProofs [hjn,e]
theorem AHT (D:Dn) (hC:Afs (D Mi)) (hH:ZF (D AdC)):Aa5 (Body D R6):=by
 intro k xs hl
 simp -implicitDefEqProofs
 have hc:=hC [[k],xs,[k]] (by simp[I4,AP];omega)
 simp -implicitDefEqProofs [Jb,LU,ints]at hc
 simp -implicitDefEqProofs [ints]
 refine Aa (hc) ?_
 have ek:Yd [[k],xs,[k]]=k::xs++ [k]:=by simp[Yd]
 rw[ek]
 have hlen:(k::xs++ [k]).length=xs.length+1+1:=by simp
 have hh:=hH (k::xs++ [k]) (by unfold maxLen;omega)
 rw[hlen]at hh
 simp -implicitDefEqProofs [ints]at hh
 simp -implicitDefEqProofs [ints]
 refine Aa (hh) ?_
 simp -implicitDefEqProofs [keyed]
theorem ArV (D:Dn) (hI:Fe (D Jq)) (hE:IB (D XJ)) (hC:Afs (D Mi)):J3 (Body D Qz):=by
 intro h hh
 have hv:=hh.1
 simp -implicitDefEqProofs
 refine Aa (hI h hh) ?_
 by_cases h1:Dw h=true
 rotate_left
 ·simp -implicitDefEqProofs [h1,Bz]
 have hl:=Oa h.exts
 have e:Bz h=((h.versions.length:Int)::h.versions)++(Ga h.exts).1:=by unfold Bz;rw[if_pos h1]
 rw[e]
 simp -implicitDefEqProofs [h1]
 refine Aa (hE h.exts hh.2) ?_
 generalize(Ga h.exts).1=r at hl
 simp -implicitDefEqProofs [ints]
 have hc:=hC [[(h.versions.length:Int)],h.versions,r] (by simp[I4,AP];omega)
 simp -implicitDefEqProofs [Jb,LU,ints]at hc
 refine Aa (hc) ?_
 have ek:Yd [[(h.versions.length:Int)],h.versions,r]=((h.versions.length:Int)::h.versions)++r:=by simp[Yd]
 rw[ek]
 simp -implicitDefEqProofs [ints]
abbrev AvJ (R:Rel):Prop:=∀(v:Int) (n:Nat),n≤2→R [.sl 1 1 1 (ints [v]),I n] [] (.sl 0 1 n (ints (List.replicate n v))) []
abbrev AvV (R:Rel):Prop:=∀(l:List Ext) (i:Nat) (x:Ext),l.length≤4194304→i≤l.length→
 R [.arr 0,I i,.arr 1] [.arr 2 0 l.length (l.flatMap Ce),.arr 2 0 1 (Ce x)] (.sl 0 2 (l.length+1) ((l.take i++x::l.drop i).flatMap Ce)) [.dead,.dead]
theorem AwS (D:Dn) (hC:Q8 (D Abh)) (hG:Ld (D AmG)) (hA:Ia (D MW)) (hX:Tf (D AkK)) (hP:Ac5 (D Afe))
 (hR:AvJ (D Vz)) (hI:AvV (D MQ)):LQ (Body D PZ):=by
 intro l seed hl
 have hll:=hl.1
 simp -implicitDefEqProofs
 refine Aa (hC l hl) ?_
 simp -implicitDefEqProofs
 refine Aa (hG seed) ?_
 obtain⟨t,ht⟩:∃t,t=Qf seed:=⟨_,rfl⟩
 rw[←ht]
 simp -implicitDefEqProofs
 refine Aa (hA l hl) ?_
 by_cases h1:FU l=true
 rotate_left
 ·simp -implicitDefEqProofs [h1,En]
 have h6:l.length≤6:=AbS h1
 by_cases h2:l.length=6
 ·have h2':((l.length:Nat):Int)=6:=by omega
  simp -implicitDefEqProofs [h1,h2',En,h2]
 have h2':¬((l.length:Nat):Int)=6:=by omega
 have h2l:l.length<6:=by omega
 simp -implicitDefEqProofs [h1,h2',h2]
 refine Aa (hX l t (by unfold maxLen;omega)) ?_
 by_cases h3:t∈Av l
 ·have h3':0≤LJ l t:=by
   by_cases h:LJ l t<0
   ·rw[N7]at h;exact absurd h3 h
   ·omega
  simp -implicitDefEqProofs [h1,h2l,h2',h2,h3',h3,En,←ht]
 have h3':¬0≤LJ l t:=by
  have:LJ l t<0:=by rw[N7];exact h3
  omega
 have e:En l seed=l.take (AtW l seed)++⟨t,Ap0 seed⟩::l.drop (AtW l seed):=by
  unfold En
  rw[if_pos]
  ·rw[ht]
  ·simp[h1,h2l,←ht,h3]
 have hgp:=AC9 l seed h6
 rw[e]
 simp -implicitDefEqProofs [h3',h2',h2]
 refine Aa (hP seed 3 256) ?_
 simp -implicitDefEqProofs
 refine Aa (hP seed 2 3) ?_
 have hp2:=V4 seed 2 (n:=3) ⟨by omega,by omega⟩
 have eb:Ap0 seed=List.replicate (pick seed 2 3).toNat (pick seed 3 256):=rfl
 obtain⟨n,hn⟩:∃n:Nat,pick seed 2 3=n:=⟨(pick seed 2 3).toNat,by omega⟩
 rw[hn]at eb hp2⊢
 rw[Int.toNat_natCast]at eb
 rw[eb]
 generalize pick seed 3 256=v at *
 simp -implicitDefEqProofs [ints]
 have hr:=hR v n (by omega)
 simp -implicitDefEqProofs [ints]at hr
 refine Aa (hr) ?_
 have hwl:IntKind.i64.wrap ((l.length:Int)+1)=(l.length:Int)+1:=Ab (by omega) (by omega)
 simp -implicitDefEqProofs [hwl]
 refine Aa (hP seed 1 (l.length+1)) ?_
 have hp1:=V4 seed 1 (n:=(l.length:Int)+1) ⟨by omega,by omega⟩
 have eg:AtW l seed=(pick seed 1 (l.length+1)).toNat:=rfl
 generalize pick seed 1 (l.length+1)=k1 at hp1 eg
 obtain⟨kk,rfl⟩:∃kk:Nat,k1=kk:=⟨k1.toNat,by omega⟩
 rw[Int.toNat_natCast]at eg
 rw[eg]at hgp⊢
 simp -implicitDefEqProofs
 have hi:=hI l kk ⟨t,List.replicate n v⟩ (by omega) hgp
 simp -implicitDefEqProofs [Ce,ints]at hi
 refine Aa (hi) ?_
 have hlen:(l.take kk++(⟨t,List.replicate n v⟩:Ext)::l.drop kk).length=l.length+1:=by simp;omega
 simp -implicitDefEqProofs [hlen,Ce,ints]
 omega
end Go.Eng.T
namespace Go.Eng
open Go.Lib Go.RowKit
inductive AdV (Ah:Nat→Option FuncId) (w:World):List V→List Value→Prop where
 | nil:AdV Ah w [] []
 | sc {v:Value} {azs:List V} {xs:List Value} (h:AdV Ah w azs xs):AdV Ah w (.sc v::azs) (v::xs)
 | sl {e len:Nat} {cells:List V} {x:Value} {azs:List V} {xs:List Value} (h1:Rd Ah w (· <w.heap.size) (.sl 1 e len cells) x) (h:AdV Ah w azs xs):AdV Ah w (.sl 1 e len cells::azs) (x::xs)
def ACk:V→Prop
 | .sc _=>True
 | .sl 1 _ _ _=>True
 | _=>False
theorem Ain {F:Fr} {w:World} {β:Nat→Base} {own:Nat→Option (Nat×List Nat)} {H:Hp} (hw:w=F.w0):∀ {azs:List V} {xs:List Value},(∀a,a∈azs→ACk a)→Pw (VR F β own H w) azs xs→AdV F.Ah w azs xs
 | [],xs,_,h=>by rw[h.PO];exact .nil
 | a::azs,xs,hp,h=>by
  obtain⟨x,r,rfl,h1,h2⟩:=h.Ju
  have ih:=Ain hw (fun a ha=>hp a (List.mem_cons_of_mem _ ha)) h2
  have ha:=hp a (by simp)
  cases h1 with
  | sc h=>exact .sc ih
  | @rd fl e len cells _ h3 h=>
   match fl,ha,h with
   | 1,_,h=>exact .sl (Rd.move h (fun b hb=>by rw[hw];exact hb.1) (fun _ _=>rfl)) ih
  | _=>exact absurd ha (by simp[ACk])
theorem AHB {P:Program} {Ah:Nat→Option FuncId} {G:Gl} {g:Nat} {args:List V} {v:Value} (hv:v.oneCell' =true) (hp':∀a,a∈args→ACk a)
 (h:∀id,Ah g=some id→∀w:World,(∀b,G b→b<w.heap.size∧w.heap[b]? =G.is b)→∀xs,AdV Ah w args xs→Calls P id xs.toArray w fun e w'=>e= .returned v∧Below w.heap.size w w'):Den P Ah G g args [] (.sc v) []:=by
 intro id hid F hF hG hb ht hn inv xs hx
 have hr:=Ain (F:=F) rfl hp' hx
 rw[hF]at hr
 refine(h id hid F.w0 (fun b hb=> ?_) xs hr).mono fun e w' ⟨he,hw⟩=> ?_
 ·have:=inv.glob b (by rw[hG];exact hb)
  exact⟨this.1,by rw[←hG];exact this.2.2⟩
 ·subst he
  refine⟨F.own0,⟨hw.size,hw.os,hw.tape,hw.output,fun b hb _=>hw.block b hb,fun b p hb=>⟨Nat.lt_of_lt_of_le (inv.ownb b p hb).1 hw.size,fun _=> ?_⟩,.sc hv,hn.symm,fun i o hi=> ?_⟩⟩
  ·rw[hb];simp
  ·simp at hi
end Go.Eng
namespace Go.Eng
open Go.Lib Go.RowKit Go.Sort
def iv (l:List Int):List Value:=l.map (Value.int .i64)
@[simp] theorem Avl (l:List Int):(iv l).length=l.length:=by simp[iv]
theorem J7 (l:List Int):GY (iv l):=by
 intro v hv
 simp only[iv,List.mem_map]at hv
 obtain⟨x,_,rfl⟩:=hv
 rfl
structure Kept (F:Fr) (w':World):Prop where
 size:F.w0.heap.size≤w'.heap.size
 os:w'.os=F.w0.os
 tape:w'.tape=F.w0.tape
 output:w'.output=F.w0.output
 keep:∀b,b<F.w0.heap.size→F.own0 b=none→w'.heap[b]? =F.w0.heap[b]?
theorem Kept.refl (F:Fr):Kept F F.w0:=⟨Nat.le_refl _,rfl,rfl,rfl,fun _ _ _=>rfl⟩
theorem ApT {F:Fr} {given:List O} {k:Nat} {l:List Int} {x:Value} (inv:Inv F F.β0 F.own0 (hp given) F.w0) (hk:hp given k= .arr 1 0 l.length (T.ints l)) (h:VR F F.β0 F.own0 (hp given) F.w0 (.arr k) x):
 ∃a cap,x= .slice a l.length cap∧(l.length≤cap∧cap≤9223372036854775807)∧a=(F.β0 k).a∧cap=(F.β0 k).cap∧(cap=0∨∃b o,a=some ⟨b,o,none⟩∧F.own0 b=some (k,[])∧Has F.w0 b o (iv l) cap):=by
 have ho:=inv.objs k
 rw[hk]at ho
 obtain⟨vs,h1,h2,h3,h4,h5⟩:=ho
 have hv:vs=iv l:=by
  apply List.ext_getElem?
  intro i
  by_cases hi:i<l.length
  ·have hlen:vs.length=l.length:=by rw[h1];simp
   have e1:vs[i]? =some (vs[i]'(by omega)):=by simp[hlen,hi]
   have:=h5 i (.sc (.int .i64 l[i])) _ (by simp[hi]) e1
   rw[e1]
   generalize vs[i]'(by omega)=y at this
   cases this with
   | sc _=>simp[iv,hi]
  ·rw[List.getElem?_eq_none (by rw[h1];simp;omega),List.getElem?_eq_none (by simp;omega)]
 subst hv
 cases h with
 | @arr _ e t len cs he=>
  rw[hk]at he
  simp only[Al,Option.some.injEq,Prod.mk.injEq]at he
  obtain⟨rfl,rfl,rfl,rfl⟩:=he
  refine⟨_,_,rfl,h3,rfl,rfl,?_⟩
  rcases h4 with h4 | ⟨b,o,h4,h6,h7⟩
  ·exact .inl (by omega)
  ·exact .inr ⟨b,o,h4,h6,by rw[Nat.mul_one]at h7;exact h7⟩
 | goneA hd=>rw[hk]at hd;cases hd
theorem AbK {P:Program} {Ah:Nat→Option FuncId} {G:Gl} {g:Nat} {args:List V} {given:List O} {l':List Int}
 (h:∀id,Ah g=some id→∀F:Fr,F.Ah=Ah→Inv F F.β0 F.own0 (hp given) F.w0→∀xs,Pw (VR F F.β0 F.own0 (hp given) F.w0) args xs→
  Calls P id xs.toArray F.w0 fun e w'=>∃a cap,e= .returned (.slice a l'.length cap)∧(l'.length≤cap∧cap≤9223372036854775807)∧(cap=0∨∃b o,a=some ⟨b,o,none⟩∧Has w' b o (iv l') cap∧(b<F.w0.heap.size→F.own0 b≠none))∧Kept F w'):
 Den P Ah G g args given (.sl 0 1 l'.length (T.ints l')) (given.map fun _=> .dead):=by
 intro id hid F hF hG hb ht hn inv xs hx
 refine(h id hid F hF inv xs hx).mono fun e w' ⟨a,cap,he,hl,hm,hk⟩=> ?_
 subst he
 have hcs:∀own (i:Nat) (v:V) (x:Value),(T.ints l')[i]? =some v→(iv l')[i]? =some x→Ow F.Ah w' own (fun _ b=>F.G b) 0 F.ngiven ([]++ [i]) v x:=by
  intro own i v x h1 h2
  by_cases hi:i<l'.length
  ·rw[T.ints_at hi]at h1
   simp only[iv,List.getElem?_map,hi,List.getElem?_eq_getElem,Option.map_some,Option.some.injEq]at h1 h2
   subst h1 h2
   exact .sc rfl
  ·rw[List.getElem?_eq_none (by simp;omega)]at h1;cases h1
 rcases hm with hm | ⟨b,o,rfl,hhas,hown⟩
 ·refine⟨fun _=>none,⟨hk.size,hk.os,hk.tape,hk.output,hk.keep,fun b p h=>(by cases h),.own hl (by simp) (by simp) (.inl (by omega)) (hcs _),by simp[hn],fun i o hi=> ?_⟩⟩
  simp only[List.getElem?_map,Option.map_eq_some_iff]at hi
  obtain⟨_,_,rfl⟩:=hi
  trivial
 ·refine⟨fun b'=>if b' =b then some (F.ngiven,[])else none,⟨hk.size,hk.os,hk.tape,hk.output,hk.keep,fun b' p h=> ?_,.own hl (by simp) (by simp) (.inr ⟨b,o,rfl,if_pos rfl,by rw[Nat.mul_one];exact hhas⟩) (hcs _),by simp[hn],fun i o' hi=> ?_⟩⟩
  ·by_cases e:b' =b
   ·subst e;exact⟨Sj hhas,hown⟩
   ·rw[if_neg e]at h;cases h
  ·simp only[List.getElem?_map,Option.map_eq_some_iff]at hi
   obtain⟨_,_,rfl⟩:=hi
   trivial
theorem AFB {P:Program} {Ah:Nat→Option FuncId} {G:Gl} {g:Nat} {l l':List Int} (hll:l'.length=l.length)
 (h:∀id,Ah g=some id→∀F:Fr,F.Ah=Ah→Inv F F.β0 F.own0 (hp [.arr 1 0 l.length (T.ints l)]) F.w0→∀a cap,l.length≤cap→(cap=0∨∃b o,a=some ⟨b,o,none⟩∧F.own0 b=some (0,[])∧Has F.w0 b o (iv l) cap)→
  Calls P id #[.slice a l.length cap] F.w0 fun e w'=>e= .returned (.tuple #[])∧(cap=0∨∃b o,a=some ⟨b,o,none⟩∧Has w' b o (iv l') cap)∧Kept F w'):
 Den P Ah G g [.arr 0] [.arr 1 0 l.length (T.ints l)] (.tup []) [.arr 1 0 l.length (T.ints l')]:=by
 intro id hid F hF hG hb ht hn inv xs hx
 obtain⟨x,r,rfl,h1,h2⟩:=hx.Ju
 obtain rfl:=h2.PO
 obtain⟨a,cap,rfl,hl,ha,hc,hm⟩:=ApT inv rfl h1
 refine(h id hid F hF inv a cap hl.1 hm).mono fun e w' ⟨he,hm',hk⟩=> ?_
 subst he
 refine⟨F.own0,⟨hk.size,hk.os,hk.tape,hk.output,hk.keep,fun b p h=>⟨Nat.lt_of_lt_of_le (inv.ownb b p h).1 hk.size,fun _=>by rw[h];simp⟩,.tup (vs:=[]) rfl (fun i v x h _=>by simp at h),by rw[hn];rfl,fun i o hi=> ?_⟩⟩
 match i,hi with
 | 0,hi=>
  simp only[List.getElem?_cons_zero,Option.some.injEq]at hi
  subst hi
  refine⟨rfl,iv l',by simp,by simp[hll],by rw[←hc];exact hl,?_,?_⟩
  ·rcases hm with hm | ⟨b,o,e1,e2,e3⟩
   ·exact .inl (by rw[←hc,hm])
   ·rcases hm' with hm' | ⟨b',o',e1',e2'⟩
    ·exact .inl (by rw[←hc,hm'])
    ·rw[e1]at e1'
     cases e1'
     exact .inr ⟨b,o,by rw[←ha,e1],e2,by rw[←hc,Nat.mul_one];exact e2'⟩
  ·intro i v x h1 h2
   by_cases hi:i<l'.length
   ·rw[T.ints_at hi]at h1
    simp only[iv,List.getElem?_map,hi,List.getElem?_eq_getElem,Option.map_some,Option.some.injEq]at h1 h2
    subst h1 h2
    exact .sc rfl
   ·rw[List.getElem?_eq_none (by simp;omega)]at h1;cases h1
 | i+1,hi=>simp at hi
end Go.Eng
namespace Go.Eng.T
open Go.Lib Go.RowKit
theorem AvR {Ah:Nat→Option FuncId} {w:Go.World} {P:Nat→Prop} {l:List Int} {x:Value} (h:Rd Ah w P (.sl 1 1 l.length (ints l)) x):
 ∃a cap,x= .slice a l.length cap∧l.length≤cap∧(l=[]∨∃b o,a=some ⟨b,o,none⟩∧P b∧∀j,j<l.length→w.cell? ⟨b,o+j,none⟩=some (.int .i64 (l.getD j 0))):=by
 cases h with
 | @sl _ _ _ _ a cap vs hle hwd hvl hm hcs=>
  refine⟨a,cap,rfl,hle,?_⟩
  rcases hm with hm | ⟨b,o,rfl,hbk,hr⟩
  ·left
   cases l with
   | nil=>rfl
   | cons x r=>simp[ints]at hm
  ·right
   have hvlen:vs.length=l.length:=by rw[hvl];simp
   refine⟨b,o,rfl,hbk,fun j hj=> ?_⟩
   rw[hr.2 j (by omega)]
   have hv:vs[j]? =some vs[j]:=by simp
   rw[hv]
   have hrd:=hcs j (.sc (.int .i64 l[j])) vs[j] (by simp[ints,hj]) hv
   generalize vs[j]=y at hrd⊢
   cases hrd with
   | sc _=>simp[hj]
theorem AKS {P:Program} {Ah:Nat→Option FuncId} {G:Gl} {g k:Nat} (hid:Ah g=some k)
 (hc:∀(b off n c:Nat) (zs:List Int) (w:Go.World),0<n→n≤zs.length→n≤9223372036854775807→(∀j,j<zs.length→w.cell? ⟨b,off+j,none⟩=some (.int .i64 (zs.getD j 0)))→
  Calls P k #[.slice (some ⟨b,off,none⟩) n c] w fun e w'=>e= .returned (.int .i64 (Lib.maxOf (zs.take n)))∧w' =w):AMr (Den P Ah G g):=by
 intro xs h1 h2
 refine AHB (v:= .int .i64 (AKG xs)) rfl (fun a ha=> ?_) ?_
 ·simp only[List.mem_singleton]at ha;subst ha;trivial
 intro id hi w hw ys hx
 rw[hid]at hi
 cases hi
 cases hx with
 | sl h3 h4=>
  cases h4
  obtain⟨a,cap,rfl,hle,hm⟩:=AvR h3
  rcases hm with rfl | ⟨b,o,rfl,hb,hcell⟩
  ·simp at h1
  ·refine(hc b o xs.length cap xs w h1 (Nat.le_refl _) (by omega) hcell).mono fun e w' ⟨he,hw'⟩=>⟨?_,by rw[hw'];exact Below.refl _ _⟩
   rw[he,List.take_length];rfl
theorem ABl {w:Go.World} {base:Nat} {t:TypeId} {v:Value} {l:List Int} (h:w.ownsRow base t 1 v l.length (iv l)):
 ∃a cap,v= .slice a l.length cap∧(l.length≤cap∧cap≤9223372036854775807)∧(cap=0∨∃b o,a=some ⟨b,o,none⟩∧Has w b o (iv l) cap∧base≤b):=by
 obtain⟨_,h | ⟨g,cap,cur,rfl,h1,h2,h3,h4,h5,h6⟩⟩:=h
 ·obtain⟨rfl,h⟩:=h
  exact⟨none,0,by rw[h],⟨by omega,by omega⟩,.inl rfl⟩
 ·refine⟨_,cap,rfl,⟨h3,by unfold maxLen at h4;omega⟩,.inr ⟨g,0,rfl,⟨J7 l,cur,t,h2,by omega,by simpa using h3,fun i hi=> ?_⟩,h1⟩⟩
  rw[Nat.zero_add,←h6,Nat.mul_one]
  simp only[Avl]at hi
  rw[List.getElem?_take,if_pos hi,Array.getElem?_toList]
theorem ABP {F:Fr} {w':Go.World} (h:Below F.w0.heap.size F.w0 w'):Kept F w':=⟨h.size,h.os,h.tape,h.output,fun b hb _=>h.block b hb⟩
theorem AEO {P:Program} {Ah:Nat→Option FuncId} {G:Gl} {g k:Nat} {t:TypeId} (hid:Ah g=some k)
 (hn:∀(n c:Nat) (w:Go.World),Calls P k #[.slice none n c] w fun e w'=>e= .returned (.slice none 0 0)∧w' =w)
 (hz:∀(a:Addr) (c:Nat) (w:Go.World),Calls P k #[.slice (some a) 0 c] w fun e w'=>∃v',e= .returned v'∧w'.ownsRow w.heap.size t 1 v' 0 []∧v'≠ .slice none 0 0∧Below w.heap.size w w')
 (hc:∀(b off n c:Nat) (zs:List Int) (w:Go.World),n≤zs.length→n*8≤140737488355328→(∀j,j<zs.length→w.cell? ⟨b,off+j,none⟩=some (.int .i64 (zs.getD j 0)))→
  Calls P k #[.slice (some ⟨b,off,none⟩) n c] w fun e w'=>∃v',e= .returned v'∧w'.ownsRow w.heap.size t 1 v' n ((zs.take n).map (Value.int .i64))∧v'≠ .slice none 0 0∧Below w.heap.size w w'):ACy (Den P Ah G g):=by
 intro l hl
 refine AbK (given:=[]) (l':=l) fun id hi F hF inv xs hx=> ?_
 rw[hid]at hi
 cases hi
 have hr:=Ain (F:=F) rfl (fun a ha=>by simp only[List.mem_singleton]at ha;subst ha;trivial) hx
 cases hr with
 | sl h3 h4=>
  cases h4
  obtain⟨a,cap,rfl,hle,hm⟩:=AvR h3
  have fin:∀ {v':Value} {w':Go.World},w'.ownsRow F.w0.heap.size t 1 v' l.length (iv l)→Below F.w0.heap.size F.w0 w'→
   ∃a cap,Ending.returned v' = .returned (.slice a l.length cap)∧(l.length≤cap∧cap≤9223372036854775807)∧(cap=0∨∃b o,a=some ⟨b,o,none⟩∧Has w' b o (iv l) cap∧(b<F.w0.heap.size→F.own0 b≠none))∧Kept F w':=by
   intro v' w' ho hb
   obtain⟨a,cap,rfl,h5,h6⟩:=ABl ho
   refine⟨a,cap,rfl,h5,?_,ABP hb⟩
   rcases h6 with h6 | ⟨b,o,h7,h8,h9⟩
   ·exact .inl h6
   ·exact .inr ⟨b,o,h7,h8,fun h=>absurd h (by omega)⟩
  rcases hm with rfl | ⟨b,o,rfl,hb,hcell⟩
  ·cases a with
   | none=>exact(hn _ _ _).mono fun e w' ⟨he,hw⟩=>⟨none,0,he,⟨by simp,by omega⟩,.inl rfl,by rw[hw];exact Kept.refl F⟩
   | some a=>exact(hz a cap F.w0).mono fun e w' ⟨v',he,hown,_,hbel⟩=>by subst he;exact fin hown hbel
  ·exact(hc b o l.length cap l F.w0 (Nat.le_refl _) (by omega) hcell).mono fun e w' ⟨v',he,hown,_,hbel⟩=>by
    subst he
    rw[List.take_length]at hown
    exact fin hown hbel
end Go.Eng.T
namespace Go.Eng
open Go.Lib Go.RowKit Go.Sort
theorem Te (w:World) (b:Nat) (f:Array Value→Array Value):(mapBlock w b f).heap[b]? =(w.heap[b]?).map (onCells f):=by
 simp[mapBlock,Array.getElem?_modify]
theorem T9 (w:World) {b k:Nat} (f:Array Value→Array Value) (h:k≠b):(mapBlock w b f).heap[k]? =w.heap[k]? :=by
 simp[mapBlock,Array.getElem?_modify,Ne.symm h]
theorem JO (w:World) (b:Nat) (f:Array Value→Array Value):(mapBlock w b f).heap.size=w.heap.size:=by simp[mapBlock]
theorem Agt {w w':World} {b o n:Nat} {vs vs':List Value} {f:Array Value→Array Value} (h:Has w b o vs n) (hw:w'.heap[b]? =(w.heap[b]?).map (onCells f)) (hs:∀c,(f c).size=c.size)
 (hf:∀c:Array Value,o+n≤c.size→(∀i,i<vs.length→c[o+i]? =vs[i]?)→∀i,i<vs'.length→(f c)[o+i]? =vs'[i]?) (ho:GY vs') (hl:vs'.length≤n):Has w' b o vs' n:=by
 obtain⟨_,c,et,hb,h2,h3,h4⟩:=h
 exact⟨ho,f c,et,by rw[hw,hb];rfl,by rw[hs];exact h2,hl,hf c h2 h4⟩
theorem AEG {w:World} {b o n:Nat} {l:List Int} (h:Has w b o (iv l) n):Holds (Value.int .i64) w b o l.toArray:=by
 intro j hj
 simp only[List.size_toArray]at hj
 have hr:=(EF h).2 j (by simpa using hj)
 obtain⟨_,c,et,hb,_,_,_⟩:=h
 refine⟨?_,?_⟩
 ·rw[hr]
  simp[iv,hj]
 ·unfold World.frozen?
  simp only[hb]
  simp
theorem As0 {α:Type} [Inhabited α] (enc:α→Value) (o:Nat) (d:Array α) (c:Array Value):(putCells enc o d c).size=c.size:=by simp[putCells]
theorem AxH (l:List Int) (o:Nat) (c:Array Value) {i:Nat} (hi:i<l.length) (hc:o+i<c.size):(putCells (Value.int .i64) o l.toArray c)[o+i]? =(iv l)[i]? :=by
 simp only[putCells,Array.getElem?_mapIdx,Array.getElem?_eq_getElem hc,Option.map_some]
 rw[if_pos ⟨by omega,by simp;omega⟩]
 simp[iv,hi]
def AAs (l:List Int):List Int:=l.mergeSort fun x y=>decide (x≤y)
theorem Aiz (l:List Int):(AAs l).length=l.length:=by simp[AAs]
theorem AHu {P:Program} {Ah:Nat→Option FuncId} {G:Gl} {g k:Nat} (hid:Ah g=some k)
 (h0:∀(p:Option Addr) (cap:Nat) (w:World),Calls P k #[.slice p 0 cap] w fun e w'=>e= .returned (.tuple #[])∧w' =w)
 (hc:∀(blk off cap:Nat) (zs:List Int) (w:World),Holds (Value.int .i64) w blk off zs.toArray→blk<w.heap.size→zs.length<4611686018427387904→
  Calls P k #[.slice (some ⟨blk,off,none⟩) zs.length cap] w fun e w'=>e= .returned (.tuple #[])∧∃n os,w' =grow (putRow (Value.int .i64) (Sort.ahead w n) blk off (zs.mergeSort fun x y=>decide (x≤y)).toArray) os)
 (l:List Int) (hl:l.length≤4194304):Den P Ah G g [.arr 0] [.arr 1 0 l.length (T.ints l)] (.tup []) [.arr 1 0 l.length (T.ints (AAs l))]:=by
 refine AFB (Aiz l) fun id hi F hF inv a cap hcap hm=> ?_
 rw[hid]at hi
 cases hi
 rcases hm with hm | ⟨b,o,rfl,hown,hhas⟩
 ·subst hm
  have:l=[]:=List.eq_nil_of_length_eq_zero (by omega)
  subst this
  refine(h0 a 0 F.w0).mono fun e w' ⟨he,hw⟩=>⟨he,.inl rfl,?_⟩
  rw[hw];exact Kept.refl F
 ·refine(hc b o cap l F.w0 (AEG hhas) (Sj hhas) (by omega)).mono fun e w' ⟨he,n,os,hw⟩=>⟨he,.inr ⟨b,o,rfl,?_⟩,?_⟩
  ·refine Agt (f:=putCells (Value.int .i64) o (AAs l).toArray) hhas ?_ (As0 _ _ _) (fun c h1 _ i h2=> ?_) (J7 _) (by simp[Aiz];exact hcap)
   ·have hb:=Sj hhas
    rw[hw]
    simp only[grow,putRow]
    rw[Array.getElem?_append,if_pos (by rw[JO];exact hb),Te]
    rfl
   ·simp only[Avl]at h2
    exact AxH (AAs l) o c h2 (by rw[Aiz]at h2;omega)
  ·rw[hw]
   refine⟨by simp[grow,putRow,JO,Sort.ahead],rfl,rfl,rfl,fun b' h1 h2=> ?_⟩
   have hne:b'≠b:=by intro e;rw[e,hown]at h2;cases h2
   simp only[grow,putRow]
   rw[Array.getElem?_append,if_pos (by rw[JO];exact h1),T9 _ _ hne]
   rfl
end Go.Eng
namespace Go.Eng
open Go.Lib Go.RowKit Go.Sort
def KS:Nat→List Value→Array Value→Array Value
 | _,[],c=>c
 | o,v::r,c=>KS (o+1) r (c.setIfInBounds o v)
theorem Eh:∀(vs:List Value) (o:Nat) (c:Array Value),(KS o vs c).size=c.size
 | [],_,_=>rfl
 | v::r,o,c=>by rw[KS,Eh r];simp
theorem Ht:∀(vs:List Value) (o k:Nat) (c:Array Value),k<o∨o+vs.length≤k→(KS o vs c)[k]? =c[k]?
 | [],_,_,_,_=>rfl
 | v::r,o,k,c,h=>by
  simp only[List.length_cons]at h
  rw[KS,Ht r (o+1) k _ (by omega),Array.getElem?_setIfInBounds,if_neg (by omega)]
theorem PG:∀(vs:List Value) (o i:Nat) (c:Array Value),i<vs.length→o+vs.length≤c.size→(KS o vs c)[o+i]? =vs[i]?
 | v::r,o,0,c,_,hc=>by
  simp only[List.length_cons]at hc
  rw[KS,Ht r (o+1) (o+0) _ (by omega),Array.getElem?_setIfInBounds,if_pos (by omega),if_pos (by omega)]
  rfl
 | v::r,o,i+1,c,hi,hc=>by
  simp only[List.length_cons]at hc hi
  rw[KS,show o+(i+1)=o+1+i by omega,PG r (o+1) i _ (by omega) (by simp;omega)]
  simp
theorem Dh (b:Nat):∀(vs:List Value) (o:Nat) (w:World),w.setCells b o vs=mapBlock w b (KS o vs)
 | [],o,w=>(mapBlock_id w b _ fun _ _ _ _=>rfl).symm
 | v::r,o,w=>by
  rw[World.setCells,Dh b r,setCell_eq,mapBlock_mapBlock]
  rfl
def ApK (l:List Int) (i:Nat) (v:Int):List Int:=l.take i++v::l.drop i
theorem AHA {l:List Int} {i:Nat} {v:Int} (hi:i≤l.length):(ApK l i v).length=l.length+1:=by simp[ApK];omega
theorem AH4 {l:List Int} {i j:Nat} {v:Int} (hi:i≤l.length):(ApK l i v)[j]? =if j<i then l[j]? else if j=i then some v else l[j-1]? :=by
 unfold ApK
 have hm:min i l.length=i:=by omega
 rw[List.getElem?_append]
 simp only[List.length_take,hm]
 split
 ·rename_i h;rw[List.getElem?_take,if_pos h]
 ·split
  ·rename_i h1 h2;subst h2;simp
  ·rename_i h1 h2
   obtain⟨d,rfl⟩:∃d,j=i+(d+1):=⟨j-i-1,by omega⟩
   rw[show i+(d+1)-i=d+1 by omega,List.getElem?_cons_succ,List.getElem?_drop]
   congr 1
theorem ACd {l:List Int} {j:Nat}:(iv l)[j]? =(l[j]?).map (Value.int .i64):=by simp[iv]
theorem AHS {l:List Int} {i j:Nat} {v:Int} (hi:i≤l.length):(iv (ApK l i v))[j]? =if j<i then(iv l)[j]? else if j=i then some (.int .i64 v)else(iv l)[j-1]? :=by
 rw[ACd,AH4 hi]
 split
 ·rw[ACd]
 ·split
  ·rfl
  ·rw[ACd]
theorem AfQ {w:World} {b o n:Nat} {vs:List Value} (h:Has w b o vs n) {j:Nat} {v:Value} (hj:vs[j]? =some v):w.cell? ⟨b,o+j,none⟩=some v:=by
 have hl:=(List.getElem?_eq_some_iff.1 hj).1
 rw[(EF h).2 j hl,hj]
theorem Ahr {w:World} {b o n:Nat} {vs:List Value} (h:Has w b o vs n) {j:Nat} (hj:j<n):(w.cell? ⟨b,o+j,none⟩).isSome=true:=by
 obtain⟨_,c,et,hb,h2,_,_⟩:=h
 unfold World.cell?
 simp only[hb]
 have:o+j<c.size:=by omega
 simp[this]
theorem RA {w:World} {b o n:Nat} {vs:List Value} (h:Has w b o vs n) (x:Nat):w.frozen? ⟨b,x,none⟩=false:=by
 obtain⟨_,c,et,hb,_⟩:=h
 unfold World.frozen?
 simp only[hb]
 simp
theorem AbN {w:World} {b o n:Nat} {vs:List Value} (h:Has w b o vs n):∃t k,w.shape? b=some (t,k)∧o+n≤k:=by
 obtain⟨_,c,et,hb,h2,_⟩:=h
 exact⟨et,c.size,by unfold World.shape?;simp only[hb],h2⟩
theorem alloc_at (w:World) (o:Obj):(w.alloc o).heap[w.heap.size]? =some o:=by
 show(w.heap.push o)[w.heap.size]? =some o
 rw[Array.getElem?_push,if_pos rfl]
theorem QT (w:World) (o:Obj) {k:Nat} (h:k<w.heap.size):(w.alloc o).heap[k]? =w.heap[k]? :=by
 show(w.heap.push o)[k]? =w.heap[k]?
 rw[Array.getElem?_push,if_neg (by omega)]
theorem La (w:World) (o:Obj):(w.alloc o).heap.size=w.heap.size+1:=Array.size_push _
theorem AfD (n:Nat):(Builtin.zeroCells (Value.int .i64 0).cells n).size=n:=by simp[Builtin.zeroCells,Value.cells]
theorem Xu {l:List Int} {off i n:Nat} {v:Int} (hi:i≤l.length) (hn:l.length+1≤n) (c:Array Value) (hc:off+n≤c.size) (hl:∀j,j<i→c[off+j]? =(iv l)[j]?) (j:Nat) (hj:j<l.length+1):
 (KS (off+i) (iv [v]) (KS (off+(i+1)) ((iv l).drop i) c))[off+j]? =(iv (ApK l i v))[j]? :=by
 rw[AHS hi]
 by_cases h1:j<i
 ·rw[if_pos h1,Ht _ _ _ _ (.inl (by omega)),Ht _ _ _ _ (.inl (by omega)),hl j h1]
 ·rw[if_neg h1]
  by_cases h2:j=i
  ·subst h2
   rw[if_pos rfl]
   have:=PG (iv [v]) (off+j) 0 (KS (off+(j+1)) ((iv l).drop j) c) (by simp) (by rw[Eh];simp;omega)
   simp only[Nat.add_zero]at this
   rw[this];rfl
  ·rw[if_neg h2,Ht _ _ _ _ (.inr (by simp;omega))]
   have:=PG ((iv l).drop i) (off+(i+1)) (j-(i+1)) c (by simp;omega) (by simp;omega)
   rw[show off+(i+1)+(j-(i+1))=off+j by omega]at this
   rw[this,List.getElem?_drop]
   congr 1;omega
theorem Ay7 {F:Fr} {b:Nat} {f:Array Value→Array Value} {w:World} (hh:w.heap=F.w0.heap) (ho:w.os=F.w0.os) (ht:w.tape=F.w0.tape) (hu:w.output=F.w0.output) (hb:F.own0 b≠none):Kept F (mapBlock w b f):=by
 refine⟨by rw[JO,hh];exact Nat.le_refl _,ho,ht,hu,fun b' h1 h2=> ?_⟩
 have hne:b'≠b:=by intro e;rw[e]at h2;exact hb h2
 rw[T9 _ _ hne,hh]
theorem ABH {P:Program} {Ah:Nat→Option FuncId} {G:Gl} {g k:Nat} {t3:TypeId} (hid:Ah g=some k)
 (hShift:∀(b off n c i vb voff m vc:Nat) (cs vs:List Value) (w:World),i<n→0<m→n+m≤c→c≤9223372036854775807→vb≠b→cs.length=n→vs.length=m→
  (∀j v,cs[j]? =some v→w.cell? ⟨b,off+j,none⟩=some v)→(∀j,j<n+m→(w.cell? ⟨b,off+j,none⟩).isSome=true)→(∀j,j<n+m→w.frozen? ⟨b,off+j,none⟩=false)→
  (∀j v,vs[j]? =some v→w.cell? ⟨vb,voff+j,none⟩=some v)→(∀v∈cs,v.oneCell' =true)→(∀v∈vs,v.oneCell' =true)→
  ∀(tA tB:TypeId) (kA kB:Nat),w.shape? vb=some (tA,kA)→w.shape? b=some (tB,kB)→kB≠0→w.frozen? ⟨vb,voff,none⟩=false→w.frozen? ⟨vb,kA,none⟩=false→
  Calls P k #[.slice (some ⟨b,off,none⟩) n c,.int .i64 i,.slice (some ⟨vb,voff,none⟩) m vc] w fun e w'=>
   e= .returned (.slice (some ⟨b,off,none⟩) (n+m) c)∧w' =(w.drew.setCells b (off+(i+m)) (cs.drop i)).setCells b (off+i) vs)
 (hEndRoom:∀(b off n c vb voff m vc:Nat) (vs:List Value) (w:World),0<m→n+m≤c→c≤9223372036854775807→vs.length=m→
  (∀j,j<m→(w.cell? ⟨b,off+n+j,none⟩).isSome=true)→(∀j,j<m→w.frozen? ⟨b,off+n+j,none⟩=false)→
  (∀j v,vs[j]? =some v→w.cell? ⟨vb,voff+j,none⟩=some v)→(∀v∈vs,v.oneCell' =true)→
  Calls P k #[.slice (some ⟨b,off,none⟩) n c,.int .i64 n,.slice (some ⟨vb,voff,none⟩) m vc] w fun e w'=>
   e= .returned (.slice (some ⟨b,off,none⟩) (n+m) c)∧w' =w.setCells b (off+n) vs)
 (hEndGrow:∀(base:Option Addr) (n c vb voff m vc:Nat) (cs vs:List Value) (w:World),0<m→n≤c→c<n+m→(n+m)*8≤140737488355328→cs.length=n→vs.length=m→(base=none→n=0)→
  (∀a,base=some a→∀j v,cs[j]? =some v→w.cell? (a.add j)=some v)→(∀j v,vs[j]? =some v→w.cell? ⟨vb,voff+j,none⟩=some v)→(∀v∈vs,v.oneCell' =true)→
  Calls P k #[.slice base n c,.int .i64 n,.slice (some ⟨vb,voff,none⟩) m vc] w fun e w'=>
   e= .returned (.slice (some ⟨w.heap.size,0,none⟩) (n+m) (grownCap w (n+m) c t3))∧
   w' =w.drew.alloc (.cells ((cs++vs).toArray++Builtin.zeroCells (Value.int .i64 0).cells (grownCap w (n+m) c t3-(n+m))) t3))
 (hGrow:∀(b off n c i vb voff m vc:Nat) (cs vs:List Value) (w:World),i<n→0<m→n≤c→c<n+m→(n+m)*8≤140737488355328→cs.length=n→vs.length=m→
  (∀j v,cs[j]? =some v→w.cell? ⟨b,off+j,none⟩=some v)→(∀j v,vs[j]? =some v→w.cell? ⟨vb,voff+j,none⟩=some v)→(∀v∈cs,v.oneCell' =true)→(∀v∈vs,v.oneCell' =true)→
  Calls P k #[.slice (some ⟨b,off,none⟩) n c,.int .i64 i,.slice (some ⟨vb,voff,none⟩) m vc] w fun e w'=>
   e= .returned (.slice (some ⟨w.heap.size,0,none⟩) (n+m) (grownCap w (n+m) c t3))∧
   w' =(((w.alloc (.cells ((cs.take i).toArray++Builtin.zeroCells (Value.int .i64 0).cells (n+m-i)++Builtin.zeroCells (Value.int .i64 0).cells (grownCap w (n+m) c t3-(n+m))) t3)).drew.setCells w.heap.size i vs).drew).setCells w.heap.size (i+m) (cs.drop i))
 (l:List Int) (i:Nat) (v:Int) (hl:l.length≤4194304) (hi:i≤l.length):
 Den P Ah G g [.arr 0,.sc (.int .i64 i),.arr 1] [.arr 1 0 l.length (T.ints l),.arr 1 0 1 (T.ints [v])] (.sl 0 1 (ApK l i v).length (T.ints (ApK l i v))) [.dead,.dead]:=by
 refine AbK (given:=[.arr 1 0 l.length (T.ints l),.arr 1 0 1 (T.ints [v])]) fun id hid' F hF inv xs hx=> ?_
 rw[hid]at hid'
 cases hid'
 obtain⟨x0,r0,rfl,h1,h2⟩:=hx.Ju
 obtain⟨x1,r1,rfl,h3,h4⟩:=h2.Ju
 obtain⟨x2,r2,rfl,h5,h6⟩:=h4.Ju
 obtain rfl:=h6.PO
 obtain⟨a,cap,rfl,hcap,_,_,hm⟩:=ApT (k:=0) inv rfl h1
 obtain⟨a2,cap2,rfl,hcap2,_,_,hm2⟩:=ApT (k:=1) (l:=[v]) inv rfl h5
 cases h3
 have hlen:=AHA (v:=v) hi
 rw[hlen]
 obtain⟨vb,vo,rfl,hvown,hvhas⟩:∃vb vo,a2=some ⟨vb,vo,none⟩∧F.own0 vb=some (1,[])∧Has F.w0 vb vo (iv [v]) cap2:=by
  rcases hm2 with h | h
  ·simp at hcap2;omega
  ·exact h
 have hvs:∀j x,(iv [v])[j]? =some x→F.w0.cell? ⟨vb,vo+j,none⟩=some x:=fun j x hj=>AfQ hvhas hj
 have hgc:=V7 F.w0 (l.length+1) cap t3
 have hgb:=Ub F.w0 (l.length+1) cap t3 (by omega)
 have hvne:F.own0 vb≠none:=by rw[hvown];simp
 have new:∀ {w':World} {o:Obj},(∀b,b<F.w0.heap.size→w'.heap[b]? =F.w0.heap[b]?)→F.w0.heap.size≤w'.heap.size→w'.os=F.w0.os→w'.tape=F.w0.tape→w'.output=F.w0.output→Kept F w':=
  fun h1 h2 h3 h4 h5=>⟨h2,h3,h4,h5,fun b hb _=>h1 b hb⟩
 have endGrow:cap<l.length+1→i=l.length→(∀a0,a=some a0→∀j x,(iv l)[j]? =some x→F.w0.cell? (a0.add j)=some x)→(a=none→l.length=0)→_:=fun hc hin hcells hnil=>
  (hEndGrow a l.length cap vb vo 1 cap2 (iv l) (iv [v]) F.w0 (by omega) hcap.1 hc (by omega) (by simp) rfl hnil hcells hvs (J7 [v])).mono
   (R':=fun e w'=>∃a cap,e= .returned (.slice a (l.length+1) cap)∧(l.length+1≤cap∧cap≤9223372036854775807)∧(cap=0∨∃b o,a=some ⟨b,o,none⟩∧Has w' b o (iv (ApK l i v)) cap∧(b<F.w0.heap.size→F.own0 b≠none))∧Kept F w')
   fun e w' ⟨he,hw⟩=>by
    subst hw
    refine⟨_,_,he,⟨hgc,hgb⟩,.inr ⟨_,_,rfl,?_,fun h=>absurd h (by omega)⟩,?_⟩
    ·have e2:iv (ApK l i v)=iv l++iv [v]:=by subst hin;simp[ApK,iv]
     rw[e2]
     refine⟨by rw[←e2];exact J7 _,_,t3,alloc_at F.w0.drew _,?_,by simp;exact hgc,fun j hj=> ?_⟩
     ·simp[AfD];omega
     ·simp only[List.length_append,Avl]at hj
      rw[Nat.zero_add,Array.getElem?_append,if_pos (by simp;simp at hj;omega)]
      simp
    ·refine⟨by rw[La];simp,rfl,rfl,rfl,fun b hb _=>QT F.w0.drew _ hb⟩
 rcases hm with hm | ⟨b,o,rfl,hown,hhas⟩
 ·subst hm
  have hl0:l=[]:=List.eq_nil_of_length_eq_zero (by omega)
  subst hl0
  obtain rfl:i=0:=by simpa using hi
  exact endGrow (by simp) rfl (fun a0 _ j x hj=>by simp[iv]at hj) (fun _=>rfl)
 ·have hbne:vb≠b:=by intro e;rw[e,hown]at hvown;cases hvown
  have hcs:∀j x,(iv l)[j]? =some x→F.w0.cell? ⟨b,o+j,none⟩=some x:=fun j x hj=>AfQ hhas hj
  have hob:F.own0 b≠none:=by rw[hown];simp
  by_cases hroom:l.length+1≤cap
  ·by_cases hin:i=l.length
   ·subst hin
    refine(hEndRoom b o l.length cap vb vo 1 cap2 (iv [v]) F.w0 (by omega) hroom hcap.2 rfl (fun j hj=> ?_) (fun j _=>RA hhas _) hvs (J7 [v])).mono fun e w' ⟨he,hw⟩=> ?_
    ·have:=Ahr hhas (j:=l.length+j) (by omega)
     rwa [←Nat.add_assoc]at this
    ·rw[Dh]at hw
     subst hw
     refine⟨_,_,he,⟨hroom,hcap.2⟩,.inr ⟨_,_,rfl,?_,fun _=>hob⟩,Ay7 rfl rfl rfl rfl hob⟩
     refine Agt hhas (Te _ _ _) (Eh _ _) (fun c h1 h2 j hj=> ?_) (J7 _) (by simp[hlen];exact hroom)
     have:=Xu (v:=v) (Nat.le_refl l.length) hroom c h1 (fun j hj=>h2 j (by simpa using hj)) j (by simpa[hlen]using hj)
     rw[List.drop_eq_nil_of_le (by simp)]at this
     exact this
   ·obtain⟨tA,kA,hsa,_⟩:=AbN hvhas
    obtain⟨tB,kB,hsb,hkB⟩:=AbN hhas
    refine(hShift b o l.length cap i vb vo 1 cap2 (iv l) (iv [v]) F.w0 (by omega) (by omega) hroom hcap.2 hbne (by simp) rfl hcs (fun j hj=>Ahr hhas (by omega)) (fun j _=>RA hhas _) hvs (J7 l) (J7 [v]) tA tB kA kB hsa hsb (by omega) (RA hvhas _) (RA hvhas _)).mono fun e w' ⟨he,hw⟩=> ?_
    rw[Dh,Dh,mapBlock_mapBlock]at hw
    subst hw
    refine⟨_,_,he,⟨hroom,hcap.2⟩,.inr ⟨_,_,rfl,?_,fun _=>hob⟩,Ay7 rfl rfl rfl rfl hob⟩
    refine Agt hhas (Te _ _ _) (fun c=>by rw[Eh,Eh]) (fun c h1 h2 j hj=> ?_) (J7 _) (by simp[hlen];exact hroom)
    exact Xu (v:=v) hi hroom c h1 (fun j hj=>h2 j (by simp;omega)) j (by simpa[hlen]using hj)
  ·by_cases hin:i=l.length
   ·rw[hin]
    rw[hin]at endGrow
    refine endGrow (by omega) rfl (fun a0 ha j x hj=> ?_) (fun h=>by cases h)
    cases ha
    rw[Addr.add_lit]
    exact hcs j x hj
   ·refine(hGrow b o l.length cap i vb vo 1 cap2 (iv l) (iv [v]) F.w0 (by omega) (by omega) hcap.1 (by omega) (by omega) (by simp) rfl hcs hvs (J7 l) (J7 [v])).mono fun e w' ⟨he,hw⟩=> ?_
    rw[Dh,Dh]at hw
    have hsz:w'.heap.size=F.w0.heap.size+1:=by
     rw[hw,JO];simp only[World.drew];rw[JO,La]
    have hoff:∀b',b' <F.w0.heap.size→w'.heap[b']? =F.w0.heap[b']? :=by
     intro b' hb'
     rw[hw,T9 _ _ (by omega)]
     simp only[World.drew]
     rw[T9 _ _ (by omega)]
     exact QT F.w0 _ hb'
    refine⟨_,_,he,⟨hgc,hgb⟩,.inr ⟨_,_,rfl,?_,fun h=>absurd h (by omega)⟩,⟨by omega,by rw[hw];rfl,by rw[hw];rfl,by rw[hw];rfl,fun b' hb' _=>hoff b' hb'⟩⟩
    have hat:w'.heap[F.w0.heap.size]? =some (.cells (KS (i+1) ((iv l).drop i) (KS i (iv [v]) (((iv l).take i).toArray++Builtin.zeroCells (Value.int .i64 0).cells (l.length+1-i)++Builtin.zeroCells (Value.int .i64 0).cells (grownCap F.w0 (l.length+1) cap t3-(l.length+1))))) t3 (0,0)):=by
     rw[hw,Te]
     simp only[World.drew]
     rw[Te]
     simp only[]
     rw[alloc_at]
     rfl
    refine⟨J7 _,_,t3,hat,?_,by simp[hlen];exact hgc,fun j hj=> ?_⟩
    ·rw[Eh,Eh]
     simp[AfD];omega
    ·simp only[Avl,hlen]at hj
     rw[AHS hi,Nat.zero_add]
     by_cases q1:j<i
     ·rw[if_pos q1,Ht _ _ _ _ (.inl (by omega)),Ht _ _ _ _ (.inl q1),Array.getElem?_append,if_pos (by simp[AfD];omega),Array.getElem?_append,if_pos (by simp;omega)]
      simp[q1]
     ·rw[if_neg q1]
      by_cases q2:j=i
      ·subst q2
       rw[if_pos rfl,Ht _ _ _ _ (.inl (by omega))]
       have:=PG (iv [v]) j 0 (((iv l).take j).toArray++Builtin.zeroCells (Value.int .i64 0).cells (l.length+1-j)++Builtin.zeroCells (Value.int .i64 0).cells (grownCap F.w0 (l.length+1) cap t3-(l.length+1))) (by simp) (by simp[AfD];omega)
       simp only[Nat.add_zero]at this
       rw[this];rfl
      ·rw[if_neg q2]
       have:=PG ((iv l).drop i) (i+1) (j-(i+1)) (KS i (iv [v]) (((iv l).take i).toArray++Builtin.zeroCells (Value.int .i64 0).cells (l.length+1-i)++Builtin.zeroCells (Value.int .i64 0).cells (grownCap F.w0 (l.length+1) cap t3-(l.length+1)))) (by simp;omega) (by rw[Eh];simp[AfD];omega)
       rw[show i+1+(j-(i+1))=j by omega]at this
       rw[this,List.getElem?_drop]
       congr 1;omega
end Go.Eng
namespace Go.Eng.T
open Go.Lib Go.RowKit Go.Sort
theorem AEb {P:Program} {Ah:Nat→Option FuncId} {G:Gl} {g k:Nat} (hid:Ah g=some k)
 (h0:∀(p:Option Addr) (cap:Nat) (w:Go.World),Calls P k #[.slice p 0 cap] w fun e w'=>e= .returned (.tuple #[])∧w' =w)
 (hc:∀(blk off cap:Nat) (zs:List Int) (w:Go.World),Holds (Value.int .i64) w blk off zs.toArray→blk<w.heap.size→zs.length<4611686018427387904→
  Calls P k #[.slice (some ⟨blk,off,none⟩) zs.length cap] w fun e w'=>e= .returned (.tuple #[])∧∃n os,w' =grow (putRow (Value.int .i64) (Sort.ahead w n) blk off (zs.mergeSort fun x y=>decide (x≤y)).toArray) os):
 AHm (Den P Ah G g):=fun l hl=>AHu hid h0 hc l hl
end Go.Eng.T
