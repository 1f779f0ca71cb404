/- Own work: part 47 of the proof of FnExactApplyEvent. -/
import Derived.Test.YtdoefikagfghnaaGreatP46
import Derived.Lib.SlicesCompact
import Derived.Below
import Derived.Sort.Grow
import Derived.Deep.Draws
import Derived.Lib.LaidTab
import Derived.Sort.Row
import Derived.Laws.IdiomCopy
import Derived.Lib.Slices
import Derived.Laws.AppendOwn
set_option linter.unusedSimpArgs false
set_option linter.unusedVariables false
namespace Go.Eng.T
set_option maxRecDepth 20000
set_option maxHeartbeats 1000000
def UK (p q:Int):Int:=if SH q 1 1000000000000 then(p.tmod q+q).tmod q else 0
abbrev AmP (R:Rel):Prop:=∀p q:Int,R [I p,I q] [] (I (UK p q)) []
theorem Apa (p:Int) {q:Int} (h:1≤q):-q<p.tmod q∧p.tmod q<q:=by
 have h1:=Int.tmod_lt_of_pos p (show 0<q by omega)
 have h2:=Int.lt_tmod_of_pos p (show 0<q by omega)
 omega
theorem AF0 (D:Dn) (hI:SG (D CB)):AmP (Body D Aey):=by
 intro p q
 simp -implicitDefEqProofs
 refine Aa (hI _ _ _) ?_
 by_cases h:SH q 1 1000000000000
 rotate_left
 ·simp -implicitDefEqProofs [h,UK]
 have h0:¬q=0:=by omega
 have hb:=Apa p (q:=q) (by omega)
 have hw:IntKind.i64.wrap (p.tmod q+q)=p.tmod q+q:=Ad (by omega) (by omega)
 have e:UK p q=(p.tmod q+q).tmod q:=by unfold UK;rw[if_pos h]
 simp -implicitDefEqProofs [h,h0,hw,e]
theorem AFS (D:Dn) (hI:SG (D Bz)):AmP (Body D Afj):=by
 intro p q
 simp -implicitDefEqProofs
 refine Aa (hI _ _ _) ?_
 by_cases h:SH q 1 1000000000000
 rotate_left
 ·simp -implicitDefEqProofs [h,UK]
 have h0:¬q=0:=by omega
 have hb:=Apa p (q:=q) (by omega)
 have hw:IntKind.i64.wrap (p.tmod q+q)=p.tmod q+q:=Ad (by omega) (by omega)
 have e:UK p q=(p.tmod q+q).tmod q:=by unfold UK;rw[if_pos h]
 simp -implicitDefEqProofs [h,h0,hw,e]
theorem Ah5 (p:Int) {q:Int} (h:SH q 1 1000000000000):0≤UK p q∧UK p q<q:=by
 unfold UK
 rw[if_pos h]
 have hb:=Apa p (q:=q) (by omega)
 have h1:=Int.tmod_nonneg q (show 0≤p.tmod q+q by omega)
 have h2:=Int.tmod_lt_of_pos (p.tmod q+q) (show 0<q by omega)
 exact⟨h1,h2⟩
def P6 (s v:Int):Int:=(s*1000003+UK v 2147483647+13).tmod 2147483647
def hash (xs:List Int):Int:=xs.foldl P6 11
abbrev WE (R:Rel):Prop:=∀xs:List Int,xs.length≤maxLen→R [.sl 1 1 xs.length (ints xs)] [] (I (hash xs)) []
theorem AwY {s v:Int} (h:0≤s):0≤P6 s v∧P6 s v<2147483647:=by
 have hm:=Ah5 v (q:=2147483647) ⟨by omega,by omega⟩
 unfold P6
 exact⟨Int.tmod_nonneg _ (by omega),Int.tmod_lt_of_pos _ (by omega)⟩
theorem Aor {α:Type} {f:α→Int→α} {xs:List Int} {j:Nat} {a:α} (h:j<xs.length):(xs.take (j+1)).foldl f a=f ((xs.take j).foldl f a) xs[j]:=by
 have e:xs.take (j+1)=xs.take j++ [xs[j]]:=by simp
 rw[e,List.foldl_append];rfl
theorem Aoy:∀(xs:List Int) {a:Int},0≤a→a<2147483647→0≤xs.foldl P6 a∧xs.foldl P6 a<2147483647
 | [],a,h1,h2=>⟨h1,h2⟩
 | x::xs,a,h1,h2=>by
  have:=AwY (s:=a) (v:=x) h1
  exact Aoy xs this.1 this.2
theorem AEu (D:Dn) (hM:AmP (D Aop)):WE (Body D AaI):=by
 intro xs hl
 unfold maxLen at hl
 simp -implicitDefEqProofs
 refine Ae (fun k s=>∃j,j+k=xs.length∧s=⟨[.sl 1 1 xs.length (ints xs),.undef,I ((xs.take j).foldl P6 11),I j,.undef],[]⟩) ?_ (xs.length) _ ⟨0,by simp,by simp⟩
 intro k s ⟨j,hj,hs⟩
 subst hs
 by_cases hjn:j<xs.length
 ·have hw:IntKind.i64.wrap ((j:Int)+1)=(j+1:Nat):=by rw[Ad (by omega) (by omega)];simp
  have hst:=Aor (f:=P6) (a:=(11:Int)) hjn
  have hb:=Aoy (xs.take j) (a:=11) (by omega) (by omega)
  generalize(xs.take j).foldl P6 11=s at hst hb
  have hm:=Ah5 xs[j] (q:=2147483647) ⟨by omega,by omega⟩
  have w1:IntKind.i64.wrap (s*1000003)=s*1000003:=Ad (by omega) (by omega)
  have w2:IntKind.i64.wrap (s*1000003+UK xs[j] 2147483647)=s*1000003+UK xs[j] 2147483647:=Ad (by omega) (by omega)
  have w3:IntKind.i64.wrap (s*1000003+UK xs[j] 2147483647+13)=s*1000003+UK xs[j] 2147483647+13:=Ad (by omega) (by omega)
  simp -implicitDefEqProofs [hjn,w1]
  refine Aa (hM _ _) ?_
  simp -implicitDefEqProofs [w1,w2,w3]
  exact⟨k-1,by omega,j+1,by omega,by rw[hst];rfl,by simp[hw]⟩
 ·have e:xs.take j=xs:=List.take_of_length_le (by omega)
  simp -implicitDefEqProofs [hjn,e,hash]
theorem ADy (D:Dn) (hM:AmP (D AnM)):WE (Body D AaE):=by
 intro xs hl
 unfold maxLen at hl
 simp -implicitDefEqProofs
 refine Ae (fun k s=>∃j,j+k=xs.length∧s=⟨[.undef,.undef,I ((xs.take j).foldl P6 11),.undef,.sl 1 1 xs.length (ints xs),I xs.length,I j,.undef],[]⟩) ?_ (xs.length) _ ⟨0,by simp,by simp⟩
 intro k s ⟨j,hj,hs⟩
 subst hs
 by_cases hjn:j<xs.length
 ·have hw:IntKind.i64.wrap ((j:Int)+1)=(j+1:Nat):=by rw[Ad (by omega) (by omega)];simp
  have hst:=Aor (f:=P6) (a:=(11:Int)) hjn
  have hb:=Aoy (xs.take j) (a:=11) (by omega) (by omega)
  generalize(xs.take j).foldl P6 11=s at hst hb
  have hm:=Ah5 xs[j] (q:=2147483647) ⟨by omega,by omega⟩
  have w1:IntKind.i64.wrap (s*1000003)=s*1000003:=Ad (by omega) (by omega)
  have w2:IntKind.i64.wrap (s*1000003+UK xs[j] 2147483647)=s*1000003+UK xs[j] 2147483647:=Ad (by omega) (by omega)
  have w3:IntKind.i64.wrap (s*1000003+UK xs[j] 2147483647+13)=s*1000003+UK xs[j] 2147483647+13:=Ad (by omega) (by omega)
  simp -implicitDefEqProofs [hjn,w1]
  refine Aa (hM _ _) ?_
  simp -implicitDefEqProofs [w1,w2,w3]
  exact⟨k-1,by omega,j+1,by omega,by rw[hst];rfl,by simp[hw]⟩
 ·have e:xs.take j=xs:=List.take_of_length_le (by omega)
  simp -implicitDefEqProofs [hjn,e,hash]
def keyed (k:Int) (xs:List Int):Int:=hash (k::xs++ [k])
abbrev XV (R:Rel):Prop:=∀(k:Int) (xs:List Int),xs.length≤4194304→R [I k,.sl 1 1 xs.length (ints xs)] [] (I (keyed k xs)) []
theorem N8 (a:Int) (xs:List Int):V.sc (.int .i64 a)::ints xs=ints (a::xs):=rfl
theorem ABe (D:Dn) (hH:WE (D ZR)):XV (Body D PX):=by
 intro k xs hl
 have b1:(1+xs.length)*8≤1099511627776:=by omega
 have b2:(1+xs.length+1)*8≤1099511627776:=by omega
 have hlen:(k::xs++ [k]).length=1+xs.length+1:=by simp;omega
 simp -implicitDefEqProofs [b1,b2]
 have hh:=hH (k::xs++ [k]) (by unfold maxLen;omega)
 rw[hlen]at hh
 simp -implicitDefEqProofs [N8]at hh
 simp -implicitDefEqProofs [N8]
 refine Aa (hh) ?_
 simp -implicitDefEqProofs [keyed]
def pick (seed p n:Int):Int:=if n<1 then 0 else UK (hash [seed,p]) n
abbrev ZM (R:Rel):Prop:=∀seed p n:Int,R [I seed,I p,I n] [] (I (pick seed p n)) []
theorem ADd (D:Dn) (hH:WE (D ZR)) (hM:AmP (D Aop)):ZM (Body D Wv):=by
 intro seed p n
 by_cases h:n<1
 ·simp -implicitDefEqProofs [h,pick]
 simp -implicitDefEqProofs [h]
 refine Aa (hH [seed,p] (by unfold maxLen;simp)) ?_
 simp -implicitDefEqProofs
 refine Aa (hM _ _) ?_
 simp -implicitDefEqProofs [pick,h]
theorem ADL (D:Dn) (hH:WE (D Z7)) (hM:AmP (D AnM)):ZM (Body D VS):=by
 intro seed p n
 by_cases h:n<1
 ·simp -implicitDefEqProofs [h,pick]
 simp -implicitDefEqProofs [h]
 refine Aa (hH [seed,p] (by unfold maxLen;simp)) ?_
 simp -implicitDefEqProofs
 refine Aa (hM _ _) ?_
 simp -implicitDefEqProofs [pick,h]
theorem SX (seed p:Int) {n:Int} (h:SH n 1 1000000000000):0≤pick seed p n∧pick seed p n<n:=by
 unfold pick
 rw[if_neg (by omega)]
 exact Ah5 _ h
def NM (seed:Int):Int:=16*pick seed 0 16+10
abbrev JS (R:Rel):Prop:=∀seed:Int,R [I seed] [] (I (NM seed)) []
theorem Apl (D:Dn) (hP:ZM (D Acf)):JS (Body D PD):=by
 intro seed
 simp -implicitDefEqProofs
 refine Aa (hP _ _ _) ?_
 have hb:=SX seed 0 (n:=16) ⟨by omega,by omega⟩
 have w1:IntKind.i64.wrap (16*pick seed 0 16)=16*pick seed 0 16:=Ad (by omega) (by omega)
 have w2:IntKind.i64.wrap (16*pick seed 0 16+10)=16*pick seed 0 16+10:=Ad (by omega) (by omega)
 simp -implicitDefEqProofs [w1,w2,NM]
theorem Ap6 (D:Dn) (hP:ZM (D Adg)):JS (Body D P5):=by
 intro seed
 simp -implicitDefEqProofs
 refine Aa (hP _ _ _) ?_
 have hb:=SX seed 0 (n:=16) ⟨by omega,by omega⟩
 have w1:IntKind.i64.wrap (16*pick seed 0 16)=16*pick seed 0 16:=Ad (by omega) (by omega)
 have w2:IntKind.i64.wrap (16*pick seed 0 16+10)=16*pick seed 0 16+10:=Ad (by omega) (by omega)
 simp -implicitDefEqProofs [w1,w2,NM]
def Ka (ls:List (List Int)):Bool:=decide (ls.length≤12)&&ls.all fun l=>allIn l 0 255
abbrev KE (R:Rel):Prop:=∀ls:List (List Int),IA ls≤4194304→R [Kh ls] [] (B (Ka ls)) []
theorem Avy (D:Dn) (hB:Yr (D Vw)):KE (Body D K5):=by
 intro ls hl
 have hll:=Rv (xs:=ls)
 simp -implicitDefEqProofs
 refine Ae (fun k s=>∃j,j+k=ls.length∧(ls.take j).all (fun l=>allIn l 0 255)=true∧s=⟨[Kh ls,.undef,I j,.undef,.undef],[]⟩) ?_ (ls.length) _ ⟨0,by simp,by simp,by simp⟩
 intro k s ⟨j,hj,hp,hs⟩
 subst hs
 by_cases hjn:j<ls.length
 ·have hw:IntKind.i64.wrap ((j:Int)+1)=(j+1:Nat):=by rw[Ad (by omega) (by omega)];simp
  have hst:=UI (p:=fun l=>allIn l 0 255) hjn
  rw[hp,Bool.true_and]at hst
  have hra:=Yu hjn
  simp -implicitDefEqProofs [hjn]
  refine Aa (hB _ (by unfold maxLen;omega)) ?_
  by_cases h1:allIn ls[j] 0 255=true
  ·simp -implicitDefEqProofs [h1]
   exact⟨k-1,by omega,j+1,by omega,by simpa using hst.trans h1,by simp[hw]⟩
  ·have e:Ka ls=false:=by unfold Ka;rw[Sz hjn (by simpa using h1)];simp
   simp -implicitDefEqProofs [h1,e]
 ·have e:Ka ls=decide (ls.length≤12):=by unfold Ka;rw[←Yz (j:=j) (by omega),hp];simp
  by_cases h5:ls.length≤12
  ·have h5':(ls.length:Int)≤12:=by omega
   simp -implicitDefEqProofs [hjn,e,h5,h5']
  ·have h5':¬(ls.length:Int)≤12:=by omega
   simp -implicitDefEqProofs [hjn,e,h5,h5']
abbrev YI (R:Rel):Prop:=∀l:List Int,l.length≤maxLen→R [.sl 1 1 l.length (ints l)] [] (B (!allIn l 0 255)) []
theorem AtF (D:Dn) (hN:Jv (D Kb)):YI (Body D Jq):=by
 intro l hl
 simp -implicitDefEqProofs
 refine Aa (hN _ _ _ hl) ?_
 simp -implicitDefEqProofs
theorem Auz (D:Dn) (h1':YI (D O0)) (hC:G7 D (D Ga)):KE (Body D ALn):=by
 intro ls hl
 have hll:=Rv (xs:=ls)
 by_cases h5:ls.length≤12
 rotate_left
 ·have h5':¬(ls.length:Int)≤12:=by omega
  simp -implicitDefEqProofs [h5',h5,Ka]
 have h5':(ls.length:Int)≤12:=by omega
 simp -implicitDefEqProofs [h5']
 refine Aa (hC ls O0 [] (fun l=> !allIn l 0 255) (by unfold maxLen;omega) ER (fun j hj=>h1' ls[j] (by have:=Yu hj;unfold maxLen;omega))) ?_
 rw[Ah0]
 generalize hq:(ls.all fun l=>allIn l 0 255)=q
 simp -implicitDefEqProofs [Ka,h5,hq]
def QW (x:Int) (b:List Int):Int:=hash (x::(b.length:Int)::b)
def I7 (ls:List (List Int)):Int:=if Ka ls=true then ls.foldl QW 1 else 0
abbrev JI (R:Rel):Prop:=∀ls:List (List Int),IA ls≤4194304→R [Kh ls] [] (I (I7 ls)) []
theorem Ajp {α β:Type} {f:α→β→α} {xs:List β} {j:Nat} {a:α} (h:j<xs.length):(xs.take (j+1)).foldl f a=f ((xs.take j).foldl f a) xs[j]:=by
 have e:xs.take (j+1)=xs.take j++ [xs[j]]:=by simp
 rw[e,List.foldl_append];rfl
theorem Aqa (D:Dn) (hT:KE (D R9)) (hH:WE (D ZR)):JI (Body D JU):=by
 intro ls hl
 have hll:=Rv (xs:=ls)
 simp -implicitDefEqProofs
 refine Aa (hT ls hl) ?_
 by_cases h1:Ka ls=true
 rotate_left
 ·simp -implicitDefEqProofs [h1,I7]
 simp -implicitDefEqProofs [h1]
 refine Ae (fun k s=>∃j o0 o1,j+k=ls.length∧s=⟨[Kh ls,.undef,I ((ls.take j).foldl QW 1),I j,.undef,.undef],[o0,o1]⟩) ?_ (ls.length) _ ⟨0,.free,.free,by simp,by simp⟩
 intro k s ⟨j,o0,o1,hj,hs⟩
 subst hs
 by_cases hjn:j<ls.length
 ·have hw:IntKind.i64.wrap ((j:Int)+1)=(j+1:Nat):=by rw[Ad (by omega) (by omega)];simp
  have hst:=Ajp (f:=QW) (a:=(1:Int)) hjn
  have hra:=Yu hjn
  have b1:(2+ls[j].length)*8≤1099511627776:=by omega
  generalize(ls.take j).foldl QW 1=x at hst
  have hh:=hH (x::(ls[j].length:Int)::ls[j]) (by unfold maxLen;simp;omega)
  have hlen:(x::(ls[j].length:Int)::ls[j]).length=2+ls[j].length:=by simp;omega
  rw[hlen]at hh
  simp only[←N8]at hh
  simp -implicitDefEqProofs [hjn,b1]
  refine Aa (hh) ?_
  simp -implicitDefEqProofs
  exact⟨k-1,by omega,j+1,by omega,by rw[hst];rfl,by simp[hw]⟩
 ·have e:ls.take j=ls:=List.take_of_length_le (by omega)
  have e2:I7 ls=ls.foldl QW 1:=by unfold I7;rw[if_pos h1]
  simp -implicitDefEqProofs [hjn,e,e2]
theorem Ap8 (D:Dn) (hT:KE (D Rp)) (hH:WE (D Z7)):JI (Body D JH):=by
 intro ls hl
 have hll:=Rv (xs:=ls)
 simp -implicitDefEqProofs
 refine Aa (hT ls hl) ?_
 by_cases h1:Ka ls=true
 rotate_left
 ·simp -implicitDefEqProofs [h1,I7]
 simp -implicitDefEqProofs [h1]
 refine Ae (fun k s=>∃j o0 o1,j+k=ls.length∧s=⟨[.undef,.undef,I ((ls.take j).foldl QW 1),.undef,.undef,Kh ls,I ls.length,I j,.undef],[o0,o1]⟩) ?_ (ls.length) _ ⟨0,.free,.free,by simp,by simp⟩
 intro k s ⟨j,o0,o1,hj,hs⟩
 subst hs
 by_cases hjn:j<ls.length
 ·have hw:IntKind.i64.wrap ((j:Int)+1)=(j+1:Nat):=by rw[Ad (by omega) (by omega)];simp
  have hst:=Ajp (f:=QW) (a:=(1:Int)) hjn
  have hra:=Yu hjn
  have b1:(2+ls[j].length)*8≤1099511627776:=by omega
  generalize(ls.take j).foldl QW 1=x at hst
  have hh:=hH (x::(ls[j].length:Int)::ls[j]) (by unfold maxLen;simp;omega)
  have hlen:(x::(ls[j].length:Int)::ls[j]).length=2+ls[j].length:=by simp;omega
  rw[hlen]at hh
  simp only[←N8]at hh
  simp -implicitDefEqProofs [hjn,b1]
  refine Aa (hh) ?_
  simp -implicitDefEqProofs
  exact⟨k-1,by omega,j+1,by omega,by rw[hst];rfl,by simp[hw]⟩
 ·have e:ls.take j=ls:=List.take_of_length_le (by omega)
  have e2:I7 ls=ls.foldl QW 1:=by unfold I7;rw[if_pos h1]
  simp -implicitDefEqProofs [hjn,e,e2]
def Dq (k:Int) (ls:List (List Int)) (side:Int):Int:=if Mk k&&(Ka ls&&decide (SH side 0 1))then keyed k [side,I7 ls]else 0
abbrev QS (R:Rel):Prop:=∀(k:Int) (ls:List (List Int)) (side:Int),IA ls≤4194304→R [I k,Kh ls,I side] [] (I (Dq k ls side)) []
theorem Aw2 (D:Dn) (hV:I6 (D UR)) (hT:KE (D R9)) (hI:SG (D CB)) (hH:JI (D Yg)) (hK:XV (D Af8)):QS (Body D Sd):=by
 intro k ls side hl
 simp -implicitDefEqProofs
 refine Aa (hV k) ?_
 by_cases h1:Mk k=true
 rotate_left
 ·simp -implicitDefEqProofs [h1,Dq]
 simp -implicitDefEqProofs [h1]
 refine Aa (hT ls hl) ?_
 by_cases h2:Ka ls=true
 rotate_left
 ·simp -implicitDefEqProofs [h2,Dq]
 simp -implicitDefEqProofs [h2]
 refine Aa (hI _ _ _) ?_
 by_cases h3:SH side 0 1
 rotate_left
 ·simp -implicitDefEqProofs [h3,Dq]
 simp -implicitDefEqProofs [h3]
 refine Aa (hH ls hl) ?_
 simp -implicitDefEqProofs
 refine Aa (hK k [side,I7 ls] (by simp)) ?_
 simp -implicitDefEqProofs [Dq,h1,h2,h3]
theorem Ayz (D:Dn) (hV:I6 (D UB)) (hT:KE (D Rp)) (hI:SG (D Bz)) (hH:JI (D XM)) (hK:XV (D Af6)):QS (Body D Rk):=by
 intro k ls side hl
 simp -implicitDefEqProofs
 refine Aa (hV k) ?_
 by_cases h1:Mk k=true
 rotate_left
 ·simp -implicitDefEqProofs [h1,Dq]
 simp -implicitDefEqProofs [h1]
 refine Aa (hT ls hl) ?_
 by_cases h2:Ka ls=true
 rotate_left
 ·simp -implicitDefEqProofs [h2,Dq]
 simp -implicitDefEqProofs [h2]
 refine Aa (hI _ _ _) ?_
 by_cases h3:SH side 0 1
 rotate_left
 ·simp -implicitDefEqProofs [h3,Dq]
 simp -implicitDefEqProofs [h3]
 refine Aa (hH ls hl) ?_
 simp -implicitDefEqProofs
 refine Aa (hK k [side,I7 ls] (by simp)) ?_
 simp -implicitDefEqProofs [Dq,h1,h2,h3]
def ALQ (k:Int) (ls:List (List Int)) (side f:Int):Bool:= !decide (f=0)&&decide (f=Dq k ls side)
abbrev Wz (R:Rel):Prop:=∀(k:Int) (ls:List (List Int)) (side f:Int),IA ls≤4194304→R [I k,Kh ls,I side,I f] [] (B (ALQ k ls side f)) []
theorem Aqu (D:Dn) (hF:QS (D XZ)):Wz (Body D Qc):=by
 intro k ls side f hl
 by_cases h0:f=0
 ·simp -implicitDefEqProofs [h0,ALQ]
 simp -implicitDefEqProofs [h0]
 refine Aa (hF k ls side hl) ?_
 simp -implicitDefEqProofs [ALQ,h0,WT]
end Go.Eng.T
namespace Go.Eng.T
set_option maxRecDepth 20000
set_option maxHeartbeats 1000000
theorem YB {l:List Ext} (h:EC l=true):l.length≤6:=by
 unfold EC at h
 simp only[Bool.and_eq_true,decide_eq_true_eq]at h
 exact h.2
theorem ADQ {l:List Ext} (h:EC l=true) {j:Nat} (hj:j<l.length):VU l j=true:=by
 unfold EC at h
 simp only[Bool.and_eq_true]at h
 exact Ayu.1 h.1 j hj
theorem Abb {l:List Ext} (h:EC l=true) {j:Nat} (hj:j<l.length):l[j].body.length≤4:=by
 have:=ADQ h hj
 rw[Afk hj]at this
 unfold Xd at this
 simp only[Bool.and_eq_true,decide_eq_true_eq]at this
 exact this.1.2.1
def AHa (x:Ext):List Int:=x.tag::(x.body.length:Int)::x.body
def Nk (l:List Ext) (j:Nat):List Int:=(l.length:Int)::(l.take j).flatMap AHa
theorem Aar {l:List Ext} {j:Nat} (h:j<l.length):Nk l (j+1)=Nk l j++([l[j].tag,(l[j].body.length:Int)]++l[j].body):=by
 have e:l.take (j+1)=l.take j++ [l[j]]:=by simp
 unfold Nk
 rw[e,List.flatMap_append]
 simp[AHa]
theorem YM {l:List Ext} (h:EC l=true):∀j,j≤l.length→(Nk l j).length≤1+6*j
 | 0,_=>by simp[Nk]
 | j+1,hj=>by
  have ih:=YM h j (by omega)
  have hb:=Abb h (j:=j) (by omega)
  rw[Aar (by omega)]
  simp only[List.length_append,List.length_cons,List.length_nil]
  omega
def EM (l:List Ext):List Int×Bool:=if EC l=true then(Nk l l.length,true)else([],false)
abbrev Gm (R:Rel):Prop:=∀l:List Ext,Ub l→R [.sl 1 2 l.length (l.flatMap Br)] [] (.tup [.sl 0 1 (EM l).1.length (ints (EM l).1),B (EM l).2]) []
theorem AmO (D:Dn) (hA:FV (D KC)):Gm (Body D Oj):=by
 intro l hl
 have hll:=hl.1
 simp -implicitDefEqProofs
 refine Aa (hA l hl) ?_
 by_cases h1:EC l=true
 rotate_left
 ·have e:EM l=([],false):=by unfold EM;rw[if_neg h1]
  simp -implicitDefEqProofs [h1,e]
 simp -implicitDefEqProofs [h1]
 refine Ae (fun k s=>∃j o2 o3 o4,j+k=l.length∧s=⟨[.sl 1 2 l.length (l.flatMap Br),.undef,.undef,.arr 5,I j,.undef,.undef],[.free,.free,o2,o3,o4,.arr 1 0 (Nk l j).length (ints (Nk l j))]⟩) ?_ (l.length) _ ⟨0,.free,.free,.free,by simp,by simp[Nk,ints]⟩
 intro k s ⟨j,o2,o3,o4,hj,hs⟩
 subst hs
 by_cases hjn:j<l.length
 ·have hw:IntKind.i64.wrap ((j:Int)+1)=(j+1:Nat):=by rw[Ad (by omega) (by omega)];simp
  have hst:=Aar hjn
  have hle:=YM h1 j (by omega)
  have h6:=YB h1
  have hb4:=Abb h1 hjn
  have b1:((Nk l j).length+2)*8≤1099511627776:=by omega
  have b2:((Nk l j).length+2+l[j].body.length)*8≤1099511627776:=by omega
  simp -implicitDefEqProofs [hjn,b1,b2]
  exact⟨k-1,by omega,j+1,by omega,by simp[hw],by rw[hst];simp;omega,by rw[hst];simp[ints]⟩
 ·obtain rfl:j=l.length:=by omega
  have e:EM l=(Nk l l.length,true):=by unfold EM;rw[if_pos h1]
  simp -implicitDefEqProofs [e]
theorem Anm (D:Dn) (hA:FV (D KR)):Gm (Body D NP):=by
 intro l hl
 have hll:=hl.1
 simp -implicitDefEqProofs
 refine Aa (hA l hl) ?_
 by_cases h1:EC l=true
 rotate_left
 ·have e:EM l=([],false):=by unfold EM;rw[if_neg h1]
  simp -implicitDefEqProofs [h1,e]
 simp -implicitDefEqProofs [h1]
 refine Ae (fun k s=>∃j o1 o2 o3 o4,j+k=l.length∧s=⟨[.undef,.undef,.undef,.arr 5,.undef,.undef,.sl 1 2 l.length (l.flatMap Br),I l.length,I j,.undef],[.free,o1,o2,o3,o4,.arr 1 0 (Nk l j).length (ints (Nk l j))]⟩) ?_ (l.length) _ ⟨0,.free,.free,.free,.free,by simp,by simp[Nk,ints]⟩
 intro k s ⟨j,o1,o2,o3,o4,hj,hs⟩
 subst hs
 by_cases hjn:j<l.length
 ·have hw:IntKind.i64.wrap ((j:Int)+1)=(j+1:Nat):=by rw[Ad (by omega) (by omega)];simp
  have hst:=Aar hjn
  have hle:=YM h1 j (by omega)
  have h6:=YB h1
  have hb4:=Abb h1 hjn
  have b1:((Nk l j).length+2)*8≤1099511627776:=by omega
  have b2:((Nk l j).length+2+l[j].body.length)*8≤1099511627776:=by omega
  simp -implicitDefEqProofs [hjn,b1,b2]
  exact⟨k-1,by omega,j+1,by omega,by simp[hw],by rw[hst];simp;omega,by rw[hst];simp[ints]⟩
 ·obtain rfl:j=l.length:=by omega
  have e:EM l=(Nk l l.length,true):=by unfold EM;rw[if_pos h1]
  simp -implicitDefEqProofs [e]
theorem LC (l:List Ext):(EM l).1.length≤37:=by
 unfold EM
 split
 ·rename_i h
  have:=YM h l.length (Nat.le_refl _)
  have:=YB h
  dsimp only;omega
 ·simp
def A8 (h:Hello):List Int:=if CP h=true then((h.versions.length:Int)::h.versions)++(EM h.exts).1 else []
abbrev Iq (R:Rel):Prop:=∀h:Hello,hB h→R [arg (CU h)] [] (.sl 0 1 (A8 h).length (ints (A8 h))) []
theorem AyC {h:Hello} (hh:CP h=true):A9 h.versions=true:=by unfold CP at hh;simp only[Bool.and_eq_true]at hh;exact hh.1
theorem Anp (D:Dn) (hI:Eb (D Gi)) (hE:Gm (D UO)):Iq (Body D Nw):=by
 intro h hh
 have hv:=hh.1
 simp -implicitDefEqProofs
 refine Aa (hI h hh) ?_
 by_cases h1:CP h=true
 rotate_left
 ·simp -implicitDefEqProofs [h1,A8]
 have hl:=LC h.exts
 have e:A8 h=((h.versions.length:Int)::h.versions)++(EM h.exts).1:=by unfold A8;rw[if_pos h1]
 rw[e]
 simp -implicitDefEqProofs [h1]
 refine Aa (hE h.exts hh.2) ?_
 generalize(EM h.exts).1=r at hl
 have b1:(1+h.versions.length)*8≤1099511627776:=by omega
 have b2:(1+h.versions.length+r.length)*8≤1099511627776:=by omega
 have el:h.versions.length+r.length+1=1+h.versions.length+r.length:=by omega
 simp -implicitDefEqProofs [b1,b2,N8,Ake,el]
def Jp (a:RY):Bool:=decide (InV a.version 1 9)&&EC a.exts
def AA (a:RY):List Int:=if Jp a=true then a.version::(EM a.exts).1 else []
abbrev I9 (R:Rel):Prop:=∀a:RY,Ub a.exts→R [arg (Yw a)] [] (B (Jp a)) []
theorem Art (D:Dn) (hI:SG (D CB)) (hE:FV (D KC)):I9 (Body D RA):=by
 intro a ha
 simp -implicitDefEqProofs
 refine Aa (hI _ _ _) ?_
 by_cases h1:InV a.version 1 9
 rotate_left
 ·simp -implicitDefEqProofs [h1,Jp]
 simp -implicitDefEqProofs [h1]
 refine Aa (hE _ ha) ?_
 simp -implicitDefEqProofs [Jp,h1]
theorem AsV (D:Dn) (hI:SG (D Bz)) (hE:FV (D KR)):I9 (Body D R8):=by
 intro a ha
 simp -implicitDefEqProofs
 refine Aa (hI _ _ _) ?_
 by_cases h1:InV a.version 1 9
 rotate_left
 ·simp -implicitDefEqProofs [h1,Jp]
 simp -implicitDefEqProofs [h1]
 refine Aa (hE _ ha) ?_
 simp -implicitDefEqProofs [Jp,h1]
abbrev GV (R:Rel):Prop:=∀a:RY,Ub a.exts→R [arg (Yw a)] [] (.sl 0 1 (AA a).length (ints (AA a))) []
theorem Ahv (a:RY):(AA a).length≤38:=by
 unfold AA
 have:=LC a.exts
 split
 ·simp only[List.length_cons];omega
 ·simp
theorem AkJ (D:Dn) (hI:I9 (D XG)) (hE:Gm (D UO)):GV (Body D ML):=by
 intro a ha
 simp -implicitDefEqProofs
 refine Aa (hI a ha) ?_
 by_cases h1:Jp a=true
 rotate_left
 ·have e:AA a=[]:=by unfold AA;rw[if_neg h1]
  simp -implicitDefEqProofs [h1,e]
 have hl:=LC a.exts
 have e:AA a=a.version::(EM a.exts).1:=by unfold AA;rw[if_pos h1]
 rw[e]
 simp -implicitDefEqProofs [h1]
 refine Aa (hE a.exts ha) ?_
 generalize(EM a.exts).1=r at hl
 have b2:(1+r.length)*8≤1099511627776:=by omega
 have el:r.length+1=1+r.length:=by omega
 simp -implicitDefEqProofs [b2,N8,el]
theorem Ajf (D:Dn) (hI:I9 (D Xx)) (hE:Gm (D UM)):GV (Body D Na):=by
 intro a ha
 simp -implicitDefEqProofs
 refine Aa (hI a ha) ?_
 by_cases h1:Jp a=true
 rotate_left
 ·have e:AA a=[]:=by unfold AA;rw[if_neg h1]
  simp -implicitDefEqProofs [h1,e]
 have hl:=LC a.exts
 have e:AA a=a.version::(EM a.exts).1:=by unfold AA;rw[if_pos h1]
 rw[e]
 simp -implicitDefEqProofs [h1]
 refine Aa (hE a.exts ha) ?_
 generalize(EM a.exts).1=r at hl
 have b2:(1+r.length)*8≤1099511627776:=by omega
 have el:r.length+1=1+r.length:=by omega
 simp -implicitDefEqProofs [b2,N8,el]
def Ano (h:Hello) (x:Ext):Bool:=decide (x.tag∈Aq h.exts)&& !Am x.tag
def Ez (h:Hello) (a:RY):Bool:=CP h&&(Jp a&&(decide (a.version∈h.versions)&&a.exts.all (Ano h)))
abbrev JV (R:Rel):Prop:=∀(h:Hello) (a:RY),hB h→Ub a.exts→R [arg (CU h),arg (Yw a)] [] (B (Ez h a)) []
theorem AAj {α:Type} {p:α→Bool} {xs:List α} {i:Int} (h:0≤i):(Gs p xs i<0)=¬(xs.any p=true):=by
 have:=QN (p:=p) (xs:=xs) h
 rw[←this]
 exact propext ⟨fun h=>by omega,fun h=>by omega⟩
theorem AC6 (l:List Ext) (t:Int):l.any (GR t)=decide (t∈Aq l):=by
 rw[Bool.eq_iff_iff]
 simp only[List.any_eq_true,decide_eq_true_eq,Aq,List.mem_map,GR]
theorem ALp (l:List Ext) (t:Int):(Js l t<0)=¬(t∈Aq l):=by
 unfold Js
 rw[AAj (by omega),AC6]
 simp
theorem Aqr (D:Dn) (hX:Qn (D Tg)) (hR:EW (D J8)) (hI:Eb (D Gi)) (hA:I9 (D XG)) (hH:R6 (D Jl)):JV (Body D Pn):=by
 intro h a hh ha
 have hal:=ha.1
 have hxl:=hh.2.1
 have hvl:=hh.1
 simp -implicitDefEqProofs
 refine Ae (fun k s=>∃j,j+k=a.exts.length∧(a.exts.take j).all (Ano h)=true∧s=⟨[.undef,.undef,.ptr 0 0,.ptr 1 0,.undef,I j,.undef,.undef],[.var ((CU h).map (AZ 1)),.var ((Yw a).map (AZ 1))]⟩) ?_ (a.exts.length) _ ⟨0,by simp,by simp,by simp⟩
 intro k s ⟨j,hj,hp,hs⟩
 subst hs
 by_cases hjn:j<a.exts.length
 ·have hw:IntKind.i64.wrap ((j:Int)+1)=(j+1:Nat):=by rw[Ad (by omega) (by omega)];simp
  have hst:=UI (p:=Ano h) hjn
  rw[hp,Bool.true_and]at hst
  simp -implicitDefEqProofs [hjn]
  refine Aa (hX h.exts _ (by unfold maxLen;omega)) ?_
  by_cases h1:a.exts[j].tag∈Aq h.exts
  rotate_left
  ·have e:Ez h a=false:=by unfold Ez;rw[Sz hjn (by simp[Ano,h1])];simp
   have h1':Js h.exts a.exts[j].tag<0:=by rw[ALp];exact h1
   simp -implicitDefEqProofs [h1',e]
  have h1':¬Js h.exts a.exts[j].tag<0:=by rw[ALp];simpa using h1
  simp -implicitDefEqProofs [h1',hjn]
  refine Aa (hR _) ?_
  by_cases h2:Am a.exts[j].tag=true
  ·have e:Ez h a=false:=by unfold Ez;rw[Sz hjn (by simp[Ano,h2])];simp
   simp -implicitDefEqProofs [h2,e]
  ·simp -implicitDefEqProofs [h2]
   exact⟨k-1,by omega,j+1,by omega,by simpa using hst.trans (show Ano h a.exts[j]=true by simp[Ano,h1,h2]),by simp[hw]⟩
 ·have e:a.exts.all (Ano h)=true:=by rw[←Yz (j:=j) (by omega),hp]
  simp -implicitDefEqProofs [hjn]
  refine Aa (hI h hh) ?_
  by_cases g1:CP h=true
  rotate_left
  ·simp -implicitDefEqProofs [g1,Ez]
  simp -implicitDefEqProofs [g1]
  refine Aa (hA a ha) ?_
  by_cases g2:Jp a=true
  rotate_left
  ·simp -implicitDefEqProofs [g2,Ez]
  simp -implicitDefEqProofs [g2]
  refine Aa (hH _ _ (by unfold maxLen;omega)) ?_
  have e2:Ez h a=decide (a.version∈h.versions):=by unfold Ez;rw[e,g1,g2];simp
  simp -implicitDefEqProofs [e2]
abbrev VH (R:Rel):Prop:=∀l:List Ext,l.length≤4194304→R [.sl 1 2 l.length (l.flatMap Br)] [] (B ((Aq l).any Am)) []
theorem AoQ (D:Dn) (hT:KV (D QR)) (hH:F9 (D Oe)):VH (Body D Pv):=by
 intro l hl
 simp -implicitDefEqProofs
 refine Aa (hT l hl) ?_
 simp -implicitDefEqProofs
 refine Aa (hH (Aq l) (by rw[Nb];unfold maxLen;omega)) ?_
 generalize(Aq l).any Am=q
 simp -implicitDefEqProofs
theorem AEh (h:Hello) (a:RY):a.exts.all (Ano h)=(decide (leftOf (Aq a.exts) (Aq h.exts)=[])&& !(Aq a.exts).any Am):=by
 have h1:decide (leftOf (Aq a.exts) (Aq h.exts)=[])=a.exts.all fun x=>decide (x.tag∈Aq h.exts):=by
  rw[Bool.eq_iff_iff,decide_eq_true_eq,List.all_eq_true]
  unfold leftOf
  rw[List.filter_eq_nil_iff]
  constructor
  ·intro hp x hx
   have:=hp x.tag (List.mem_map.2 ⟨x,hx,rfl⟩)
   simpa using this
  ·intro hp v hv
   obtain⟨x,hx,rfl⟩:=List.mem_map.1 hv
   simpa using hp x hx
 have h2:(!(Aq a.exts).any Am)=a.exts.all fun x=> !Am x.tag:=by
  unfold Aq
  rw[List.any_map,List.all_eq_not_any_not]
  simp[Function.comp_def]
 rw[h1,h2]
 generalize a.exts=l
 induction l with
 | nil=>rfl
 | cons x r ih=>
  simp only[List.all_cons,ih,Ano]
  generalize decide (x.tag∈Aq h.exts)=p1
  generalize Am x.tag=p2
  cases p1<;>cases p2<;>simp
theorem Apk (D:Dn) (hI:Eb (D Hl)) (hA:I9 (D Xx)) (hH:R6 (D Bn)) (hT:KV (D QR)) (hL:WC (D OE)) (hG:VH (D Agu)):JV (Body D Pm):=by
 intro h a hh ha
 have hal:=ha.1
 have hxl:=hh.2.1
 have hvl:=hh.1
 simp -implicitDefEqProofs
 refine Aa (hI h hh) ?_
 by_cases g1:CP h=true
 rotate_left
 ·simp -implicitDefEqProofs [g1,Ez]
 simp -implicitDefEqProofs [g1]
 refine Aa (hA a ha) ?_
 by_cases g2:Jp a=true
 rotate_left
 ·simp -implicitDefEqProofs [g2,Ez]
 simp -implicitDefEqProofs [g2]
 refine Aa (hH _ _ (by unfold maxLen;omega)) ?_
 by_cases g3:a.version∈h.versions
 rotate_left
 ·simp -implicitDefEqProofs [g3,Ez]
 have e2:Ez h a=(decide (leftOf (Aq a.exts) (Aq h.exts)=[])&& !(Aq a.exts).any Am):=by unfold Ez;rw[AEh,g1,g2];simp[g3]
 rw[e2]
 simp -implicitDefEqProofs [g3]
 refine Aa (hT a.exts hal) ?_
 simp -implicitDefEqProofs
 refine Aa (hT h.exts hxl) ?_
 simp -implicitDefEqProofs
 refine Aa (hL (Aq a.exts) (Aq h.exts) (by rw[Nb];exact hal) (by rw[Nb];exact hxl)) ?_
 by_cases g4:leftOf (Aq a.exts) (Aq h.exts)=[]
 rotate_left
 ·simp -implicitDefEqProofs [g4,WT]
 simp -implicitDefEqProofs [g4,WT]
 refine Aa (hG a.exts hal) ?_
 generalize(Aq a.exts).any Am=q
 simp -implicitDefEqProofs
def Bf (vs tags:List Int) (h:Hello):RY×Bool:=if CP h&& !decide (BJ vs h.versions=0)then(⟨BJ vs h.versions,AaR (KT h.exts tags)⟩,true)else(⟨0,[]⟩,false)
abbrev SY (R:Rel):Prop:=∀(vs tags:List Int) (h:Hello),vs.length≤4194304→tags.length≤4194304→hB h→R [.sl 1 1 vs.length (ints vs),.sl 1 1 tags.length (ints tags),arg (CU h)] [] (.tup [.agg (Yw (Bf vs tags h).1),B (Bf vs tags h).2]) []
theorem AxG (D:Dn) (hB':EX (D NC)) (hI:Eb (D Gi)) (hK:L8 (D ZO)) (hS:GX (D Ac3)):SY (Body D Ls):=by
 intro vs tags h hv ht hh
 simp -implicitDefEqProofs
 refine Aa (hB' vs h.versions hv hh.1) ?_
 simp -implicitDefEqProofs
 refine Aa (hI h hh) ?_
 by_cases h1:CP h=true
 rotate_left
 ·simp -implicitDefEqProofs [h1,Bf]
 by_cases h2:BJ vs h.versions=0
 ·simp -implicitDefEqProofs [h1,h2,Bf]
 have e:Bf vs tags h=(⟨BJ vs h.versions,AaR (KT h.exts tags)⟩,true):=by unfold Bf;rw[if_pos (by simp[h1,h2])]
 simp -implicitDefEqProofs [h1,h2]
 refine Aa (hK h.exts tags hh.2 (by unfold maxLen;omega)) ?_
 simp -implicitDefEqProofs
 refine Aa (hS (KT h.exts tags) (UN hh.2 _)) ?_
 simp -implicitDefEqProofs [e]
theorem Ayp (D:Dn) (hB':EX (D Ou)) (hI:Eb (D Hl)) (hK:L8 (D Anu)) (hS:GX (D Ab6)):SY (Body D KZ):=by
 intro vs tags h hv ht hh
 simp -implicitDefEqProofs
 refine Aa (hB' vs h.versions hv hh.1) ?_
 simp -implicitDefEqProofs
 refine Aa (hI h hh) ?_
 by_cases h1:CP h=true
 rotate_left
 ·simp -implicitDefEqProofs [h1,Bf]
 by_cases h2:BJ vs h.versions=0
 ·simp -implicitDefEqProofs [h1,h2,Bf]
 have e:Bf vs tags h=(⟨BJ vs h.versions,AaR (KT h.exts tags)⟩,true):=by unfold Bf;rw[if_pos (by simp[h1,h2])]
 simp -implicitDefEqProofs [h1,h2]
 refine Aa (hK h.exts tags hh.2 (by unfold maxLen;omega)) ?_
 simp -implicitDefEqProofs
 refine Aa (hS (KT h.exts tags) (UN hh.2 _)) ?_
 simp -implicitDefEqProofs [e]
end Go.Eng.T
namespace Go.Eng.T
set_option maxRecDepth 20000
set_option maxHeartbeats 1000000
theorem Aqn (D:Dn):F4 (Body D PO):=by
 intro xs ys h1 h2
 unfold maxLen at h1 h2
 by_cases hl:xs.length=ys.length
 rotate_left
 ·have hl':¬(xs.length:Int)=ys.length:=by omega
  have:xs≠ys:=fun h=>hl (by rw[h])
  simp -implicitDefEqProofs [hl',this]
 have hl':(xs.length:Int)=ys.length:=by omega
 simp -implicitDefEqProofs [hl']
 refine Ae (fun k s=>∃j,j+k=xs.length∧xs.take j=ys.take j∧s=⟨[.sl 1 1 xs.length (ints xs),.sl 1 1 ys.length (ints ys),.undef,I j,.undef,.undef,.undef],[]⟩) ?_ (xs.length) _ ⟨0,by simp,by simp,by simp⟩
 intro k s ⟨j,hj,hp,hs⟩
 subst hs
 by_cases hjn:j<xs.length
 ·have hw:IntKind.i64.wrap ((j:Int)+1)=(j+1:Nat):=by rw[Ad (by omega) (by omega)];simp
  have hy:j<ys.length:=by omega
  by_cases he:xs[j]=ys[j]
  ·simp -implicitDefEqProofs [hjn,hy,he]
   exact⟨k-1,by omega,j+1,by omega,J5 hjn hy hp he,by simp[hw]⟩
  ·have hne:xs≠ys:=fun h=>he (by simp[h])
   simp -implicitDefEqProofs [hjn,hy,he,hne]
 ·obtain rfl:xs=ys:=Mq (by omega) hl hp
  simp -implicitDefEqProofs [hjn]
theorem AAq (D:Dn):F4 (Body D Hu):=by
 intro xs ys h1 h2
 unfold maxLen at h1 h2
 by_cases hl:xs.length=ys.length
 rotate_left
 ·have hl':¬(xs.length:Int)=ys.length:=by omega
  have:xs≠ys:=fun h=>hl (by rw[h])
  simp -implicitDefEqProofs [hl',this]
 have hl':(xs.length:Int)=ys.length:=by omega
 simp -implicitDefEqProofs [hl']
 refine Ae (fun k s=>∃j,j+k=xs.length∧xs.take j=ys.take j∧s=⟨[.sl 1 1 xs.length (ints xs),.sl 1 1 ys.length (ints ys),.undef,.undef,.undef,I ys.length,I j,.undef,.undef],[]⟩) ?_ (xs.length) _ ⟨0,by simp,by simp,by simp⟩
 intro k s ⟨j,hj,hp,hs⟩
 subst hs
 by_cases hjn:j<xs.length
 ·have hw:IntKind.i64.wrap ((j:Int)+1)=(j+1:Nat):=by rw[Ad (by omega) (by omega)];simp
  have hy:j<ys.length:=by omega
  by_cases he:xs[j]=ys[j]
  ·simp -implicitDefEqProofs [hjn,hy,he]
   exact⟨k-1,by omega,j+1,by omega,J5 hjn hy hp he,by simp[hw]⟩
  ·have hne:xs≠ys:=fun h=>he (by simp[h])
   simp -implicitDefEqProofs [hjn,hy,he,hne]
 ·obtain rfl:xs=ys:=Mq (by omega) hl hp
  simp -implicitDefEqProofs [hjn]
abbrev QT (R:Rel):Prop:=∀a b:List Ext,Ub a→Ub b→R [.sl 1 2 a.length (a.flatMap Br),.sl 1 2 b.length (b.flatMap Br)] [] (B (decide (a=b))) []
abbrev U9 (R:Rel):Prop:=∀a b:Ext,a.body.length≤4194304→b.body.length≤4194304→R [arg (Br a),arg (Br b)] [] (B (decide (a=b))) []
theorem ext_eq {a b:Ext} (h1:a.tag=b.tag) (h2:a.body=b.body):a=b:=by cases a;cases b;simp_all
theorem Apj (D:Dn) (hE:F4 (D WG)):QT (Body D PY):=by
 intro a b ha hb
 have h1:=ha.1
 have h2:=hb.1
 by_cases hl:a.length=b.length
 rotate_left
 ·have hl':¬(a.length:Int)=b.length:=by omega
  have:a≠b:=fun h=>hl (by rw[h])
  simp -implicitDefEqProofs [hl',this]
 have hl':(a.length:Int)=b.length:=by omega
 simp -implicitDefEqProofs [hl']
 refine Ae (fun k s=>∃j,j+k=a.length∧a.take j=b.take j∧s=⟨[.sl 1 2 a.length (a.flatMap Br),.sl 1 2 b.length (b.flatMap Br),.undef,I j,.undef,.undef,.undef],[]⟩) ?_ (a.length) _ ⟨0,by simp,by simp,by simp⟩
 intro k s ⟨j,hj,hp,hs⟩
 subst hs
 by_cases hjn:j<a.length
 ·have hw:IntKind.i64.wrap ((j:Int)+1)=(j+1:Nat):=by rw[Ad (by omega) (by omega)];simp
  have hy:j<b.length:=by omega
  by_cases g1:a[j].tag=b[j].tag
  rotate_left
  ·have hne:a≠b:=fun h=>g1 (by simp[h])
   simp -implicitDefEqProofs [hjn,hy,g1,hne]
  simp -implicitDefEqProofs [hjn,hy,g1]
  refine Aa (hE a[j].body b[j].body (by have:=Mr ha hjn;unfold maxLen;omega) (by have:=Mr hb hy;unfold maxLen;omega)) ?_
  by_cases g2:a[j].body=b[j].body
  ·simp -implicitDefEqProofs [g2]
   exact⟨k-1,by omega,j+1,by omega,J5 hjn hy hp (ext_eq g1 g2),by simp[hw]⟩
  ·have hne:a≠b:=fun h=>g2 (by simp[h])
   simp -implicitDefEqProofs [g2,hne]
 ·obtain rfl:a=b:=Mq (by omega) hl hp
  simp -implicitDefEqProofs [hjn]
theorem Avm (D:Dn) (hE:F4 (D KH)):U9 (Body D Ry):=by
 intro a b ha hb
 by_cases g1:a.tag=b.tag
 rotate_left
 ·have hne:a≠b:=fun h=>g1 (by simp[h])
  simp -implicitDefEqProofs [g1,hne]
 simp -implicitDefEqProofs [g1]
 refine Aa (hE a.body b.body (by unfold maxLen;omega) (by unfold maxLen;omega)) ?_
 by_cases g2:a.body=b.body
 ·have e:=ext_eq g1 g2
  simp -implicitDefEqProofs [g2,e]
 ·have hne:a≠b:=fun h=>g2 (by simp[h])
  simp -implicitDefEqProofs [g2,hne]
abbrev WA (D:Dn) (R:Rel):Prop:=∀(a b:List Ext) (g:Nat),Ub a→Ub b→U9 (D g)→R [.sl 1 2 a.length (a.flatMap Br),.sl 1 2 b.length (b.flatMap Br),.fn g []] [] (B (decide (a=b))) []
theorem Atg (D:Dn):WA D (Body D Bq):=by
 intro a b g ha hb hg
 have h1:=ha.1
 have h2:=hb.1
 by_cases hl:a.length=b.length
 rotate_left
 ·have hl':¬(a.length:Int)=b.length:=by omega
  have:a≠b:=fun h=>hl (by rw[h])
  simp -implicitDefEqProofs [hl',this]
 have hl':(a.length:Int)=b.length:=by omega
 simp -implicitDefEqProofs [hl']
 refine Ae (fun k s=>∃j o0 o1,j+k=a.length∧a.take j=b.take j∧s=⟨[.undef,.sl 1 2 b.length (b.flatMap Br),.fn g [],.undef,.undef,.undef,.undef,.undef,.sl 1 2 a.length (a.flatMap Br),I b.length,I j,.undef,.undef],[o0,o1]⟩) ?_ (a.length) _ ⟨0,.free,.free,by simp,by simp,by simp⟩
 intro k s ⟨j,o0,o1,hj,hp,hs⟩
 subst hs
 by_cases hjn:j<a.length
 ·have hw:IntKind.i64.wrap ((j:Int)+1)=(j+1:Nat):=by rw[Ad (by omega) (by omega)];simp
  have hy:j<b.length:=by omega
  simp -implicitDefEqProofs [hjn,hy,↓Q8 Q0]
  refine Aa (hg a[j] b[j] (Mr ha hjn) (Mr hb hy)) ?_
  by_cases g2:a[j]=b[j]
  ·simp -implicitDefEqProofs [g2]
   exact⟨k-1,by omega,j+1,by omega,J5 hjn hy hp g2,by simp[hw]⟩
  ·have hne:a≠b:=fun h=>g2 (by simp[h])
   simp -implicitDefEqProofs [g2,hne]
 ·obtain rfl:a=b:=Mq (by omega) hl hp
  simp -implicitDefEqProofs [hjn]
theorem AoC (D:Dn) (h1:U9 (D AjL)) (hE:WA D (D Fp)):QT (Body D PN):=by
 intro a b ha hb
 simp -implicitDefEqProofs
 refine Aa (hE a b _ ha hb h1) ?_
 simp -implicitDefEqProofs
abbrev LX (R:Rel):Prop:=∀a b:Hello,hB a→hB b→R [arg (CU a),arg (CU b)] [] (B (decide (a=b))) []
theorem Ais {a b:Hello} (h1:a.versions=b.versions) (h2:a.exts=b.exts):a=b:=by cases a;cases b;simp_all
theorem Ai0 (D:Dn) (hE:F4 (D WG)) (hX:QT (D WI)):LX (Body D Mc):=by
 intro a b ha hb
 simp -implicitDefEqProofs
 refine Aa (hE a.versions b.versions (by have:=ha.1;unfold maxLen;omega) (by have:=hb.1;unfold maxLen;omega)) ?_
 by_cases g1:a.versions=b.versions
 rotate_left
 ·have hne:a≠b:=fun h=>g1 (by simp[h])
  simp -implicitDefEqProofs [g1,hne]
 simp -implicitDefEqProofs [g1]
 refine Aa (hX a.exts b.exts ha.2 hb.2) ?_
 by_cases g2:a.exts=b.exts
 ·have e:=Ais g1 g2
  simp -implicitDefEqProofs [g2,e]
 ·have hne:a≠b:=fun h=>g2 (by simp[h])
  simp -implicitDefEqProofs [g2,hne]
theorem AkN (D:Dn) (hE:F4 (D KH)) (hX:QT (D Af5)):LX (Body D M4):=by
 intro a b ha hb
 simp -implicitDefEqProofs
 refine Aa (hE a.versions b.versions (by have:=ha.1;unfold maxLen;omega) (by have:=hb.1;unfold maxLen;omega)) ?_
 by_cases g1:a.versions=b.versions
 rotate_left
 ·have hne:a≠b:=fun h=>g1 (by simp[h])
  simp -implicitDefEqProofs [g1,hne]
 simp -implicitDefEqProofs [g1]
 refine Aa (hX a.exts b.exts ha.2 hb.2) ?_
 by_cases g2:a.exts=b.exts
 ·have e:=Ais g1 g2
  simp -implicitDefEqProofs [g2,e]
 ·have hne:a≠b:=fun h=>g2 (by simp[h])
  simp -implicitDefEqProofs [g2,hne]
theorem AnI:∀ {path:List Gu} {h:Hello},hB h→hB (Iu path h).1
 | [],h,hh=>hh
 | b::r,h,hh=>by
  unfold Iu
  split
  ·exact AnI (Apm hh)
  ·exact AiP
theorem O7 {path:List Gu} {h:Hello} (hh:hB h):hB (A7 path h).1:=by
 unfold A7
 split
 ·exact AnI hh
 ·exact AiP
theorem AfQ:∀ {path:List Gu} {h:Hello},(Iu path h).2=true→(Iu path h).1.versions=h.versions
 | [],h,_=>rfl
 | b::r,h,hk=>by
  unfold Iu at hk⊢
  split at hk
  ·rename_i hb
   rw[if_pos hb,AfQ hk]
   unfold BS at hb⊢
   split at hb
   ·rename_i hc;rw[if_pos hc]
   ·cases hb
  ·cases hk
theorem Ank {path:List Gu} {h:Hello} (hk:(A7 path h).2=true):(A7 path h).1.versions=h.versions:=by
 unfold A7 at hk⊢
 split at hk
 ·rename_i hc;rw[if_pos hc];exact AfQ hk
 ·cases hk
def Dw (h:Hello) (path:List Gu):Bool:=(A7 path h).2&&decide ((A7 path h).1=h)
abbrev FX (R:Rel):Prop:=∀(h:Hello) (path:List Gu),hB h→lnS Hw path→R [arg (CU h),.sl 1 4 path.length (path.flatMap CF)] [] (B (Dw h path)) []
theorem AkE (D:Dn) (hP:FN (D Mj)) (hQ:LX (D AcO)):FX (Body D MN):=by
 intro h path hh hb
 simp -implicitDefEqProofs
 refine Aa (hP path h hb hh) ?_
 have hr:=O7 (path:=path) hh
 have e:Dw h path=((A7 path h).2&&decide ((A7 path h).1=h)):=rfl
 generalize A7 path h=r at hr e
 by_cases g1:r.2=true
 rotate_left
 ·simp -implicitDefEqProofs [g1,e]
 simp -implicitDefEqProofs [g1]
 refine Aa (hQ r.1 h hr hh) ?_
 simp -implicitDefEqProofs [e,g1]
theorem Ajk (D:Dn) (hP:FN (D L9)) (hQ:LX (D AbI)):FX (Body D M8):=by
 intro h path hh hb
 simp -implicitDefEqProofs
 refine Aa (hP path h hb hh) ?_
 have hr:=O7 (path:=path) hh
 have e:Dw h path=((A7 path h).2&&decide ((A7 path h).1=h)):=rfl
 generalize A7 path h=r at hr e
 by_cases g1:r.2=true
 rotate_left
 ·simp -implicitDefEqProofs [g1,e]
 simp -implicitDefEqProofs [g1]
 refine Aa (hQ r.1 h hr hh) ?_
 simp -implicitDefEqProofs [e,g1]
end Go.Eng.T
namespace Go.Eng.T
set_option maxRecDepth 20000
set_option maxHeartbeats 1000000
def IY (path:List Gu) (vs:List Int) (x:Ext):Bool:= !Dw ⟨vs.take 1,[x]⟩ path
def Ff (path:List Gu) (vs:List Int) (l:List Ext):List Int:=if EC l&&isOpen path vs then Aq (l.filter (IY path vs))else []
abbrev LA (R:Rel):Prop:=∀(path:List Gu) (vs:List Int) (l:List Ext),lnS Hw path→vs.length≤4194304→Ub l→R [.sl 1 4 path.length (path.flatMap CF),.sl 1 1 vs.length (ints vs),.sl 1 2 l.length (l.flatMap Br)] [] (.sl 0 1 (Ff path vs l).length (ints (Ff path vs l))) []
theorem AqW {path:List Gu} {vs:List Int} (h:isOpen path vs=true):0<vs.length:=by
 unfold isOpen at h
 simp only[Bool.and_eq_true]at h
 exact XJ h.1
theorem AjO {p:Ext→Bool} {l:List Ext} {j:Nat} (h:j<l.length):Aq ((l.take (j+1)).filter p)=Aq ((l.take j).filter p)++(if p l[j]then [l[j].tag]else []):=by
 rw[Aaf h]
 unfold Aq
 rw[List.map_append]
 split<;>simp
theorem An4 {p:Ext→Bool} {l:List Ext} {j:Nat}:(Aq ((l.take j).filter p)).length≤j:=by
 unfold Aq
 rw[List.length_map]
 exact AdH
theorem AtL {path:List Gu} {vs:List Int} {x:Ext}:IY path vs x= !((A7 path ⟨vs.take 1,[x]⟩).2&&decide ((A7 path ⟨vs.take 1,[x]⟩).1.exts=[x])):=by
 unfold IY Dw
 by_cases h:(A7 path ⟨vs.take 1,[x]⟩).2=true
 ·have hv:=Ank h
  have e:decide ((A7 path ⟨vs.take 1,[x]⟩).1=⟨vs.take 1,[x]⟩)=decide ((A7 path ⟨vs.take 1,[x]⟩).1.exts=[x]):=by
   rw[decide_eq_decide]
   constructor
   ·intro h1;rw[h1]
   ·intro h1;exact Ais hv h1
  rw[e]
 ·simp[h]
theorem AsJ (D:Dn) (hA:FV (D KC)) (hO:G9 (D Vd)) (hH:Gb (D UY)) (hP:FN (D Mj)) (hX:QT (D WI)):LA (Body D Sl):=by
 intro path vs l hb hv hl
 have hll:=hl.1
 simp -implicitDefEqProofs
 refine Aa (hA l hl) ?_
 by_cases h1:EC l=true
 rotate_left
 ·simp -implicitDefEqProofs [h1,Ff]
 simp -implicitDefEqProofs [h1]
 refine Aa (hO path vs hb hv) ?_
 by_cases h2:isOpen path vs=true
 rotate_left
 ·simp -implicitDefEqProofs [h2,h1,Ff]
 have e:Ff path vs l=Aq (l.filter (IY path vs)):=by unfold Ff;rw[h1,h2];rfl
 have hpos:=AqW h2
 have h1l:(1:Int)≤vs.length:=by omega
 have h1n:1≤vs.length:=by omega
 have hlen:(vs.take 1).length=1:=by simp;omega
 have hmin:min 1 vs.length=1:=by omega
 rw[e]
 simp -implicitDefEqProofs [h2]
 refine Ae (fun k s=>∃j o1 o2 o3 o4 o5 o6 o7 o8,j+k=l.length∧s=⟨[.sl 1 4 path.length (path.flatMap CF),.sl 1 1 vs.length (ints vs),.sl 1 2 l.length (l.flatMap Br),.undef,.arr 9,I j,.undef,.undef,.undef,.undef,.undef,.undef],[.free,o1,o2,o3,o4,o5,o6,o7,o8,.arr 1 0 (Aq ((l.take j).filter (IY path vs))).length (ints (Aq ((l.take j).filter (IY path vs))))]⟩) ?_ (l.length) _ ⟨0,.free,.free,.free,.free,.free,.free,.free,.free,by simp,by simp[Aq,ints]⟩
 intro k s ⟨j,o1,o2,o3,o4,o5,o6,o7,o8,hj,hs⟩
 subst hs
 by_cases hjn:j<l.length
 ·have hw:IntKind.i64.wrap ((j:Int)+1)=(j+1:Nat):=by rw[Ad (by omega) (by omega)];simp
  have hst:=AjO (p:=IY path vs) hjn
  have hfl:=An4 (p:=IY path vs) (l:=l) (j:=j)
  have hb1:((Aq ((l.take j).filter (IY path vs))).length+1)*8≤1099511627776:=by omega
  have hw1:IntKind.i64.wrap ((j:Int)+1)=(j:Int)+1:=Ad (by omega) (by omega)
  have hj1:j+1≤l.length:=by omega
  have hj2:(j:Int)+1≤l.length:=by omega
  have hjj:(j:Int)≤(j:Int)+1:=by omega
  have h11:j+1-j=1:=by omega
  simp -implicitDefEqProofs [hjn,h1l,h1n]
  have hh:=hH (vs.take 1) (by omega)
  rw[hlen]at hh
  refine Aa (hh) ?_
  have hdt:(l.drop j).take 1=[l[j]]:=by rw[List.drop_eq_getElem_cons hjn];rfl
  simp -implicitDefEqProofs [hmin,hw1,hj1,hj2,hjj,h11,hdt]
  have hhB:hB ⟨vs.take 1,[l[j]]⟩:=⟨by simp;omega,by simp,by intro x hx;simp at hx;subst hx;exact Mr hl hjn⟩
  have hp:=hP path ⟨vs.take 1,[l[j]]⟩ hb hhB
  have hr:=O7 (path:=path) hhB
  have hq:=AtL (path:=path) (vs:=vs) (x:=l[j])
  simp -implicitDefEqProofs [hmin,arg]at hp
  refine Aa (hp) ?_
  generalize A7 path ⟨vs.take 1,[l[j]]⟩=r at hr hq
  by_cases g1:r.2=true
  rotate_left
  ·have h3:IY path vs l[j]=true:=by rw[hq];simp[g1]
   rw[if_pos h3]at hst
   simp -implicitDefEqProofs [g1,hjn,hb1]
   exact⟨k-1,by omega,j+1,by omega,by simp[hw],by rw[hst];simp,by rw[hst]⟩
  simp -implicitDefEqProofs [g1]
  have hx:=hX r.1.exts [l[j]] hr.2 hhB.2
  simp -implicitDefEqProofs [arg]at hx
  refine Aa (hx) ?_
  by_cases g2:r.1.exts=[l[j]]
  ·have h3:¬IY path vs l[j]=true:=by rw[hq];simp[g1,g2]
   rw[if_neg h3,List.append_nil]at hst
   simp -implicitDefEqProofs [g2]
   exact⟨k-1,by omega,j+1,by omega,by simp[hw],by rw[hst],by rw[hst]⟩
  ·have h3:IY path vs l[j]=true:=by rw[hq];simp[g2]
   rw[if_pos h3]at hst
   simp -implicitDefEqProofs [g2,hjn,hb1]
   exact⟨k-1,by omega,j+1,by omega,by simp[hw],by rw[hst];simp,by rw[hst]⟩
 ·have e2:(l.take j).filter (IY path vs)=l.filter (IY path vs):=AdG (by omega)
  simp -implicitDefEqProofs [hjn,e2]
theorem ArD (D:Dn) (hA:FV (D KR)) (hO:G9 (D AeU)) (hP:FX (D Td)):LA (Body D Sg):=by
 intro path vs l hb hv hl
 have hll:=hl.1
 simp -implicitDefEqProofs
 refine Aa (hO path vs hb hv) ?_
 by_cases h2:isOpen path vs=true
 rotate_left
 ·simp -implicitDefEqProofs [h2,Ff]
 simp -implicitDefEqProofs [h2]
 refine Aa (hA l hl) ?_
 by_cases h1:EC l=true
 rotate_left
 ·simp -implicitDefEqProofs [h1,Ff]
 have e:Ff path vs l=Aq (l.filter (IY path vs)):=by unfold Ff;rw[h1,h2];rfl
 have hpos:=AqW h2
 have h1l:(1:Int)≤vs.length:=by omega
 have h1n:1≤vs.length:=by omega
 have hlen:(vs.take 1).length=1:=by simp;omega
 have hmin:min 1 vs.length=1:=by omega
 rw[e]
 simp -implicitDefEqProofs [h1]
 refine Ae (fun k s=>∃j v5 o1 o2 o3 o4,j+k=l.length∧s=⟨[.sl 1 4 path.length (path.flatMap CF),.sl 1 1 vs.length (ints vs),.undef,.undef,.arr 5,v5,.undef,.sl 1 2 l.length (l.flatMap Br),I l.length,I j,.undef,.undef],[.free,o1,o2,o3,o4,.arr 1 0 (Aq ((l.take j).filter (IY path vs))).length (ints (Aq ((l.take j).filter (IY path vs))))]⟩) ?_ (l.length) _ ⟨0,.undef,.free,.free,.free,.free,by simp,by simp[Aq,ints]⟩
 intro k s ⟨j,v5,o1,o2,o3,o4,hj,hs⟩
 subst hs
 by_cases hjn:j<l.length
 ·have hw:IntKind.i64.wrap ((j:Int)+1)=(j+1:Nat):=by rw[Ad (by omega) (by omega)];simp
  have hst:=AjO (p:=IY path vs) hjn
  have hfl:=An4 (p:=IY path vs) (l:=l) (j:=j)
  have hb1:((Aq ((l.take j).filter (IY path vs))).length+1)*8≤1099511627776:=by omega
  have hhB:hB ⟨vs.take 1,[l[j]]⟩:=⟨by simp;omega,by simp,by intro x hx;simp at hx;subst hx;exact Mr hl hjn⟩
  simp -implicitDefEqProofs [hjn,h1l,h1n]
  have hp:=hP ⟨vs.take 1,[l[j]]⟩ path hhB hb
  have hq:IY path vs l[j]= !Dw ⟨vs.take 1,[l[j]]⟩ path:=rfl
  simp -implicitDefEqProofs [hmin,arg]at hp
  refine Aa (hp) ?_
  generalize Dw ⟨vs.take 1,[l[j]]⟩ path=r at hq
  by_cases g1:r=true
  ·have h3:¬IY path vs l[j]=true:=by rw[hq,g1];simp
   rw[if_neg h3,List.append_nil]at hst
   simp -implicitDefEqProofs [g1]
   exact⟨k-1,by omega,j+1,by omega,by simp[hw],by rw[hst],by rw[hst]⟩
  ·have h3:IY path vs l[j]=true:=by rw[hq];simpa using g1
   rw[if_pos h3]at hst
   simp -implicitDefEqProofs [g1,hjn,hb1]
   exact⟨k-1,by omega,j+1,by omega,by simp[hw],by rw[hst];simp,by rw[hst]⟩
 ·have e2:(l.take j).filter (IY path vs)=l.filter (IY path vs):=AdG (by omega)
  simp -implicitDefEqProofs [hjn,e2]
end Go.Eng.T
namespace Go.Eng.T
set_option maxRecDepth 20000
set_option maxHeartbeats 1000000
theorem K3 (a b:List Int):(leftOf a b).length≤a.length:=List.length_filter_le _ _
def Fh (h:Hello) (lv lt:List Int):Hello×Bool:=if CP h&& !decide (leftOf h.versions lv=[])then(⟨leftOf h.versions lv,kept (fun t=> !decide (t∈lt)) h.exts⟩,true)else(AQ,false)
abbrev JJ (R:Rel):Prop:=∀(h:Hello) (lv lt:List Int),hB h→lv.length≤4194304→lt.length≤4194304→R [arg (CU h),.sl 1 1 lv.length (ints lv),.sl 1 1 lt.length (ints lt)] [] (.tup [.agg (CU (Fh h lv lt).1),B (Fh h lv lt).2]) []
theorem Ap7 (D:Dn) (hI:Eb (D Gi)) (hH:R6 (D Jl)):JJ (Body D Qd):=by
 intro h lv lt hh hv ht
 have hvl:=hh.1
 have hxl:=hh.2.1
 simp -implicitDefEqProofs
 refine Aa (hI h hh) ?_
 by_cases h1:CP h=true
 rotate_left
 ·simp -implicitDefEqProofs [h1,Fh,AQ]
 have e1:leftOf h.versions lv=h.versions.filter (fun v=> !decide (v∈lv)):=rfl
 unfold Fh
 rw[h1,e1]
 generalize hp:(fun v=> !decide (v∈lv))=p
 generalize hq:(fun t=> !decide (t∈lt))=q
 obtain⟨vs,hvs⟩:∃vs,vs=h.versions.filter p:=⟨_,rfl⟩
 rw[←hvs]
 simp -implicitDefEqProofs [h1]
 refine Ae (fun k s=>∃j o3 o4,j+k=h.versions.length∧s=⟨[.undef,.sl 1 1 lv.length (ints lv),.sl 1 1 lt.length (ints lt),.ptr 0 0,.ptr 1 0,.undef,.ptr 2 0,I j,.undef,.undef,.undef,.undef,.undef,.undef,.undef],[.var ((CU h).map (AZ 1)),.var [.nil 1,.nil 2],.var [.arr 9,.arr 10],o3,o4,.free,.free,.free,.free,.arr 1 0 ((h.versions.take j).filter p).length (ints ((h.versions.take j).filter p)),.arr 2 0 0 []]⟩) ?_ (h.versions.length) _ ⟨0,.free,.free,by simp,by simp⟩
 intro k s ⟨j,o3,o4,hj,hs⟩
 subst hs
 by_cases hjn:j<h.versions.length
 ·have hw:IntKind.i64.wrap ((j:Int)+1)=(j+1:Nat):=by rw[Ad (by omega) (by omega)];simp
  have hst:=LH (p:=p) hjn
  have hfl:=OM (p:=p) (xs:=h.versions) (j:=j)
  have hb1:(((h.versions.take j).filter p).length+1)*8≤1099511627776:=by omega
  have hpv:p h.versions[j]= !decide (h.versions[j]∈lv):=by rw[←hp]
  simp -implicitDefEqProofs [hjn]
  refine Aa (hH lv h.versions[j] (by unfold maxLen;omega)) ?_
  by_cases h2:h.versions[j]∈lv
  ·have h3:¬p h.versions[j]=true:=by rw[hpv];simpa using h2
   rw[if_neg h3,List.append_nil]at hst
   simp -implicitDefEqProofs [h2]
   exact⟨k-1,by omega,j+1,by omega,by simp[hw],by rw[hst],by rw[hst]⟩
  ·have h3:p h.versions[j]=true:=by rw[hpv];simpa using h2
   rw[if_pos h3]at hst
   simp -implicitDefEqProofs [h2,hjn,hb1]
   exact⟨k-1,by omega,j+1,by omega,by simp[hw],by rw[hst];simp,by rw[hst]⟩
 have e2:=Nh (p:=p) (xs:=h.versions) (j:=j) (by omega)
 rw[←hvs]at e2
 simp -implicitDefEqProofs [hjn,e2]
 refine Ae (fun k s=>∃j o3 o4 o5 o6 o7 o8,j+k=h.exts.length∧s=⟨[.undef,.undef,.sl 1 1 lt.length (ints lt),.ptr 0 0,.ptr 1 0,.undef,.ptr 2 0,.undef,I j,.undef,.undef,.undef,.undef,.undef,.undef],[.var ((CU h).map (AZ 1)),.var [.nil 1,.nil 2],.var [.arr 9,.arr 10],o3,o4,o5,o6,o7,o8,.arr 1 0 vs.length (ints vs),.arr 2 0 (kept q (h.exts.take j)).length ((kept q (h.exts.take j)).flatMap Br)]⟩) ?_ (h.exts.length) _ ⟨0,o3,o4,.free,.free,.free,.free,by simp,by simp[kept]⟩
 intro k s ⟨j,o3,o4,o5,o6,o7,o8,hj,hs⟩
 subst hs
 by_cases hjn:j<h.exts.length
 ·have hw:IntKind.i64.wrap ((j:Int)+1)=(j+1:Nat):=by rw[Ad (by omega) (by omega)];simp
  have hb:=Mr hh.2 hjn
  have hb1:h.exts[j].body.length*8≤1099511627776:=by omega
  have hkl:=Vb (p:=q) (l:=h.exts) (j:=j)
  have hb2:((kept q (h.exts.take j)).length+1)*32≤1099511627776:=by omega
  have hpv:q h.exts[j].tag= !decide (h.exts[j].tag∈lt):=by rw[←hq]
  simp -implicitDefEqProofs [hjn]
  refine Aa (hH lt h.exts[j].tag (by unfold maxLen;omega)) ?_
  by_cases h2:h.exts[j].tag∈lt
  ·have h3:¬q h.exts[j].tag=true:=by rw[hpv];simpa using h2
   have hst:=YK (p:=q) hjn
   rw[if_neg h3,List.append_nil]at hst
   simp -implicitDefEqProofs [h2]
   exact⟨k-1,by omega,j+1,by omega,by simp[hw],by rw[hst],by rw[hst]⟩
  ·have h3:q h.exts[j].tag=true:=by rw[hpv];simpa using h2
   have hst:=Q7 hjn h3
   have hsl:=I8 hjn h3
   simp -implicitDefEqProofs [h2,hjn,hb1,hb2]
   exact⟨k-1,by omega,j+1,by omega,by simp[hw],by rw[←hsl],by rw[←hst]⟩
 have e3:=UL (p:=q) (l:=h.exts) (j:=j) (by omega)
 by_cases g:vs=[]
 ·simp -implicitDefEqProofs [hjn,e3,g,AQ]
 ·have g':¬(vs.length:Int)=0:=by
   intro h0
   exact g (List.eq_nil_of_length_eq_zero (by omega))
  simp -implicitDefEqProofs [hjn,e3,g',g]
abbrev SS (R:Rel):Prop:=∀(t:Int) (tags:List Int),tags.length≤maxLen→R [I t,.rptr 1 [.sl 0 1 tags.length (ints tags)] 0] [] (B (!decide (t∈tags))) []
theorem Aqs (D:Dn) (hH:R6 (D Bn)):SS (Body D Mv):=by
 intro t tags hl
 simp -implicitDefEqProofs
 refine Aa (hH tags t hl) ?_
 simp -implicitDefEqProofs
theorem Apo (D:Dn) (hI:Eb (D Hl)) (hL:WC (D OE)) (h1:SS (D Ta)) (hK:LP D (D JF)):JJ (Body D Qj):=by
 intro h lv lt hh hv ht
 simp -implicitDefEqProofs
 refine Aa (hL h.versions lv hh.1 hv) ?_
 have hll:=K3 h.versions lv
 unfold Fh
 generalize leftOf h.versions lv=vs at hll
 simp -implicitDefEqProofs
 refine Aa (hI h hh) ?_
 by_cases g1:CP h=true
 rotate_left
 ·simp -implicitDefEqProofs [g1,AQ]
 by_cases g:vs=[]
 ·simp -implicitDefEqProofs [g1,g,AQ]
 have g':¬(vs.length:Int)=0:=by
  intro h0
  exact g (List.eq_nil_of_length_eq_zero (by omega))
 simp -implicitDefEqProofs [g1,g',g]
 refine Aa (hK h.exts Ta _ (fun t=> !decide (t∈lt)) hh.2 (ZU ER) (Abf Q0) (fun t=>h1 t lt (by unfold maxLen;omega))) ?_
 simp -implicitDefEqProofs
def fallback (h:Hello) (path:List Gu):Hello×Bool:=Fh h (Bj path h.versions) (Ff path (leftOf h.versions (Bj path h.versions)) h.exts)
abbrev LD (R:Rel):Prop:=∀(h:Hello) (path:List Gu),hB h→lnS Hw path→R [arg (CU h),.sl 1 4 path.length (path.flatMap CF)] [] (.tup [.agg (CU (fallback h path).1),B (fallback h path).2]) []
theorem AcI (path:List Gu) (vs:List Int) (l:List Ext):(Ff path vs l).length≤l.length:=by
 unfold Ff Aq
 split
 ·rw[List.length_map];exact List.length_filter_le _ _
 ·simp
theorem AqY (D:Dn) (hI:Eb (D Gi)) (hLV:Gc (D Aae)) (hL:WC (D ZN)) (hT:LA (D AjX)) (hP:JJ (D AhG)):LD (Body D Kk):=by
 intro h path hh hb
 simp -implicitDefEqProofs
 refine Aa (hI h hh) ?_
 by_cases g1:CP h=true
 rotate_left
 ·have e:fallback h path=(AQ,false):=by unfold fallback Fh;simp[g1]
  simp -implicitDefEqProofs [g1,e,AQ]
 have hvl:=hh.1
 have hxl:=hh.2.1
 simp -implicitDefEqProofs [g1]
 refine Aa (hLV path h.versions hb hh.1) ?_
 have hll:=Asa path h.versions
 have e:fallback h path=Fh h (Bj path h.versions) (Ff path (leftOf h.versions (Bj path h.versions)) h.exts):=rfl
 rw[e]
 generalize Bj path h.versions=lv at hll
 simp -implicitDefEqProofs
 refine Aa (hL h.versions lv hh.1 (by omega)) ?_
 have hl2:=K3 h.versions lv
 generalize leftOf h.versions lv=vs at hl2
 simp -implicitDefEqProofs
 refine Aa (hT path vs h.exts hb (by omega) hh.2) ?_
 have hl3:=AcI path vs h.exts
 generalize Ff path vs h.exts=lt at hl3
 simp -implicitDefEqProofs
 refine Aa (hP h lv lt hh (by omega) (by omega)) ?_
 generalize Fh h lv lt=r
 simp -implicitDefEqProofs
theorem Asg (D:Dn) (hLV:Gc (D Aa0)) (hL:WC (D OE)) (hT:LA (D AiJ)) (hP:JJ (D Agb)):LD (Body D Kj):=by
 intro h path hh hb
 have hvl:=hh.1
 have hxl:=hh.2.1
 simp -implicitDefEqProofs [hvl]
 refine Aa (hLV path h.versions hb hh.1) ?_
 have hll:=Asa path h.versions
 have e:fallback h path=Fh h (Bj path h.versions) (Ff path (leftOf h.versions (Bj path h.versions)) h.exts):=rfl
 rw[e]
 generalize Bj path h.versions=lv at hll
 simp -implicitDefEqProofs
 refine Aa (hL h.versions lv hh.1 (by omega)) ?_
 have hl2:=K3 h.versions lv
 generalize leftOf h.versions lv=vs at hl2
 simp -implicitDefEqProofs
 refine Aa (hT path vs h.exts hb (by omega) hh.2) ?_
 have hl3:=AcI path vs h.exts
 generalize Ff path vs h.exts=lt at hl3
 simp -implicitDefEqProofs
 refine Aa (hP h lv lt hh (by omega) (by omega)) ?_
 generalize Fh h lv lt=r
 simp -implicitDefEqProofs
theorem ADE {h:Hello} {lv lt:List Int} (hh:hB h):hB (Fh h lv lt).1:=by
 unfold Fh
 split
 ·exact⟨Nat.le_trans (K3 _ _) hh.1,UN hh.2 (fun t=> !decide (t∈lt))⟩
 ·exact AiP
theorem Ap0 {h:Hello} {path:List Gu} (hh:hB h):hB (fallback h path).1:=ADE hh
def Cr (h:Hello) (path:List Gu):Hello×Int×Bool:=
 if CP h=true then(if Dw h path=true then(h,1,true)else if(fallback h path).2&&Dw (fallback h path).1 path then((fallback h path).1,2,true)else(AQ,2,false))else(AQ,0,false)
abbrev LM (R:Rel):Prop:=∀(h:Hello) (path:List Gu),hB h→lnS Hw path→R [arg (CU h),.sl 1 4 path.length (path.flatMap CF)] [] (.tup [.agg (CU (Cr h path).1),I (Cr h path).2.1,B (Cr h path).2.2]) []
theorem Asf (D:Dn) (hI:Eb (D Gi)) (hW:FX (D Adu)) (hC:KI (D X6)) (hF:LD (D Zc)):LM (Body D Rl):=by
 intro h path hh hb
 simp -implicitDefEqProofs
 refine Aa (hI h hh) ?_
 by_cases g1:CP h=true
 rotate_left
 ·simp -implicitDefEqProofs [g1,Cr,AQ]
 simp -implicitDefEqProofs [g1]
 refine Aa (hW h path hh hb) ?_
 by_cases g2:Dw h path=true
 ·simp -implicitDefEqProofs [g2]
  refine Aa (hC h hh) ?_
  simp -implicitDefEqProofs [Cr,g1,g2]
 simp -implicitDefEqProofs [g2]
 refine Aa (hF h path hh hb) ?_
 have hr:=Ap0 (path:=path) hh
 have e:Cr h path=(if(fallback h path).2&&Dw (fallback h path).1 path then((fallback h path).1,2,true)else(AQ,2,false)):=by unfold Cr;rw[if_pos g1,if_neg g2]
 rw[e]
 generalize fallback h path=r at hr
 by_cases g3:r.2=true
 rotate_left
 ·simp -implicitDefEqProofs [g3,AQ]
 simp -implicitDefEqProofs [g3]
 refine Aa (hW r.1 path hr hb) ?_
 by_cases g4:Dw r.1 path=true
 ·simp -implicitDefEqProofs [g3,g4]
 ·simp -implicitDefEqProofs [g3,g4,AQ]
theorem Asl (D:Dn) (hI:Eb (D Hl)) (hW:FX (D Td)) (hC:KI (D WK)) (hF:LD (D Y8)):LM (Body D Ri):=by
 intro h path hh hb
 simp -implicitDefEqProofs
 refine Aa (hI h hh) ?_
 by_cases g1:CP h=true
 rotate_left
 ·simp -implicitDefEqProofs [g1,Cr,AQ]
 simp -implicitDefEqProofs [g1]
 refine Aa (hW h path hh hb) ?_
 by_cases g2:Dw h path=true
 ·simp -implicitDefEqProofs [g2]
  refine Aa (hC h hh) ?_
  simp -implicitDefEqProofs [Cr,g1,g2]
 simp -implicitDefEqProofs [g2]
 refine Aa (hF h path hh hb) ?_
 have hr:=Ap0 (path:=path) hh
 have e:Cr h path=(if(fallback h path).2&&Dw (fallback h path).1 path then((fallback h path).1,2,true)else(AQ,2,false)):=by unfold Cr;rw[if_pos g1,if_neg g2]
 rw[e]
 generalize fallback h path=r at hr
 by_cases g3:r.2=true
 rotate_left
 ·simp -implicitDefEqProofs [g3,AQ]
 simp -implicitDefEqProofs [g3]
 refine Aa (hW r.1 path hr hb) ?_
 by_cases g4:Dw r.1 path=true
 ·simp -implicitDefEqProofs [g3,g4]
 ·simp -implicitDefEqProofs [g3,g4,AQ]
theorem Av6 {h:Hello} {path:List Gu} (hh:hB h):hB (Cr h path).1:=by
 unfold Cr
 split
 ·split
  ·exact hh
  ·split
   ·exact Ap0 hh
   ·exact AiP
 ·exact AiP
end Go.Eng.T
namespace Go.Eng.T
set_option maxRecDepth 20000
set_option maxHeartbeats 1000000
def Ib:List Int→Int→Nat
 | [],_=>0
 | x::r,v=>if x<v then Ib r v+1 else 0
theorem Awp:∀(l:List Int) (v:Int),Ib l v≤l.length
 | [],_=>Nat.le_refl 0
 | x::r,v=>by
  have:=Awp r v
  simp only[Ib,List.length_cons]
  split<;>omega
theorem AyA {l:List Int} {v:Int} {j:Nat} (h:j<l.length) (hv:l[j]<v):Ib (l.drop j) v=Ib (l.drop (j+1)) v+1:=by
 rw[List.drop_eq_getElem_cons h]
 simp only[Ib,if_pos hv]
theorem AnJ {l:List Int} {v:Int} {j:Nat} (h:j<l.length) (hv:¬l[j]<v):Ib (l.drop j) v=0:=by
 rw[List.drop_eq_getElem_cons h]
 simp only[Ib,if_neg hv]
theorem ABn {l:List Int} {v:Int} {j:Nat} (h:l.length≤j):Ib (l.drop j) v=0:=by rw[List.drop_eq_nil_of_le h];rfl
def Auv (l:List Int) (i:Nat) (v:Int):List Int:=l.take i++v::l.drop i
theorem ABF {l:List Int} {i:Nat} {v:Int} (h:i≤l.length):(Auv l i v).length=l.length+1:=by simp[Auv];omega
def TV (l:List Int) (v:Int):List Int:=if l[Ib l v]? =some v then l else Auv l (Ib l v) v
theorem ABj (l:List Int) (v:Int):(TV l v).length≤l.length+1:=by
 unfold TV
 split
 ·omega
 ·rw[ABF (Awp l v)];omega
abbrev Apd (R:Rel):Prop:=∀(l:List Int) (v:Int),l.length≤4194304→R [.sl 1 1 l.length (ints l),I v] [] (.sl 0 1 (TV l v).length (ints (TV l v))) []
abbrev Afn (R:Rel):Prop:=∀(l:List Int) (v:Int),l.length≤4194304→R [.arr 0,I v] [.arr 1 0 l.length (ints l)] (.sl 0 1 (TV l v).length (ints (TV l v))) [.dead]
abbrev AKh (R:Rel):Prop:=∀(l:List Int) (i:Nat) (v:Int),l.length≤4194304→i≤l.length→R [.arr 0,I i,.arr 1] [.arr 1 0 l.length (ints l),.arr 1 0 1 (ints [v])] (.sl 0 1 (Auv l i v).length (ints (Auv l i v))) [.dead,.dead]
theorem ADj (D:Dn):Apd (Body D Yb):=by
 intro l v hl
 simp -implicitDefEqProofs
 refine Ae (fun k s=>∃j,j+k=l.length∧Ib l v=j+Ib (l.drop j) v∧s=⟨[.sl 1 1 l.length (ints l),I v,.undef,I j,.undef,.undef],[.free,.free,.free,.free,.free,.free,.free]⟩) ?_ (l.length) _ ⟨0,by simp,by simp,by simp⟩
 intro k s ⟨j,hj,hp,hs⟩
 subst hs
 by_cases hjn:j<l.length
 ·have hw:IntKind.i64.wrap ((j:Int)+1)=(j+1:Nat):=by rw[Ad (by omega) (by omega)];simp
  by_cases hv:l[j]<v
  ·have hst:=AyA hjn hv
   simp -implicitDefEqProofs [hjn,hv]
   exact⟨k-1,by omega,j+1,by omega,by omega,by simp[hw]⟩
  ·have hst:=AnJ hjn hv
   have hpe:Ib l v=j:=by omega
   have b1:l.length*8≤1099511627776:=by omega
   have b2:j*8≤1099511627776:=by omega
   have b3:(j+1)*8≤1099511627776:=by omega
   have b4:(j+1+(l.length-j))*8≤1099511627776:=by omega
   have hjl:j≤l.length:=by omega
   have hjl':(j:Int)≤l.length:=by omega
   have hmin:min j l.length=j:=by omega
   have htk:List.take (l.length-j) (List.drop j l)=List.drop j l:=List.take_of_length_le (by simp)
   by_cases he:l[j]=v
   ·have e:TV l v=l:=by unfold TV;rw[hpe,List.getElem?_eq_getElem hjn,he,if_pos rfl]
    rw[e]
    simp -implicitDefEqProofs [hjn,hv,he,b1]
   ·have e:TV l v=l.take j++v::l.drop j:=by unfold TV Auv;rw[hpe,List.getElem?_eq_getElem hjn,if_neg (by simpa using he)]
    have el:(TV l v).length=j+1+(l.length-j):=by rw[e];simp;omega
    simp -implicitDefEqProofs [hjn,hv,he,hjl,hjl',hmin,b2,b3,b4]
    rw[el,e]
    simp[htk,Ake]
 ·have hst:=ABn (v:=v) (l:=l) (j:=j) (by omega)
  have hpe:Ib l v=j:=by omega
  have b1:l.length*8≤1099511627776:=by omega
  have b2:j*8≤1099511627776:=by omega
  have b3:(j+1)*8≤1099511627776:=by omega
  have b4:(j+1+(l.length-j))*8≤1099511627776:=by omega
  have hjl:j≤l.length:=by omega
  have hjl':(j:Int)≤l.length:=by omega
  have hmin:min j l.length=j:=by omega
  have htk:List.take (l.length-j) (List.drop j l)=List.drop j l:=List.take_of_length_le (by simp)
  have e:TV l v=l.take j++v::l.drop j:=by unfold TV Auv;rw[hpe,List.getElem?_eq_none (by omega),if_neg (by simp)]
  have el:(TV l v).length=j+1+(l.length-j):=by rw[e];simp;omega
  simp -implicitDefEqProofs [hjn,hjl,hjl',hmin,b2,b3,b4]
  rw[el,e]
  simp[htk,Ake]
theorem AJc (D:Dn) (hI:AKh (D Alw)):Afn (Body D Ue):=by
 intro l v hl
 simp -implicitDefEqProofs
 refine Ae (fun k s=>∃j,j+k=l.length∧Ib l v=j+Ib (l.drop j) v∧s=⟨[.arr 0,I v,.undef,I j,.undef,.undef],[.arr 1 0 l.length (ints l),.free,.free]⟩) ?_ (l.length) _ ⟨0,by simp,by simp,by simp⟩
 intro k s ⟨j,hj,hp,hs⟩
 subst hs
 by_cases hjn:j<l.length
 ·have hw:IntKind.i64.wrap ((j:Int)+1)=(j+1:Nat):=by rw[Ad (by omega) (by omega)];simp
  by_cases hv:l[j]<v
  ·have hst:=AyA hjn hv
   simp -implicitDefEqProofs [hjn,hv]
   exact⟨k-1,by omega,j+1,by omega,by omega,by simp[hw]⟩
  ·have hst:=AnJ hjn hv
   have hpe:Ib l v=j:=by omega
   have b1:l.length*8≤1099511627776:=by omega
   have b2:j*8≤1099511627776:=by omega
   have b3:(j+1)*8≤1099511627776:=by omega
   have b4:(j+1+(l.length-j))*8≤1099511627776:=by omega
   have hjl:j≤l.length:=by omega
   have hjl':(j:Int)≤l.length:=by omega
   have hmin:min j l.length=j:=by omega
   have htk:List.take (l.length-j) (List.drop j l)=List.drop j l:=List.take_of_length_le (by simp)
   by_cases he:l[j]=v
   ·have e:TV l v=l:=by unfold TV;rw[hpe,List.getElem?_eq_getElem hjn,he,if_pos rfl]
    rw[e]
    simp -implicitDefEqProofs [hjn,hv,he,b1]
   ·have e:TV l v=Auv l j v:=by unfold TV;rw[hpe,List.getElem?_eq_getElem hjn,if_neg (by simpa using he)]
    rw[e]
    simp -implicitDefEqProofs [hjn,hv,he]
    refine Aa (hI l j v hl hjl) ?_
    simp -implicitDefEqProofs [AF5]
 ·have hst:=ABn (v:=v) (l:=l) (j:=j) (by omega)
  have hpe:Ib l v=j:=by omega
  have b1:l.length*8≤1099511627776:=by omega
  have b2:j*8≤1099511627776:=by omega
  have b3:(j+1)*8≤1099511627776:=by omega
  have b4:(j+1+(l.length-j))*8≤1099511627776:=by omega
  have hjl:j≤l.length:=by omega
  have hjl':(j:Int)≤l.length:=by omega
  have hmin:min j l.length=j:=by omega
  have htk:List.take (l.length-j) (List.drop j l)=List.drop j l:=List.take_of_length_le (by simp)
  have e:TV l v=Auv l j v:=by unfold TV;rw[hpe,List.getElem?_eq_none (by omega),if_neg (by simp)]
  rw[e]
  simp -implicitDefEqProofs [hjn]
  refine Aa (hI l j v hl hjl) ?_
  simp -implicitDefEqProofs [AF5]
end Go.Eng.T
namespace Go.Eng.T
set_option maxRecDepth 20000
set_option maxHeartbeats 1000000
def AG7 {α:Type} (f:α→α) (xs:List α) (j:Nat):List α:=(xs.take j).map f++xs.drop j
section
variable {α:Type} {f:α→α} {xs:List α} {j:Nat}
theorem ANo:AG7 f xs 0=xs:=by simp[AG7]
theorem ANz (h:xs.length≤j):AG7 f xs j=xs.map f:=by simp[AG7,List.take_of_length_le h,List.drop_eq_nil_of_le h]
@[simp] theorem AGX (h:j≤xs.length):(AG7 f xs j).length=xs.length:=by simp[AG7];omega
theorem AMX (h:j<xs.length):(AG7 f xs j)[j]'(by rw[AGX (by omega)];exact h)=xs[j]:=by
 unfold AG7
 have hl:((xs.take j).map f).length=j:=by simp;omega
 have hm:min j xs.length=j:=by omega
 rw[List.getElem_append_right (by omega)]
 simp[hm]
theorem AM0 (h:j<xs.length):(AG7 f xs j).set j (f xs[j])=AG7 f xs (j+1):=by
 unfold AG7
 have hl:((xs.take j).map f).length=j:=by simp;omega
 have ht:xs.take (j+1)=xs.take j++ [xs[j]]:=by simp
 rw[List.set_append_right _ _ (by omega),hl,Nat.sub_self,ht,List.map_append,List.drop_eq_getElem_cons h,List.set_cons_zero,List.append_assoc]
 rfl
theorem AkA (h:j<xs.length) (hf:f xs[j]=xs[j]):AG7 f xs (j+1)=AG7 f xs j:=by
 rw[←AM0 h,hf]
 have:=AMX (f:=f) h
 conv=>lhs;rw[←this]
 simp
end
def D6 (w:World) (e:AL):AL:=if 0<BJ w.server (AB3 e.versions w.rollout.version)then⟨AB3 e.versions w.rollout.version,e.tags,e.path,e.cls⟩else e
def leave (w:World):World:={w with ends:=w.ends.map (D6 w),stage:=[]}
abbrev IQ (R:Rel):Prop:=∀w:World,Ay w≤4194304→R [arg (EF w)] [] (.agg (EF (leave w))) []
theorem ANX (a:List Int) (v:Int):(AB3 a v).length≤a.length:=List.length_filter_le _ _
theorem Agk {w:World} (h:Ay w≤4194304) {j:Nat} (hj:j<w.ends.length):w.ends[j].versions.length≤4194304:=by
 have:=size_at (f:=Ac) hj
 have e:Ac w.ends[j]=w.ends[j].versions.length+w.ends[j].tags.length+Bw Ct w.ends[j].path:=rfl
 unfold Ay at h
 omega
theorem AhP {w:World} (h:Ay w≤4194304):w.server.length≤4194304:=by unfold Ay at h;omega
theorem AMH (D:Dn) (hC:Ef (D ACA)) (hW:GL (D AxS)) (hB:EX (D NC)):IQ (Body D ALo):=by
 intro w h
 have hl:=JQ h
 simp -implicitDefEqProofs
 refine Aa (hC w h) ?_
 simp -implicitDefEqProofs
 refine Ae (fun k s=>∃j v5 o9,j+k=w.ends.length∧s=⟨[.undef,.ptr 0 0,.ptr 1 0,.ptr 8 0,.sc (.int .i64 j),v5,.undef,.undef],[.var ((EF w).map (AZ 1)),.var [.nil 1,.nil 1,.sc (.int .i64 0),.nil 4,.sc (.int .i64 0),.nil 1,.sc (.int .i64 0),.sc (.bool false),.sc (.int .i64 0),.sc (.int .i64 0),.nil 5,.nil 8,.sc (.int .i64 0),.sc (.int .i64 0),.sc (.int .i64 0)],.arr 1 0 w.server.length (ints w.server),.arr 1 0 w.tags.length (ints w.tags),.arr 4 0 w.ends.length ((AG7 (D6 w) w.ends j).flatMap Ak),.arr 1 0 w.rollout.stages.length (ints w.rollout.stages),.arr 5 0 w.stage.length (w.stage.flatMap AP),.arr 8 0 w.log.length (w.log.flatMap Ar),.var [.arr 2,.arr 3,.sc (.int .i64 w.key),.arr 4,.sc (.int .i64 w.rollout.version),.arr 5,.sc (.int .i64 w.rollout.pos),.sc (.bool w.rollout.off),.sc (.int .i64 w.least),.sc (.int .i64 w.percent),.arr 6,.arr 7,.sc (.int .i64 w.now),.sc (.int .i64 w.hurt),.sc (.int .i64 w.reached)],o9,.free]⟩) ?_ w.ends.length _ ⟨0,by simp[ANo]⟩
 intro k s ⟨j,v5,o9,hj,hs⟩
 subst hs
 by_cases hjn:j<w.ends.length
 ·have hw:IntKind.i64.wrap ((j:Int)+1)=(j+1:Nat):=by rw[Ad (by omega) (by omega)];simp
  have hjl:j≤w.ends.length:=by omega
  have hset:=AM0 (f:=D6 w) hjn
  have hg:=AMX (f:=D6 w) hjn
  have hvl:=Agk h hjn
  have hwl:=ANX w.ends[j].versions w.rollout.version
  have hf:j*4<w.ends.length*4:=by omega
  simp -implicitDefEqProofs [hjn,hjl,hg]
  refine Aa (hW w.ends[j].versions _ hvl) ?_
  simp -implicitDefEqProofs
  refine Aa (hB w.server _ (AhP h) (by omega)) ?_
  by_cases h1:0<BJ w.server (AB3 w.ends[j].versions w.rollout.version)
  ·have e:D6 w w.ends[j]=⟨AB3 w.ends[j].versions w.rollout.version,w.ends[j].tags,w.ends[j].path,w.ends[j].cls⟩:=by unfold D6;rw[if_pos h1]
   rw[e]at hset
   simp -implicitDefEqProofs [h1,hjn,hjl,hg,hf]
   exact⟨k-1,by omega,j+1,by omega,by simp[hw],by rw[←hset]⟩
  ·have e:D6 w w.ends[j]=w.ends[j]:=by unfold D6;rw[if_neg h1]
   have hsame:=AkA hjn e
   simp -implicitDefEqProofs [h1]
   exact⟨k-1,by omega,j+1,by omega,by simp[hw],by rw[hsame]⟩
 ·have hx:=ANz (f:=D6 w) (xs:=w.ends) (j:=j) (by omega)
  simp -implicitDefEqProofs [hjn,hx,leave]
theorem AIb (D:Dn) (hC:Ef (D AyU)) (hW:Aj2 (D OE)) (hB:EX (D Ou)):IQ (Body D Um):=by
 intro w h
 have hl:=JQ h
 simp -implicitDefEqProofs
 refine Aa (hC w h) ?_
 simp -implicitDefEqProofs
 refine Ae (fun k s=>∃j v5 v6 v7 o9 o10 o11,j+k=w.ends.length∧s=⟨[.undef,.ptr 0 0,.ptr 1 0,.ptr 8 0,.sc (.int .i64 w.rollout.version),v5,v6,v7,.arr 4,.sc (.int .i64 w.ends.length),.sc (.int .i64 j),.undef,.undef],[.var ((EF w).map (AZ 1)),.var [.nil 1,.nil 1,.sc (.int .i64 0),.nil 4,.sc (.int .i64 0),.nil 1,.sc (.int .i64 0),.sc (.bool false),.sc (.int .i64 0),.sc (.int .i64 0),.nil 5,.nil 8,.sc (.int .i64 0),.sc (.int .i64 0),.sc (.int .i64 0)],.arr 1 0 w.server.length (ints w.server),.arr 1 0 w.tags.length (ints w.tags),.arr 4 0 w.ends.length ((AG7 (D6 w) w.ends j).flatMap Ak),.arr 1 0 w.rollout.stages.length (ints w.rollout.stages),.arr 5 0 w.stage.length (w.stage.flatMap AP),.arr 8 0 w.log.length (w.log.flatMap Ar),.var [.arr 2,.arr 3,.sc (.int .i64 w.key),.arr 4,.sc (.int .i64 w.rollout.version),.arr 5,.sc (.int .i64 w.rollout.pos),.sc (.bool w.rollout.off),.sc (.int .i64 w.least),.sc (.int .i64 w.percent),.arr 6,.arr 7,.sc (.int .i64 w.now),.sc (.int .i64 w.hurt),.sc (.int .i64 w.reached)],o9,o10,o11]⟩) ?_ w.ends.length _ ⟨0,by simp[ANo]⟩
 intro k s ⟨j,v5,v6,v7,o9,o10,o11,hj,hs⟩
 subst hs
 by_cases hjn:j<w.ends.length
 ·have hw:IntKind.i64.wrap ((j:Int)+1)=(j+1:Nat):=by rw[Ad (by omega) (by omega)];simp
  have hjl:j≤w.ends.length:=by omega
  have hset:=AM0 (f:=D6 w) hjn
  have hg:=AMX (f:=D6 w) hjn
  have hvl:=Agk h hjn
  have hwl:=ANX w.ends[j].versions w.rollout.version
  have hf:j*4<w.ends.length*4:=by omega
  simp -implicitDefEqProofs [hjn,hjl,hg]
  refine Aa (hW w.ends[j].versions _ hvl) ?_
  by_cases h0:(AB3 w.ends[j].versions w.rollout.version).length<w.ends[j].versions.length
  ·have h0':((AB3 w.ends[j].versions w.rollout.version).length:Int)<w.ends[j].versions.length:=by omega
   simp -implicitDefEqProofs [h0,h0']
   refine Aa (hB w.server _ (AhP h) (by omega)) ?_
   by_cases h1:0<BJ w.server (AB3 w.ends[j].versions w.rollout.version)
   ·have e:D6 w w.ends[j]=⟨AB3 w.ends[j].versions w.rollout.version,w.ends[j].tags,w.ends[j].path,w.ends[j].cls⟩:=by unfold D6;rw[if_pos h1]
    rw[e]at hset
    simp -implicitDefEqProofs [h1,hjn,hjl,hg,hf]
    exact⟨k-1,by omega,j+1,by omega,by simp[hw],by rw[←hset]⟩
   ·have e:D6 w w.ends[j]=w.ends[j]:=by unfold D6;rw[if_neg h1]
    have hsame:=AkA hjn e
    simp -implicitDefEqProofs [h1]
    exact⟨k-1,by omega,j+1,by omega,by simp[hw],by rw[hsame]⟩
  ·have h0':¬((AB3 w.ends[j].versions w.rollout.version).length:Int)<w.ends[j].versions.length:=by omega
   have e:D6 w w.ends[j]=w.ends[j]:=by
    have hall:AB3 w.ends[j].versions w.rollout.version=w.ends[j].versions:=List.filter_eq_self.2 (by
     have:=List.length_filter_eq_length_iff (p:=fun x=> !decide (x=w.rollout.version)) (l:=w.ends[j].versions)
     exact this.1 (by unfold AB3 at h0 hwl;omega))
    unfold D6
    rw[hall]
    split<;>rfl
   have hsame:=AkA hjn e
   simp -implicitDefEqProofs [h0,h0']
   exact⟨k-1,by omega,j+1,by omega,by simp[hw],by rw[hsame]⟩
 ·have hx:=ANz (f:=D6 w) (xs:=w.ends) (j:=j) (by omega)
  simp -implicitDefEqProofs [hjn,hx,leave]
end Go.Eng.T
namespace Go.Eng.T
end Go.Eng.T
namespace Go.Eng.T
set_option maxRecDepth 20000
set_option maxHeartbeats 2000000
def AEO {α:Type} (f:Nat→α→α) (xs:List α) (j:Nat):List α:=xs.mapIdx fun i x=>if i<j then f i x else x
section
variable {α:Type} {f:Nat→α→α} {xs:List α} {j:Nat}
@[simp] theorem AGH:(AEO f xs j).length=xs.length:=by simp[AEO]
theorem AM9:AEO f xs 0=xs:=by
 apply List.ext_getElem
 ·simp
 ·intro n h1 h2;simp[AEO]
theorem AjU (h:xs.length≤j):AEO f xs j=xs.mapIdx f:=by
 apply List.ext_getElem
 ·simp
 ·intro n h1 h2
  simp only[AGH]at h1
  simp only[AEO,List.getElem_mapIdx]
  rw[if_pos (by omega)]
theorem AdT (h:j<xs.length):(AEO f xs j)[j]'(by rw[AGH];exact h)=xs[j]:=by simp[AEO]
theorem AdW (h:j<xs.length):(AEO f xs j).set j (f j xs[j])=AEO f xs (j+1):=by
 apply List.ext_getElem
 ·simp
 ·intro n h1 h2
  simp only[List.length_set,AGH]at h1
  rw[List.getElem_set]
  simp only[AEO,List.getElem_mapIdx]
  by_cases hn:j=n
  ·subst hn;simp
  ·rw[if_neg hn]
   by_cases hl:n<j
   ·rw[if_pos hl,if_pos (by omega)]
   ·rw[if_neg hl,if_neg (by omega)]
theorem AM7 (h:j<xs.length) (hf:f j xs[j]=xs[j]):AEO f xs (j+1)=AEO f xs j:=by
 rw[←AdW h,hf]
 have:=AdT (f:=f) h
 conv=>lhs;rw[←this]
 simp
end
def ACe (w:World) (i:Nat) (e:AL):AL:=if isIn w.rollout i w.ends.length=true then⟨TV e.versions w.rollout.version,e.tags,e.path,e.cls⟩else e
def AAy (w:World):Bool:=Bp w.rollout&& !w.rollout.off
def enter (w:World):World:=if AAy w=true then {w with ends:=w.ends.mapIdx (ACe w),stage:=[],reached:=max w.reached (w.rollout.pos+1)}else w
abbrev Je (R:Rel):Prop:=∀w:World,Ay w≤4194304→R [arg (EF w)] [] (.agg (EF (enter w))) []
abbrev Ath (R:Rel):Prop:=∀a b:Int,R [I a,I b] [] (I (max a b)) []
abbrev AvR (R:Rel):Prop:=∀a b:Int,R [I a,I b] [] (I (min a b)) []
theorem AFB (D:Dn):Ath (Body D Ad9):=by
 intro a b
 by_cases h:a<b
 ·have e:max a b=b:=by omega
  simp -implicitDefEqProofs [h,e]
 ·have e:max a b=a:=by omega
  simp -implicitDefEqProofs [h,e]
theorem AFf (D:Dn):AvR (Body D AeB):=by
 intro a b
 by_cases h:a<b
 ·have e:min a b=a:=by omega
  simp -implicitDefEqProofs [h,e]
  intro;omega
 ·have e:min a b=b:=by omega
  simp -implicitDefEqProofs [h,e]
  intro;omega
theorem ANc (D:Dn) (hC:Ef (D ACA)) (hR:FR (D Qo)) (hI:Aft (D AFo)) (hP:Apd (D ArV)) (hM:Ath (D AnS)):Je (Body D H7):=by
 intro w h
 have hl:=JQ h
 have hr:=Ro h
 simp -implicitDefEqProofs
 refine Aa (hC w h) ?_
 simp -implicitDefEqProofs
 refine Aa (hR w.rollout hr) ?_
 by_cases h1:Bp w.rollout=true
 rotate_left
 ·have e:enter w=w:=by unfold enter AAy;rw[if_neg (by simp[h1])]
  simp -implicitDefEqProofs [h1,e]
 by_cases h2:w.rollout.off=true
 ·have e:enter w=w:=by unfold enter AAy;rw[if_neg (by simp[h2])]
  simp -implicitDefEqProofs [h1,h2,e]
 have h2':w.rollout.off=false:=by simpa using h2
 have e:enter w={w with ends:=w.ends.mapIdx (ACe w),stage:=[],reached:=max w.reached (w.rollout.pos+1)}:=by unfold enter AAy;rw[if_pos (by simp[h1,h2'])]
 have hp:=ArH h1
 have hwp:IntKind.i64.wrap (w.rollout.pos+1)=w.rollout.pos+1:=Ad (by omega) (by omega)
 simp -implicitDefEqProofs [h1,h2]
 refine Ae (fun k s=>∃j o9,j+k=w.ends.length∧s=⟨[.undef,.ptr 0 0,.ptr 1 0,.ptr 8 0,I j,.undef,.undef,.undef],[.var ((EF w).map (AZ 1)),.var [.nil 1,.nil 1,.sc (.int .i64 0),.nil 4,.sc (.int .i64 0),.nil 1,.sc (.int .i64 0),.sc (.bool false),.sc (.int .i64 0),.sc (.int .i64 0),.nil 5,.nil 8,.sc (.int .i64 0),.sc (.int .i64 0),.sc (.int .i64 0)],.arr 1 0 w.server.length (ints w.server),.arr 1 0 w.tags.length (ints w.tags),.arr 4 0 w.ends.length ((AEO (ACe w) w.ends j).flatMap Ak),.arr 1 0 w.rollout.stages.length (ints w.rollout.stages),.arr 5 0 w.stage.length (w.stage.flatMap AP),.arr 8 0 w.log.length (w.log.flatMap Ar),.var [.arr 2,.arr 3,.sc (.int .i64 w.key),.arr 4,.sc (.int .i64 w.rollout.version),.arr 5,.sc (.int .i64 w.rollout.pos),.sc (.bool w.rollout.off),.sc (.int .i64 w.least),.sc (.int .i64 w.percent),.arr 6,.arr 7,.sc (.int .i64 w.now),.sc (.int .i64 w.hurt),.sc (.int .i64 w.reached)],o9,.free]⟩) ?_ (w.ends.length) _ ⟨0,.free,by simp,by simp[AM9,h2']⟩
 intro k s ⟨j,o9,hj,hs⟩
 subst hs
 by_cases hjn:j<w.ends.length
 ·have hw:IntKind.i64.wrap ((j:Int)+1)=(j+1:Nat):=by rw[Ad (by omega) (by omega)];simp
  have hset:=AdW (f:=ACe w) hjn
  have hg:=AdT (f:=ACe w) hjn
  have hvl:=Agk h hjn
  have hf:j*4<w.ends.length*4:=by omega
  simp -implicitDefEqProofs [hjn]
  refine Aa (hI w.rollout j w.ends.length hr) ?_
  by_cases h3:isIn w.rollout j w.ends.length=true
  ·have e3:ACe w j w.ends[j]=⟨TV w.ends[j].versions w.rollout.version,w.ends[j].tags,w.ends[j].path,w.ends[j].cls⟩:=by unfold ACe;rw[if_pos h3]
   rw[e3]at hset
   simp -implicitDefEqProofs [h3,hjn,hg,hf]
   refine Aa (hP w.ends[j].versions _ hvl) ?_
   simp -implicitDefEqProofs [hjn,hg,hf]
   exact⟨k-1,by omega,j+1,by omega,by simp[hw],by rw[←hset]⟩
  ·have e3:ACe w j w.ends[j]=w.ends[j]:=by unfold ACe;rw[if_neg h3]
   have hsame:=AM7 hjn e3
   simp -implicitDefEqProofs [h3]
   exact⟨k-1,by omega,j+1,by omega,by simp[hw],by rw[hsame]⟩
 ·have hx:=AjU (f:=ACe w) (xs:=w.ends) (j:=j) (by omega)
  simp -implicitDefEqProofs [hjn,hwp,hx]
  refine Aa (hM _ _) ?_
  simp -implicitDefEqProofs [e,h2']
theorem AJi (D:Dn) (hC:Ef (D AyU)) (hR:FR (D Qk)) (hI:Aft (D AFv)) (hP:Afn (D AwE)):Je (Body D Yh):=by
 intro w h
 have hl:=JQ h
 have hr:=Ro h
 simp -implicitDefEqProofs
 refine Aa (hC w h) ?_
 simp -implicitDefEqProofs
 refine Aa (hR w.rollout hr) ?_
 by_cases h1:Bp w.rollout=true
 rotate_left
 ·have e:enter w=w:=by unfold enter AAy;rw[if_neg (by simp[h1])]
  simp -implicitDefEqProofs [h1,e]
 by_cases h2:w.rollout.off=true
 ·have e:enter w=w:=by unfold enter AAy;rw[if_neg (by simp[h2])]
  simp -implicitDefEqProofs [h1,h2,e]
 have h2':w.rollout.off=false:=by simpa using h2
 have e:enter w={w with ends:=w.ends.mapIdx (ACe w),stage:=[],reached:=max w.reached (w.rollout.pos+1)}:=by unfold enter AAy;rw[if_pos (by simp[h1,h2'])]
 have hp:=ArH h1
 have hwp:IntKind.i64.wrap (w.rollout.pos+1)=w.rollout.pos+1:=Ad (by omega) (by omega)
 simp -implicitDefEqProofs [h1,h2]
 refine Ae (fun k s=>∃j v5 o10 o11,j+k=w.ends.length∧s=⟨[.undef,.ptr 0 0,.ptr 1 0,.ptr 8 0,.ptr 9 0,v5,.undef,I w.ends.length,I j,.undef,.undef],[.var ((EF w).map (AZ 1)),.var [.nil 1,.nil 1,.sc (.int .i64 0),.nil 4,.sc (.int .i64 0),.nil 1,.sc (.int .i64 0),.sc (.bool false),.sc (.int .i64 0),.sc (.int .i64 0),.nil 5,.nil 8,.sc (.int .i64 0),.sc (.int .i64 0),.sc (.int .i64 0)],.arr 1 0 w.server.length (ints w.server),.arr 1 0 w.tags.length (ints w.tags),.arr 4 0 w.ends.length ((AEO (ACe w) w.ends j).flatMap Ak),.arr 1 0 w.rollout.stages.length (ints w.rollout.stages),.arr 5 0 w.stage.length (w.stage.flatMap AP),.arr 8 0 w.log.length (w.log.flatMap Ar),.var [.arr 2,.arr 3,.sc (.int .i64 w.key),.arr 4,.sc (.int .i64 w.rollout.version),.arr 5,.sc (.int .i64 w.rollout.pos),.sc (.bool w.rollout.off),.sc (.int .i64 w.least),.sc (.int .i64 w.percent),.arr 6,.arr 7,.sc (.int .i64 w.now),.sc (.int .i64 w.hurt),.sc (.int .i64 w.reached)],.var [.sc (.int .i64 w.rollout.version),.sl 1 1 w.rollout.stages.length (ints w.rollout.stages),.sc (.int .i64 w.rollout.pos),.sc (.bool w.rollout.off)],o10,o11]⟩) ?_ (w.ends.length) _ ⟨0,.undef,.free,.free,by simp,by simp[AM9,h2']⟩
 intro k s ⟨j,v5,o10,o11,hj,hs⟩
 subst hs
 by_cases hjn:j<w.ends.length
 ·have hw:IntKind.i64.wrap ((j:Int)+1)=(j+1:Nat):=by rw[Ad (by omega) (by omega)];simp
  have hset:=AdW (f:=ACe w) hjn
  have hg:=AdT (f:=ACe w) hjn
  have hvl:=Agk h hjn
  have hf:j*4<w.ends.length*4:=by omega
  simp -implicitDefEqProofs [hjn]
  refine⟨by cases o11<;>rfl,?_⟩
  refine Aa (hI w.rollout j w.ends.length hr) ?_
  by_cases h3:isIn w.rollout j w.ends.length=true
  ·have e3:ACe w j w.ends[j]=⟨TV w.ends[j].versions w.rollout.version,w.ends[j].tags,w.ends[j].path,w.ends[j].cls⟩:=by unfold ACe;rw[if_pos h3]
   rw[e3]at hset
   simp -implicitDefEqProofs [h3,hjn,hg,hf]
   refine Aa (hP w.ends[j].versions _ hvl) ?_
   simp -implicitDefEqProofs [hjn,hg,hf]
   exact⟨k-1,by omega,j+1,by omega,by simp[hw],by rw[←hset]⟩
  ·have e3:ACe w j w.ends[j]=w.ends[j]:=by unfold ACe;rw[if_neg h3]
   have hsame:=AM7 hjn e3
   simp -implicitDefEqProofs [h3]
   exact⟨k-1,by omega,j+1,by omega,by simp[hw],by rw[hsame]⟩
 ·have hx:=AjU (f:=ACe w) (xs:=w.ends) (j:=j) (by omega)
  by_cases hmx:w.reached<w.rollout.pos+1
  ·have em:max w.reached (w.rollout.pos+1)=w.rollout.pos+1:=by omega
   simp -implicitDefEqProofs [hjn,hwp,hx,e,h2',hmx,em]
  ·have em:max w.reached (w.rollout.pos+1)=w.reached:=by omega
   simp -implicitDefEqProofs [hjn,hwp,hx,e,h2',hmx,em]
def CO (w:World):World×Bool:=if decide (w.reached=0)&&AAy w then(enter w,true)else(w,false)
abbrev OP (R:Rel):Prop:=∀w:World,Ay w≤4194304→R [arg (EF w)] [] (.tup [.agg (EF (CO w).1),B (CO w).2]) []
theorem AeZ (D:Dn) (hC:Ef (D ACA)) (hR:FR (D Qo)) (hE:Je (D Ax6)):OP (Body D ALD):=by
 intro w h
 have hr:=Ro h
 by_cases h0:w.reached=0
 rotate_left
 ·have e:CO w=(w,false):=by unfold CO;simp[h0]
  simp -implicitDefEqProofs [h0]
  refine Aa (hC w h) ?_
  simp -implicitDefEqProofs [e]
 simp -implicitDefEqProofs [h0]
 refine Aa (hR w.rollout hr) ?_
 by_cases h1:Bp w.rollout=true
 rotate_left
 ·have e:CO w=(w,false):=by unfold CO AAy;simp[h1]
  simp -implicitDefEqProofs [h1]
  have hcs:=hC w h
  simp -implicitDefEqProofs [h0]at hcs
  refine Aa hcs ?_
  clear hcs
  simp -implicitDefEqProofs [e,h0]
 by_cases h2:w.rollout.off=true
 ·have e:CO w=(w,false):=by unfold CO AAy;simp[h2]
  simp -implicitDefEqProofs [h1,h2]
  have hcs:=hC w h
  simp -implicitDefEqProofs [h0,h2]at hcs
  refine Aa hcs ?_
  clear hcs
  simp -implicitDefEqProofs [e,h0,h2]
 have h2':w.rollout.off=false:=by simpa using h2
 have e:CO w=(enter w,true):=by unfold CO AAy;simp[h0,h1,h2']
 simp -implicitDefEqProofs [h1,h2]
 have hcs:=hE w h
 simp -implicitDefEqProofs [h0,h2]at hcs
 refine Aa hcs ?_
 clear hcs
 simp -implicitDefEqProofs [e]
theorem AJF (D:Dn) (hC:Ef (D AyU)) (hR:FR (D Qk)) (hE:Je (D Axl)):OP (Body D AbU):=by
 intro w h
 have hr:=Ro h
 by_cases h0:w.reached=0
 rotate_left
 ·have e:CO w=(w,false):=by unfold CO;simp[h0]
  simp -implicitDefEqProofs [h0]
  refine Aa (hC w h) ?_
  simp -implicitDefEqProofs [e]
 simp -implicitDefEqProofs [h0]
 refine Aa (hR w.rollout hr) ?_
 by_cases h1:Bp w.rollout=true
 rotate_left
 ·have e:CO w=(w,false):=by unfold CO AAy;simp[h1]
  simp -implicitDefEqProofs [h1]
  have hcs:=hC w h
  simp -implicitDefEqProofs [h0]at hcs
  refine Aa hcs ?_
  clear hcs
  simp -implicitDefEqProofs [e,h0]
 by_cases h2:w.rollout.off=true
 ·have e:CO w=(w,false):=by unfold CO AAy;simp[h2]
  simp -implicitDefEqProofs [h1,h2]
  have hcs:=hC w h
  simp -implicitDefEqProofs [h0,h2]at hcs
  refine Aa hcs ?_
  clear hcs
  simp -implicitDefEqProofs [e,h0,h2]
 have h2':w.rollout.off=false:=by simpa using h2
 have e:CO w=(enter w,true):=by unfold CO AAy;simp[h0,h1,h2']
 simp -implicitDefEqProofs [h1,h2]
 have hcs:=hE w h
 simp -implicitDefEqProofs [h0,h2]at hcs
 refine Aa hcs ?_
 clear hcs
 simp -implicitDefEqProofs [e]
end Go.Eng.T
namespace Go.Eng.T
set_option maxRecDepth 20000
set_option maxHeartbeats 2000000
open Go.Lib (compact compactUpTo keeps)
abbrev Up (l:List Int):Prop:=l.Pairwise (· < ·)
theorem Az8:∀ {a b:List Int},Up a→Up b→(∀x,x∈a↔x∈b)→a=b
 | [],[],_,_,_=>rfl
 | [],y::b,_,_,h=>by have:=(h y).2 (by simp);simp at this
 | x::a,[],_,_,h=>by have:=(h x).1 (by simp);simp at this
 | x::a,y::b,ha,hb,h=>by
  rw[Up,List.pairwise_cons]at ha hb
  have hxy:x=y:=by
   have h1:=(h x).1 (by simp)
   have h2:=(h y).2 (by simp)
   rcases List.mem_cons.1 h1 with e | h1
   ·exact e
   ·rcases List.mem_cons.1 h2 with e | h2
    ·exact e.symm
    ·have:=hb.1 x h1;have:=ha.1 y h2;omega
  subst hxy
  congr 1
  refine Az8 ha.2 hb.2 fun z=>⟨fun hz=> ?_,fun hz=> ?_⟩
  ·rcases List.mem_cons.1 ((h z).1 (by simp[hz]))with e | h1
   ·subst e;have:=ha.1 z hz;omega
   ·exact h1
  ·rcases List.mem_cons.1 ((h z).2 (by simp[hz]))with e | h1
   ·subst e;have:=hb.1 z hz;omega
   ·exact h1
theorem ABL:∀(l:List Int) (v x:Int),x∈TV l v↔x∈l∨x=v:=by
 intro l v x
 unfold TV
 split
 ·rename_i h
  constructor
  ·exact .inl
  ·rintro (h1 | rfl)
   ·exact h1
   ·exact List.mem_of_getElem? h
 ·unfold Auv
  rw[List.mem_append,List.mem_cons]
  have:x∈l↔x∈l.take (Ib l v)∨x∈l.drop (Ib l v):=by
   conv=>lhs;rw[←List.take_append_drop (Ib l v) l,List.mem_append]
  rw[this]
  constructor
  ·rintro (h1 | h1 | h1)
   ·exact .inl (.inl h1)
   ·exact .inr h1
   ·exact .inl (.inr h1)
  ·rintro ((h1 | h1) | h1)
   ·exact .inl h1
   ·exact .inr (.inr h1)
   ·exact .inr (.inl h1)
theorem AfR:∀(l:List Int) (v x:Int),x∈l.take (Ib l v)→x<v
 | [],v,x,h=>by simp at h
 | y::r,v,x,h=>by
  simp only[Ib]at h
  split at h
  ·rw[List.take_succ_cons]at h
   rcases List.mem_cons.1 h with rfl | h
   ·assumption
   ·exact AfR r v x h
  ·simp at h
theorem ADc:∀ {l:List Int} (v:Int),Up l→Up (TV l v):=by
 intro l v hl
 unfold TV
 split
 ·exact hl
 ·rename_i hne
  unfold Auv Up
  rw[List.pairwise_append,List.pairwise_cons]
  have hb:=AfR l v
  have hafter:∀y,y∈l.drop (Ib l v)→v<y:=by
   intro y hy
   by_cases hk:Ib l v<l.length
   ·have hs:=AnJ (l:=l) (v:=v) hk (by
     intro hlt
     have key:∀(l:List Int) (h:Ib l v<l.length),¬l[Ib l v]<v:=by
      intro l
      induction l with
      | nil=>intro h;simp at h
      | cons x r ih=>
       intro h
       by_cases hx:x<v
       ·have e:Ib (x::r) v=Ib r v+1:=by simp[Ib,hx]
        have h':Ib r v<r.length:=by rw[e]at h;simpa using h
        have:=ih h'
        simp only[e,List.getElem_cons_succ]
        exact this
       ·have e:Ib (x::r) v=0:=by simp[Ib,hx]
        simp only[e,List.getElem_cons_zero]
        exact hx
     exact key l hk hlt)
    have key:∀(l:List Int) (h:Ib l v<l.length),¬l[Ib l v]<v:=by
     intro l
     induction l with
     | nil=>intro h;simp at h
     | cons x r ih=>
      intro h
      by_cases hx:x<v
      ·have e:Ib (x::r) v=Ib r v+1:=by simp[Ib,hx]
       have h':Ib r v<r.length:=by rw[e]at h;simpa using h
       have:=ih h'
       simp only[e,List.getElem_cons_succ]
       exact this
      ·have e:Ib (x::r) v=0:=by simp[Ib,hx]
       simp only[e,List.getElem_cons_zero]
       exact hx
    have h1:=key l hk
    have h2:l[Ib l v]≠v:=by
     intro e;apply hne;rw[List.getElem?_eq_getElem hk,e]
    rw[List.drop_eq_getElem_cons hk]at hy
    have hp:(l[Ib l v]::l.drop (Ib l v+1)).Pairwise (· < ·):=by rw[←List.drop_eq_getElem_cons hk];exact hl.drop
    rw[List.pairwise_cons]at hp
    rcases List.mem_cons.1 hy with rfl | hy
    ·omega
    ·have:=hp.1 y hy;omega
   ·rw[List.drop_eq_nil_of_le (by omega)]at hy;simp at hy
  refine⟨hl.take,⟨hafter,hl.drop⟩,fun a ha b hb'=> ?_⟩
  have h1:=hb a ha
  rcases List.mem_cons.1 hb' with rfl | hb'
  ·exact h1
  ·have:=hafter b hb';omega
def JR (l:List Int) (xs:List Int):List Int:=xs.foldl TV l
theorem An6:∀ {xs l:List Int},Up l→Up (JR l xs)
 | [],_,h=>h
 | x::xs,l,h=>An6 (xs:=xs) (ADc x h)
theorem AkO:∀(xs l:List Int) (x:Int),x∈JR l xs↔x∈l∨x∈xs
 | [],l,x=>by simp[JR]
 | y::xs,l,x=>by
  have:=AkO xs (TV l y) x
  unfold JR at *
  rw[List.foldl_cons,this,ABL,List.mem_cons]
  constructor
  ·rintro ((h | h) | h)
   ·exact .inl h
   ·exact .inr (.inl h)
   ·exact .inr (.inr h)
  ·rintro (h | h | h)
   ·exact .inl (.inl h)
   ·exact .inl (.inr h)
   ·exact .inr h
def ANy (l:List Int):List Int:=l.mergeSort fun x y=>decide (x≤y)
theorem Aea (l:List Int):(ANy l).length=l.length:=by simp[ANy]
theorem ACb (l:List Int):(ANy l).Pairwise (·≤·):=by
 have:=List.pairwise_mergeSort (le:=fun x y:Int=>decide (x≤y)) (fun a b c h1 h2=>by simp at *;omega) (fun a b=>by simp;omega) l
 exact this.imp fun h=>by simpa using h
abbrev AAo (R:Rel):Prop:=∀l:List Int,l.length≤4194304→R [.arr 0] [.arr 1 0 l.length (ints l)] (.tup []) [.arr 1 0 l.length (ints (ANy l))]
theorem AiT:∀(xs l:List Int),(JR l xs).length≤l.length+xs.length
 | [],l=>by simp[JR]
 | x::xs,l=>by
  have h1:=AiT xs (TV l x)
  have h2:=ABj l x
  unfold JR at *
  simp only[List.foldl_cons,List.length_cons]
  omega
def AkQ (r:EH) (i:Nat):EH:=⟨r.version,r.stages,i,r.off⟩
def Lr (r:EH) (n:Int):Nat→Int
 | 0=>0
 | k+1=>max (Lr r n k) (countIn (AkQ r k) n)
end Go.Eng.T
namespace Go.Eng.T
set_option maxRecDepth 20000
theorem AJQ (D:Dn) (hA:Jv (D Kb)) (hI:SG (D Bz)):QA (Body D Ain):=by
 intro g b l p
 simp -implicitDefEqProofs
 refine Aa (hA [g,b,l] 0 10000 (by unfold maxLen;simp)) ?_
 by_cases h1:allIn [g,b,l] 0 10000=true
 rotate_left
 ·have e:I4 g b l p=0:=by
   unfold I4
   rw[if_pos]
   simp[allIn]at h1
   by_cases a:Q5 g 0 10000
   ·by_cases c:Q5 b 0 10000
    ·right;right;left;intro h;have:=h1 a.1 a.2 c.1 c.2 (by omega);omega
    ·exact .inr (.inl c)
   ·exact .inl a
  simp -implicitDefEqProofs [h1,e]
 have h1':Q5 g 0 10000∧Q5 b 0 10000∧Q5 l 0 10000:=by simpa[allIn]using h1
 by_cases h2:l=0
 ·have e:I4 g b l p=0:=by unfold I4;rw[if_pos (by right;right;left;omega)]
  subst h2
  simp -implicitDefEqProofs [h1,e]
 simp -implicitDefEqProofs [h1,h2]
 refine Aa (hI _ _ _) ?_
 by_cases h4:Q5 p 0 100
 rotate_left
 ·simp -implicitDefEqProofs [h2,h4,I4]
 have w1:IntKind.i64.wrap (100*b)=100*b:=Ad (by omega) (by omega)
 have w2:=AdZ h4.1 h4.2 (x:=l) (by omega) (by omega)
 have w3:=AdZ h4.1 h4.2 (x:=g+b) (by omega) (by omega)
 have w4:IntKind.i64.wrap (g+b)=g+b:=Ad (by omega) (by omega)
 have e:I4 g b l p=if 100*b>p*l∧100*b>p*(g+b)then 2 else if g+b<l then 0 else if 100*b≤p*(g+b)then 1 else 2:=by unfold I4;rw[if_neg (by omega)]
 rw[e]
 clear e
 by_cases c1:p*l<100*b
 ·by_cases c2:p*(g+b)<100*b
  ·simp -implicitDefEqProofs [h2,h4,w1,w2,w3,w4,c1,c2]
  ·have c3:100*b≤p*(g+b):=by omega
   by_cases c4:g+b<l
   ·simp -implicitDefEqProofs [h2,h4,w1,w2,w3,w4,c1,c2,c3,c4]
   ·simp -implicitDefEqProofs [h2,h4,w1,w2,w3,w4,c1,c2,c3,c4]
 ·by_cases c4:g+b<l
  ·simp -implicitDefEqProofs [h2,h4,w1,w2,w3,w4,c1,c4]
  ·by_cases c3:100*b≤p*(g+b)
   ·simp -implicitDefEqProofs [h2,h4,w1,w2,w3,w4,c1,c3,c4]
   ·simp -implicitDefEqProofs [h2,h4,w1,w2,w3,w4,c1,c3,c4]
theorem AJW (D:Dn) (hB:FU (D AEY)):YR (Body D Ag1):=by
 intro xs v hl hu
 unfold maxLen at hl
 simp -implicitDefEqProofs
 refine Ae (fun k s=>∃j o,j+k=xs.length∧s=⟨[.undef,.sc (.int .i64 v),.undef,.undef,.sc (.int .i64 (cntF (goodD v) (xs.take j))),.sc (.int .i64 (cntF (Pe v) (xs.take j))),.undef,.sl 1 5 xs.length (xs.flatMap AP),.sc (.int .i64 xs.length),.sc (.int .i64 j),.undef,.undef,.undef],[o]⟩) ?_ xs.length _ ⟨0,.free,by simp,by simp[cntF]⟩
 intro k s ⟨j,o0,hj,hs⟩
 subst hs
 by_cases hjn:j<xs.length
 ·have hw:IntKind.i64.wrap ((j:Int)+1)=(j+1:Nat):=by rw[Ad (by omega) (by omega)];simp
  have hc:=Adn (f:=goodD v) hjn
  have hb:=Adn (f:=Pe v) hjn
  have hcl:=ApG (f:=goodD v) (xs:=xs) (j:=j) (by omega)
  have hbl:=ApG (f:=Pe v) (xs:=xs) (j:=j) (by omega)
  have hw2:IntKind.i64.wrap ((cntF (goodD v) (xs.take j):Int)+1)=(cntF (goodD v) (xs.take j)+1:Nat):=by rw[Ad (by omega) (by omega)];simp
  have hw3:IntKind.i64.wrap ((cntF (Pe v) (xs.take j):Int)+1)=(cntF (Pe v) (xs.take j)+1:Nat):=by rw[Ad (by omega) (by omega)];simp
  simp -implicitDefEqProofs [hjn]
  refine Aa (hB xs[j] v (hu j hjn)) ?_
  by_cases hbd:Pe v xs[j]=true
  ·simp -implicitDefEqProofs [hbd]
   exact⟨k-1,by omega,j+1,by omega,by rw[hc];simp[goodD,hbd],by rw[hb,hw3];simp[hbd],by simp[hw]⟩
  ·by_cases h4:v≤xs[j].deal.version
   ·simp -implicitDefEqProofs [hbd,h4]
    exact⟨k-1,by omega,j+1,by omega,by rw[hc,hw2];simp[goodD,hbd,h4],by rw[hb];simp[hbd],by simp[hw]⟩
   ·simp -implicitDefEqProofs [hbd,h4]
    exact⟨k-1,by omega,j+1,by omega,by rw[hc];simp[goodD,hbd,h4],by rw[hb];simp[hbd],by simp[hw]⟩
 ·have hx:=Aia (f:=goodD v) (xs:=xs) (j:=j) (by omega)
  have hy:=Aia (f:=Pe v) (xs:=xs) (j:=j) (by omega)
  simp -implicitDefEqProofs [hjn,hx,hy]
theorem AM8 {w:World} (h:Ay w≤4194304):∀(j:Nat) (hj:j<w.stage.length),w.stage[j].up.length≤maxLen:=by
 intro j hj
 have:=size_at (f:=Al) hj
 unfold Ay at h
 have e:Al w.stage[j]=E9 w.stage[j].deal+w.stage[j].up.length:=rfl
 unfold maxLen;omega
def Ld (w:World):Int:=I4 (cntF (goodD w.rollout.version) w.stage) (cntF (Pe w.rollout.version) w.stage) w.least w.percent
abbrev OB (R:Rel):Prop:=∀w:World,Ay w≤4194304→R [arg (EF w)] [] (I (Ld w)) []
theorem ANp (D:Dn) (hM:YR (D AAl)) (hS:QA (D AAF)):OB (Body D ALI):=by
 intro w h
 simp -implicitDefEqProofs
 refine Aa (hM w.stage _ (by have:=Xk h;unfold maxLen;omega) (AM8 h)) ?_
 simp -implicitDefEqProofs
 refine Aa (hS _ _ _ _) ?_
 simp -implicitDefEqProofs [Ld]
theorem AJy (D:Dn) (hM:YR (D AA7)) (hS:QA (D AAL)):OB (Body D AcU):=by
 intro w h
 simp -implicitDefEqProofs
 refine Aa (hM w.stage _ (by have:=Xk h;unfold maxLen;omega) (AM8 h)) ?_
 simp -implicitDefEqProofs
 refine Aa (hS _ _ _ _) ?_
 simp -implicitDefEqProofs [Ld]
end Go.Eng.T
namespace Go.Eng.T
set_option maxRecDepth 20000
set_option maxHeartbeats 2000000
def ALP (r:EH):Bool:=Bp r&&(!r.off&& !decide (r.pos=(r.stages.length:Int)-1))
def Bu (r:EH):EH×Bool:=if ALP r=true then(⟨r.version,r.stages,r.pos+1,r.off⟩,true)else(r,false)
abbrev Oh (R:Rel):Prop:=∀r:EH,Bg r≤4194304→R [arg (Gx r)] [] (.tup [.agg (Gx (Bu r).1),B (Bu r).2]) []
theorem Aet (D:Dn) (hC:Sv (D Zx)) (hR:FR (D Qo)):Oh (Body D ALK):=by
 intro r h
 have hl:r.stages.length≤4194304:=h
 have hw1:IntKind.i64.wrap ((r.stages.length:Int)-1)=(r.stages.length:Int)-1:=Ad (by omega) (by omega)
 simp -implicitDefEqProofs
 refine Aa (hC r h) ?_
 simp -implicitDefEqProofs
 refine Aa (hR r hl) ?_
 by_cases h1:Bp r=true
 rotate_left
 ·have e:Bu r=(r,false):=by unfold Bu ALP;rw[if_neg (by simp[h1])]
  simp -implicitDefEqProofs [h1,e]
 by_cases h2:r.off=true
 ·have e:Bu r=(r,false):=by unfold Bu ALP;rw[if_neg (by simp[h2])]
  simp -implicitDefEqProofs [h1,h2,e]
 have h2':r.off=false:=by simpa using h2
 have hp:=ArH h1
 have hwp:IntKind.i64.wrap (r.pos+1)=r.pos+1:=Ad (by omega) (by omega)
 obtain⟨ver,stg,pos,off⟩:=r
 dsimp only at *
 subst h2'
 by_cases h3:pos=(stg.length:Int)-1
 ·have e:Bu ⟨ver,stg,pos,false⟩=(⟨ver,stg,pos,false⟩,false):=by unfold Bu ALP;rw[if_neg (by simp[h3])]
  subst h3
  simp -implicitDefEqProofs [h1,hw1,e]
 have e:Bu ⟨ver,stg,pos,false⟩=(⟨ver,stg,pos+1,false⟩,true):=by unfold Bu ALP;rw[if_pos (by simp[h1,h3])]
 simp -implicitDefEqProofs [h1,hw1,h3,hwp,e]
theorem AJx (D:Dn) (hC:Sv (D AwJ)) (hR:FR (D Qk)):Oh (Body D AbN):=by
 intro r h
 have hl:r.stages.length≤4194304:=h
 have hw1:IntKind.i64.wrap ((r.stages.length:Int)-1)=(r.stages.length:Int)-1:=Ad (by omega) (by omega)
 simp -implicitDefEqProofs
 refine Aa (hC r h) ?_
 simp -implicitDefEqProofs
 refine Aa (hR r hl) ?_
 by_cases h1:Bp r=true
 rotate_left
 ·have e:Bu r=(r,false):=by unfold Bu ALP;rw[if_neg (by simp[h1])]
  simp -implicitDefEqProofs [h1,e]
 by_cases h2:r.off=true
 ·have e:Bu r=(r,false):=by unfold Bu ALP;rw[if_neg (by simp[h2])]
  simp -implicitDefEqProofs [h1,h2,e]
 have h2':r.off=false:=by simpa using h2
 have hp:=ArH h1
 have hwp:IntKind.i64.wrap (r.pos+1)=r.pos+1:=Ad (by omega) (by omega)
 obtain⟨ver,stg,pos,off⟩:=r
 dsimp only at *
 subst h2'
 by_cases h3:pos=(stg.length:Int)-1
 ·have e:Bu ⟨ver,stg,pos,false⟩=(⟨ver,stg,pos,false⟩,false):=by unfold Bu ALP;rw[if_neg (by simp[h3])]
  subst h3
  simp -implicitDefEqProofs [h1,hw1,e]
 have e:Bu ⟨ver,stg,pos,false⟩=(⟨ver,stg,pos+1,false⟩,true):=by unfold Bu ALP;rw[if_pos (by simp[h1,h3])]
 simp -implicitDefEqProofs [h1,hw1,h3,hwp,e]
def AL0 (r:EH):Bool:=Bp r&& !r.off
def BN (r:EH):EH×Bool:=if AL0 r=true then(⟨r.version,r.stages,0,true⟩,true)else(r,false)
abbrev Og (R:Rel):Prop:=∀r:EH,Bg r≤4194304→R [arg (Gx r)] [] (.tup [.agg (Gx (BN r).1),B (BN r).2]) []
theorem Aeh (D:Dn) (hC:Sv (D Zx)) (hR:FR (D Qo)):Og (Body D ALF):=by
 intro r h
 have hl:r.stages.length≤4194304:=h
 simp -implicitDefEqProofs
 refine Aa (hC r h) ?_
 simp -implicitDefEqProofs
 refine Aa (hR r hl) ?_
 by_cases h1:Bp r=true
 rotate_left
 ·have e:BN r=(r,false):=by unfold BN AL0;rw[if_neg (by simp[h1])]
  simp -implicitDefEqProofs [h1,e]
 by_cases h2:r.off=true
 ·have e:BN r=(r,false):=by unfold BN AL0;rw[if_neg (by simp[h2])]
  simp -implicitDefEqProofs [h1,h2,e]
 have e:BN r=(⟨r.version,r.stages,0,true⟩,true):=by unfold BN AL0;rw[if_pos (by simp[h1,h2])]
 simp -implicitDefEqProofs [h1,h2,e]
theorem AJH (D:Dn) (hC:Sv (D AwJ)) (hR:FR (D Qk)):Og (Body D Aeb):=by
 intro r h
 have hl:r.stages.length≤4194304:=h
 simp -implicitDefEqProofs
 refine Aa (hC r h) ?_
 simp -implicitDefEqProofs
 refine Aa (hR r hl) ?_
 by_cases h1:Bp r=true
 rotate_left
 ·have e:BN r=(r,false):=by unfold BN AL0;rw[if_neg (by simp[h1])]
  simp -implicitDefEqProofs [h1,e]
 by_cases h2:r.off=true
 ·have e:BN r=(r,false):=by unfold BN AL0;rw[if_neg (by simp[h2])]
  simp -implicitDefEqProofs [h1,h2,e]
 have e:BN r=(⟨r.version,r.stages,0,true⟩,true):=by unfold BN AL0;rw[if_pos (by simp[h1,h2])]
 simp -implicitDefEqProofs [h1,h2,e]
def RO (l:List Int) (v:Int):Bool:=A9 l&&(decide (InV v 1 9)&& !decide (v∈l))
def ALm (l:List Int) (v:Int):List Int×Bool:=if RO l v=true then(TV l v,true)else(l,false)
abbrev Ms (R:Rel):Prop:=∀(l:List Int) (v:Int),l.length≤4194304→R [.sl 1 1 l.length (ints l),I v] [] (.tup [.sl 0 1 (ALm l v).1.length (ints (ALm l v).1),B (ALm l v).2]) []
theorem Adt (D:Dn) (hA:BK (D EJ)) (hI:SG (D CB)) (hH:R6 (D Jl)) (hP:Apd (D ArV)):Ms (Body D ALz):=by
 intro l v hl
 have hl8:l.length*8≤1099511627776:=by omega
 have hl9:(l.length+1)*8≤1099511627776:=by omega
 simp -implicitDefEqProofs [hl8]
 refine Aa (hA l (by unfold maxLen;omega)) ?_
 by_cases h1:A9 l=true
 rotate_left
 ·have e:ALm l v=(l,false):=by unfold ALm RO;rw[if_neg (by simp[h1])]
  simp -implicitDefEqProofs [h1,e,hl8]
 simp -implicitDefEqProofs [h1]
 refine Aa (hI _ _ _) ?_
 by_cases h2:InV v 1 9
 rotate_left
 ·have e:ALm l v=(l,false):=by unfold ALm RO;rw[if_neg (by simp[h2])]
  simp -implicitDefEqProofs [h2,e,hl8]
 simp -implicitDefEqProofs [h2]
 refine Aa (hH l v (by unfold maxLen;omega)) ?_
 by_cases h3:v∈l
 ·have e:ALm l v=(l,false):=by unfold ALm RO;rw[if_neg (by simp[h3])]
  simp -implicitDefEqProofs [h3,e,hl8]
 have e:ALm l v=(TV l v,true):=by unfold ALm RO;rw[if_pos (by simp[h1,h2,h3])]
 simp -implicitDefEqProofs [h3]
 refine Aa (hP l v hl) ?_
 simp -implicitDefEqProofs [e]
theorem up9:∀ {l:List Int} {a:Int},Up l→(∀x,x∈l→a<x∧x≤9)→(l.length:Int)≤9-a∨l=[]
 | [],_,_,_=> .inr rfl
 | x::r,a,h,hb=>by
  rw[Up,List.pairwise_cons]at h
  have h0:=hb x (by simp)
  have:=up9 (l:=r) (a:=x) h.2 (fun y hy=>⟨h.1 y hy,(hb y (by simp[hy])).2⟩)
  left
  rcases this with h1 | rfl
  ·simp only[List.length_cons];omega
  ·simp;omega
theorem Arj {l:List Int} (h:A9 l=true):l.length≤9:=by
 have:=up9 (l:=l) (a:=0) (An0 h) (fun x hx=>by have:=Awj h x hx;exact⟨by omega,by omega⟩)
 rcases this with h1 | rfl
 ·omega
 ·simp
theorem AKV {l:List Int} (h:Up l):l.Pairwise (·≤·):=List.Pairwise.imp (fun h=>by omega) h
theorem AKN:∀ {a b:List Int},a.Pairwise (·≤·)→b.Pairwise (·≤·)→a.Perm b→a=b:=fun ha hb h=>List.Perm.eq_of_pairwise (le:=fun x y:Int=>x≤y) (fun a b _ _ h1 h2=>by omega) ha hb h
theorem AKw {l:List Int} {v:Int} (h:A9 l=true) (hv:¬v∈l):ANy (l++ [v])=TV l v:=by
 have hup:Up l:=An0 h
 refine AKN (ACb _) (AKV (ADc v hup)) ?_
 refine(List.mergeSort_perm _ _).trans ?_
 unfold TV
 rw[if_neg (fun e=>hv (List.mem_of_getElem? e))]
 unfold Auv
 have e:l=l.take (Ib l v)++l.drop (Ib l v):=(List.take_append_drop _ _).symm
 conv=>lhs;rw[e]
 rw[List.append_assoc]
 exact List.Perm.append_left _ (List.perm_append_comm (l₁:=l.drop (Ib l v)) (l₂:=[v]))
theorem AJd (D:Dn) (hA:BK (D FM)) (hI:SG (D Bz)) (hH:R6 (D Bn)) (hS:AAo (D U2)):Ms (Body D ZH):=by
 intro l v hl
 have hl8:l.length*8≤1099511627776:=by omega
 have hl9:(l.length+1)*8≤1099511627776:=by omega
 simp -implicitDefEqProofs [hl8]
 refine Aa (hA l (by unfold maxLen;omega)) ?_
 by_cases h1:A9 l=true
 rotate_left
 ·have e:ALm l v=(l,false):=by unfold ALm RO;rw[if_neg (by simp[h1])]
  simp -implicitDefEqProofs [h1,e,hl8]
 simp -implicitDefEqProofs [h1]
 refine Aa (hI _ _ _) ?_
 by_cases h2:InV v 1 9
 rotate_left
 ·have e:ALm l v=(l,false):=by unfold ALm RO;rw[if_neg (by simp[h2])]
  simp -implicitDefEqProofs [h2,e,hl8]
 simp -implicitDefEqProofs [h2]
 refine Aa (hH l v (by unfold maxLen;omega)) ?_
 by_cases h3:v∈l
 ·have e:ALm l v=(l,false):=by unfold ALm RO;rw[if_neg (by simp[h3])]
  simp -implicitDefEqProofs [h3,e,hl8]
 have e:ALm l v=(TV l v,true):=by unfold ALm RO;rw[if_pos (by simp[h1,h2,h3])]
 have hs:=AKw h1 h3
 have hsl:=Aea (l++ [v])
 rw[List.length_append]at hsl
 have hpl:(TV l v).length=l.length+1:=by rw[←hs,hsl];rfl
 simp -implicitDefEqProofs [h3,hl9]
 have hss:=hS (l++ [v]) (by have:=Arj h1;simp;omega)
 simp -implicitDefEqProofs [hs]at hss
 refine Aa (hss) ?_
 simp -implicitDefEqProofs [hpl,e]
def ALc (w:World) (v:Int):World×Bool:=({w with server:=(ALm w.server v).1},(ALm w.server v).2)
abbrev Mg (R:Rel):Prop:=∀(w:World) (v:Int),Ay w≤4194304→R [arg (EF w),I v] [] (.tup [.agg (EF (ALc w v).1),B (ALc w v).2]) []
theorem AN8 {l:List Int} {v:Int} (h:(ALm l v).2=false):(ALm l v).1=l:=by
 unfold ALm at *
 split at h
 ·cases h
 ·rename_i hc;rw[if_neg hc]
theorem ANk (D:Dn) (hC:Ef (D ACA)) (hA:Ms (D Ax5)):Mg (Body D Hy):=by
 intro w v hsz
 simp -implicitDefEqProofs
 refine Aa (hC w hsz) ?_
 simp -implicitDefEqProofs
 refine Aa (hA w.server v (NZ hsz).1) ?_
 have hno:=AN8 (l:=w.server) (v:=v)
 have e:ALc w v=({w with server:=(ALm w.server v).1},(ALm w.server v).2):=rfl
 rw[e]
 generalize ALm w.server v=r at hno
 by_cases h1:r.2=true
 ·simp -implicitDefEqProofs [h1]
 ·have:=hno (by simpa using h1)
  simp -implicitDefEqProofs [h1,this]
theorem AJe (D:Dn) (hC:Ef (D AyU)) (hA:Ms (D Ax7)):Mg (Body D AaK):=by
 intro w v hsz
 simp -implicitDefEqProofs
 refine Aa (hC w hsz) ?_
 simp -implicitDefEqProofs
 refine Aa (hA w.server v (NZ hsz).1) ?_
 have e:ALc w v=({w with server:=(ALm w.server v).1},(ALm w.server v).2):=rfl
 rw[e]
 generalize ALm w.server v=r
 simp -implicitDefEqProofs
theorem AN5 (l:List Int) (v:Int):(ALm l v).1.length≤l.length+1:=by
 unfold ALm
 split
 ·exact ABj l v
 ·dsimp only;omega
theorem ANj (w:World) (v:Int):Ay (ALc w v).1≤Ay w+1:=by
 have:=AN5 w.server v
 simp only[ALc,Ay]
 omega
end Go.Eng.T
namespace Go.Eng.T
set_option maxRecDepth 20000
set_option maxHeartbeats 1000000
theorem AAa {D:Dn} {c:Cf} {a:SC} {Q:Out→St→Prop} {s:St} (h:swp D c a (fun o s'=>match o with | .normal=>False | o=>Q o s') s):swp D c (.loop a) Q s:=⟨1,h⟩
def inB (t:Int):Bool:=decide (Q5 t 0 255)
def AfT (b:List Int) (t:Int):Bool:= !decide (t∈b)&&inB t
def AL1 (h x:Hello):List Int:=leftOf h.versions x.versions++((Aq h.exts).filter (AfT (Aq x.exts))).map (fun t=>1000+t)
theorem AxA (a b:List Int):(leftOf a b).filter inB=a.filter (AfT b):=by
 unfold leftOf
 rw[List.filter_filter]
 congr 1
 funext t
 unfold AfT
 cases inB t<;>cases decide (t∈b)<;>rfl
abbrev OY (R:Rel):Prop:=∀h x:Hello,hB h→hB x→R [arg (CU h),arg (CU x)] [] (.sl 0 1 (AL1 h x).length (ints (AL1 h x))) []
theorem Aol {p:Int→Bool} {a l:List Int} {j:Nat} (h:j<l.length):
 a++((l.take (j+1)).filter p).map (fun t=>1000+t)=(a++((l.take j).filter p).map (fun t=>1000+t))++(if p l[j]then [1000+l[j]]else []):=by
 rw[LH h,List.map_append,List.append_assoc]
 split<;>simp
theorem Aq4 {p:Int→Bool} {a l:List Int} {j:Nat}:(a++((l.take j).filter p).map (fun t=>1000+t)).length≤a.length+j:=by
 have:=OM (p:=p) (xs:=l) (j:=j)
 simp only[List.length_append,List.length_map];omega
theorem AtO (D:Dn) (hL:WC (D ZN)) (hX:Qn (D Tg)) (hI:SG (D CB)):OY (Body D Tn):=by
 intro h x hh hx
 have hxl:=hx.2.1
 have hhl:=hh.2.1
 have hvl:=hh.1
 simp -implicitDefEqProofs
 refine Aa (hL h.versions x.versions hh.1 hx.1) ?_
 have hal:=K3 h.versions x.versions
 have e:AL1 h x=leftOf h.versions x.versions++((Aq h.exts).filter (AfT (Aq x.exts))).map (fun t=>1000+t):=rfl
 rw[e]
 have hpd:∀t,AfT (Aq x.exts) t=(!decide (t∈Aq x.exts)&&inB t):=fun t=>rfl
 generalize leftOf h.versions x.versions=a at hal
 generalize AfT (Aq x.exts)=p at hpd
 have htl:(Aq h.exts).length=h.exts.length:=Nb _
 have hte:∀j (hj:j<h.exts.length),(Aq h.exts)[j]'(by omega)=h.exts[j].tag:=fun j hj=>by simp[Aq]
 obtain⟨l,hl⟩:∃l,l=Aq h.exts:=⟨_,rfl⟩
 rw[←hl]at htl⊢
 simp -implicitDefEqProofs
 refine Ae (fun k s=>∃j o3 o4,j+k=h.exts.length∧s=⟨[.undef,.undef,.ptr 0 0,.ptr 1 0,.undef,.arr 5,I j,.undef,.undef],[.var ((CU h).map (AZ 1)),.var ((CU x).map (AZ 1)),.free,o3,o4,.arr 1 0 (a++((l.take j).filter p).map (fun t=>1000+t)).length (ints (a++((l.take j).filter p).map (fun t=>1000+t)))]⟩) ?_ (h.exts.length) _ ⟨0,.free,.free,by simp,by simp⟩
 intro k s ⟨j,o3,o4,hj,hs⟩
 subst hs
 by_cases hjn:j<h.exts.length
 ·have hw:IntKind.i64.wrap ((j:Int)+1)=(j+1:Nat):=by rw[Ad (by omega) (by omega)];simp
  have hjl:j<l.length:=by omega
  have hlt:l[j]=h.exts[j].tag:=by subst hl;exact hte j hjn
  have hst:=Aol (p:=p) (a:=a) hjl
  have hfl:=Aq4 (p:=p) (a:=a) (l:=l) (j:=j)
  have hb1:((a++((l.take j).filter p).map (fun t=>1000+t)).length+1)*8≤1099511627776:=by omega
  have hpt:=hpd l[j]
  rw[hlt]at hst hpt
  generalize a++((l.take j).filter p).map (fun t=>1000+t)=r at hst hfl hb1
  simp -implicitDefEqProofs [hjn]
  refine Aa (hX x.exts h.exts[j].tag (by unfold maxLen;omega)) ?_
  by_cases h1:h.exts[j].tag∈Aq x.exts
  ·have h3:¬p h.exts[j].tag=true:=by rw[hpt];simp[h1]
   have h1':¬Js x.exts h.exts[j].tag<0:=by rw[ALp];simpa using h1
   rw[if_neg h3,List.append_nil]at hst
   simp -implicitDefEqProofs [h1']
   have hsl:=congrArg List.length hst
   simp only[List.length_append,List.length_map]at hsl
   exact⟨k-1,by omega,j+1,by omega,by simp[hw],by omega,by rw[hst]⟩
  have h1':Js x.exts h.exts[j].tag<0:=by rw[ALp];exact h1
  simp -implicitDefEqProofs [h1',hjn]
  refine Aa (hI _ _ _) ?_
  by_cases h2:Q5 h.exts[j].tag 0 255
  ·have h3:p h.exts[j].tag=true:=by rw[hpt];simp[h1,inB,h2]
   rw[if_pos h3]at hst
   have hw2:IntKind.i64.wrap (1000+h.exts[j].tag)=1000+h.exts[j].tag:=Ad (by have:=h2.1;omega) (by have:=h2.2;omega)
   simp -implicitDefEqProofs [h2,hjn,hb1,hw2]
   have hsl:=congrArg List.length hst
   simp only[List.length_append,List.length_map,List.length_cons,List.length_nil]at hsl
   exact⟨k-1,by omega,j+1,by omega,by simp[hw],by omega,by rw[hst]⟩
  ·have h3:¬p h.exts[j].tag=true:=by rw[hpt];simp[h1,inB,h2]
   rw[if_neg h3,List.append_nil]at hst
   simp -implicitDefEqProofs [h2]
   have hsl:=congrArg List.length hst
   simp only[List.length_append,List.length_map]at hsl
   exact⟨k-1,by omega,j+1,by omega,by simp[hw],by omega,by rw[hst]⟩
 ·have e2:=Nh (p:=p) (xs:=l) (j:=j) (by omega)
  simp -implicitDefEqProofs [hjn,e2]
theorem Au8 (D:Dn) (hL:WC (D OE)) (hT:KV (D QR)) (hI:SG (D Bz)):OY (Body D T9):=by
 intro h x hh hx
 have hxl:=hx.2.1
 have hhl:=hh.2.1
 have hvl:=hh.1
 simp -implicitDefEqProofs
 refine Aa (hL h.versions x.versions hh.1 hx.1) ?_
 have hal:=K3 h.versions x.versions
 have e:AL1 h x=leftOf h.versions x.versions++((Aq h.exts).filter (AfT (Aq x.exts))).map (fun t=>1000+t):=rfl
 rw[e,←AxA]
 generalize leftOf h.versions x.versions=a at hal
 simp -implicitDefEqProofs
 refine Aa (hT h.exts hh.2.1) ?_
 simp -implicitDefEqProofs
 refine Aa (hT x.exts hx.2.1) ?_
 simp -implicitDefEqProofs
 refine Aa (hL (Aq h.exts) (Aq x.exts) (by rw[Nb];omega) (by rw[Nb];omega)) ?_
 have hll:=K3 (Aq h.exts) (Aq x.exts)
 rw[Nb]at hll
 generalize leftOf (Aq h.exts) (Aq x.exts)=l at hll
 generalize hpd:inB=p
 simp -implicitDefEqProofs
 refine Ae (fun k s=>∃j v6 o6 o7,j+k=l.length∧s=⟨[.undef,.undef,.undef,.undef,.undef,.arr 8,v6,.arr 5,I l.length,I j,.undef,.undef],[.var ((CU h).map (AZ 1)),.var ((CU x).map (AZ 1)),.free,.arr 1 0 (Aq h.exts).length (ints (Aq h.exts)),.arr 1 0 (Aq x.exts).length (ints (Aq x.exts)),.arr 1 0 l.length (ints l),o6,o7,.arr 1 0 (a++((l.take j).filter p).map (fun t=>1000+t)).length (ints (a++((l.take j).filter p).map (fun t=>1000+t)))]⟩) ?_ (l.length) _ ⟨0,.undef,.free,.free,by simp,by simp⟩
 intro k s ⟨j,v6,o6,o7,hj,hs⟩
 subst hs
 by_cases hjn:j<l.length
 ·have hw:IntKind.i64.wrap ((j:Int)+1)=(j+1:Nat):=by rw[Ad (by omega) (by omega)];simp
  have hst:=Aol (p:=p) (a:=a) hjn
  have hfl:=Aq4 (p:=p) (a:=a) (l:=l) (j:=j)
  have hb1:((a++((l.take j).filter p).map (fun t=>1000+t)).length+1)*8≤1099511627776:=by omega
  have hpt:p l[j]=inB l[j]:=by rw[hpd]
  generalize a++((l.take j).filter p).map (fun t=>1000+t)=r at hst hfl hb1
  simp -implicitDefEqProofs [hjn]
  refine Aa (hI _ _ _) ?_
  by_cases h2:Q5 l[j] 0 255
  ·have h3:p l[j]=true:=by rw[hpt];simp[inB,h2]
   rw[if_pos h3]at hst
   have hw2:IntKind.i64.wrap (1000+l[j])=1000+l[j]:=Ad (by have:=h2.1;omega) (by have:=h2.2;omega)
   simp -implicitDefEqProofs [h2,hjn,hb1,hw2]
   have hsl:=congrArg List.length hst
   simp only[List.length_append,List.length_map,List.length_cons,List.length_nil]at hsl
   exact⟨k-1,by omega,j+1,by omega,by simp[hw],by omega,by rw[hst]⟩
  ·have h3:¬p l[j]=true:=by rw[hpt];simp[inB,h2]
   rw[if_neg h3,List.append_nil]at hst
   simp -implicitDefEqProofs [h2]
   have hsl:=congrArg List.length hst
   simp only[List.length_append,List.length_map]at hsl
   exact⟨k-1,by omega,j+1,by omega,by simp[hw],by omega,by rw[hst]⟩
 ·have e2:=Nh (p:=p) (xs:=l) (j:=j) (by omega)
  simp -implicitDefEqProofs [hjn,e2]
def FZ:AfW:=⟨false,0,[]⟩
def AdJ (h seen:Hello) (vs tags:List Int) (key:Int):AfW:=
 if(Bf vs tags seen).2&&(Ez h (Bf vs tags seen).1&&(!decide (Dq key [A8 h,AA (Bf vs tags seen).1] 1=0)&&
  decide (Dq key [A8 h,AA (Bf vs tags seen).1] 1=Dq key [A8 seen,AA (Bf vs tags seen).1] 1)))
 then⟨true,(Bf vs tags seen).1.version,Aq (Bf vs tags seen).1.exts⟩else FZ
theorem AsR (h:Hello):(A8 h).length≤47:=by
 unfold A8
 have:=LC h.exts
 split
 ·rename_i hc
  have:=Arj (AyC hc)
  simp only[List.length_append,List.length_cons];omega
 ·simp
theorem ApX (h:Hello) (a:RY):IA [A8 h,AA a]≤4194304:=by
 have h1:=AsR h
 have h2:=Ahv a
 simp[IA,Bw]
 omega
theorem Alo {vs tags:List Int} {h:Hello} (hh:hB h):Ub (Bf vs tags h).1.exts:=by
 unfold Bf
 split
 ·exact UN (UN hh.2 (fun t=>decide (t∈tags))) (fun t=> !Am t)
 ·exact Adb
def UZ (h:Hello) (path:List Gu) (vs tags:List Int) (key:Int):AfW:=if(A7 path h).2=true then AdJ h (A7 path h).1 vs tags key else FZ
abbrev LG (R:Rel):Prop:=∀(h:Hello) (path:List Gu) (vs tags:List Int) (key:Int),hB h→lnS Hw path→vs.length≤4194304→tags.length≤4194304→
 R [arg (CU h),.sl 1 4 path.length (path.flatMap CF),.sl 1 1 vs.length (ints vs),.sl 1 1 tags.length (ints tags),I key] [] (.agg (X7 (UZ h path vs tags key))) []
theorem As6 (D:Dn) (hP:FN (D Mj)) (hC:SY (D AaL)) (hFi:JV (D AgY)) (hHB:Iq (D Aei)) (hAB:GV (D Acv))
 (hF:QS (D Aj9)) (hT:KV (D Acl)):LG (Body D RL):=by
 intro h path vs tags key hh hb hv ht
 simp -implicitDefEqProofs
 refine Aa (hP path h hb hh) ?_
 have hr:=O7 (path:=path) hh
 unfold UZ
 generalize A7 path h=r at hr
 by_cases g1:r.2=true
 rotate_left
 ·simp -implicitDefEqProofs [g1,FZ]
 obtain⟨seen,ok⟩:=r
 obtain rfl:ok=true:=g1
 dsimp only at hr⊢
 simp -implicitDefEqProofs
 refine Aa (hC vs tags seen hv ht hr) ?_
 have ha:=Alo (vs:=vs) (tags:=tags) hr
 unfold AdJ
 generalize Bf vs tags seen=q at ha
 obtain⟨a,fine⟩:=q
 dsimp only at ha⊢
 by_cases g2:fine=true
 rotate_left
 ·simp -implicitDefEqProofs [g2,FZ]
 simp -implicitDefEqProofs [g2]
 refine Aa (hFi h a hh ha) ?_
 by_cases g3:Ez h a=true
 rotate_left
 ·simp -implicitDefEqProofs [g3,FZ]
 simp -implicitDefEqProofs [g3]
 refine Aa (hHB h hh) ?_
 simp -implicitDefEqProofs
 refine Aa (hAB a ha) ?_
 simp -implicitDefEqProofs
 have hf:=hF key [A8 h,AA a] 1 (ApX h a)
 simp -implicitDefEqProofs [Kh,Jh]at hf
 refine Aa (hf) ?_
 generalize Dq key [A8 h,AA a] 1=m
 by_cases g4:m=0
 ·simp -implicitDefEqProofs [g4,FZ]
 simp -implicitDefEqProofs [g4]
 refine Aa (hHB seen hr) ?_
 simp -implicitDefEqProofs [g4]
 refine Aa (hAB a ha) ?_
 simp -implicitDefEqProofs [g4]
 have hf2:=hF key [A8 seen,AA a] 1 (ApX seen a)
 simp -implicitDefEqProofs [Kh,Jh]at hf2
 refine Aa (hf2) ?_
 generalize Dq key [A8 seen,AA a] 1=m2
 by_cases g5:m=m2
 rotate_left
 ·simp -implicitDefEqProofs [g4,g5,FZ]
 subst g5
 simp -implicitDefEqProofs [g4]
 refine Aa (hT a.exts ha.1) ?_
 simp -implicitDefEqProofs [g4]
abbrev Aqh (R:Rel):Prop:=∀(h seen:Hello) (vs tags:List Int) (key:Int),hB h→hB seen→vs.length≤4194304→tags.length≤4194304→
 R [arg (CU h),arg (CU seen),.sl 1 1 vs.length (ints vs),.sl 1 1 tags.length (ints tags),I key,.sl 1 2 0 []] [] (.agg (X7 (AdJ h seen vs tags key))) []
theorem AC4 (D:Dn) (hC:SY (D ZX)) (hFi:JV (D AhW)) (hHB:Iq (D Ae6)) (hAB:GV (D Acw))
 (hF:QS (D XZ)) (hK:Wz (D Agc)) (hT:KV (D QR)):Aqh (Body D Wd):=by
 intro h seen vs tags key hh hr hv ht
 simp -implicitDefEqProofs
 refine Aa (hC vs tags seen hv ht hr) ?_
 have ha:=Alo (vs:=vs) (tags:=tags) hr
 unfold AdJ
 generalize Bf vs tags seen=q at ha
 obtain⟨a,fine⟩:=q
 dsimp only at ha⊢
 have e:(!decide (Dq key [A8 h,AA a] 1=0)&&decide (Dq key [A8 h,AA a] 1=Dq key [A8 seen,AA a] 1))=
  ALQ key [A8 h,AA a] 1 (Dq key [A8 seen,AA a] 1):=by
  unfold ALQ
  by_cases e1:Dq key [A8 h,AA a] 1=Dq key [A8 seen,AA a] 1
  ·rw[e1]
  ·have e2:¬Dq key [A8 seen,AA a] 1=Dq key [A8 h,AA a] 1:=fun h=>e1 h.symm
   simp[e1,e2]
 rw[e]
 by_cases g2:fine=true
 rotate_left
 ·simp -implicitDefEqProofs [g2,FZ]
 simp -implicitDefEqProofs [g2]
 refine AAa ?_
 simp -implicitDefEqProofs
 refine Aa (hHB seen hr) ?_
 simp -implicitDefEqProofs
 refine Aa (hAB a ha) ?_
 simp -implicitDefEqProofs
 have hf2:=hF key [A8 seen,AA a] 1 (ApX seen a)
 simp -implicitDefEqProofs [Kh,Jh]at hf2
 refine Aa (hf2) ?_
 generalize Dq key [A8 seen,AA a] 1=m2
 simp -implicitDefEqProofs
 refine Aa (hFi h a hh ha) ?_
 by_cases g3:Ez h a=true
 rotate_left
 ·simp -implicitDefEqProofs [g3,FZ]
 simp -implicitDefEqProofs [g3]
 refine Aa (hHB h hh) ?_
 simp -implicitDefEqProofs
 refine Aa (hAB a ha) ?_
 simp -implicitDefEqProofs
 have hk:=hK key [A8 h,AA a] 1 m2 (ApX h a)
 simp -implicitDefEqProofs [Kh,Jh]at hk
 refine Aa (hk) ?_
 generalize ALQ key [A8 h,AA a] 1 m2=c
 by_cases g5:c=true
 rotate_left
 ·simp -implicitDefEqProofs [g5,FZ]
 simp -implicitDefEqProofs [g5]
 refine Aa (hT a.exts ha.1) ?_
 simp -implicitDefEqProofs
theorem Aq5 (D:Dn) (hP:FN (D L9)) (hD:Aqh (D Arl)):LG (Body D Si):=by
 intro h path vs tags key hh hb hv ht
 simp -implicitDefEqProofs
 refine Aa (hP path h hb hh) ?_
 have hr:=O7 (path:=path) hh
 unfold UZ
 generalize A7 path h=r at hr
 by_cases g1:r.2=true
 rotate_left
 ·simp -implicitDefEqProofs [g1,FZ]
 simp -implicitDefEqProofs [g1]
 refine Aa (hD h r.1 vs tags key hh hr hv ht) ?_
 simp -implicitDefEqProofs
def Atd (h:Hello) (path:List Gu) (vs tags:List Int) (key:Int):Cw:=
 if(Cr h path).2.2=true then⟨UZ (Cr h path).1 path vs tags key,(Cr h path).2.1,AL1 h (Cr h path).1⟩else⟨FZ,(Cr h path).2.1,[]⟩
abbrev AfO (R:Rel):Prop:=∀(h:Hello) (path:List Gu) (vs tags:List Int) (key:Int),hB h→lnS Hw path→vs.length≤4194304→tags.length≤4194304→
 R [arg (CU h),.sl 1 4 path.length (path.flatMap CF),.sl 1 1 vs.length (ints vs),.sl 1 1 tags.length (ints tags),I key] [] (.agg (AP (Atd h path vs tags key))) []
theorem AD7 (D:Dn) (hH:LM (D AjC)) (hO:LG (D Air)) (hG:OY (D Amx)):AfO (Body D AaP):=by
 intro h path vs tags key hh hb hv ht
 simp -implicitDefEqProofs
 refine Aa (hH h path hh hb) ?_
 have hr:=Av6 (path:=path) hh
 unfold Atd
 generalize Cr h path=r at hr
 obtain⟨x,n,ok⟩:=r
 dsimp only at hr⊢
 by_cases g1:ok=true
 rotate_left
 ·simp -implicitDefEqProofs [g1,FZ]
 simp -implicitDefEqProofs [g1]
 refine Aa (hO x path vs tags key hr hb hv ht) ?_
 simp -implicitDefEqProofs
 refine Aa (hG h x hh hr) ?_
 simp -implicitDefEqProofs [g1]
theorem AEo (D:Dn) (hH:LM (D Akx)) (hO:LG (D AiI)) (hG:OY (D AlL)):AfO (Body D Aav):=by
 intro h path vs tags key hh hb hv ht
 simp -implicitDefEqProofs
 refine Aa (hH h path hh hb) ?_
 have hr:=Av6 (path:=path) hh
 unfold Atd
 generalize Cr h path=r at hr
 obtain⟨x,n,ok⟩:=r
 dsimp only at hr⊢
 by_cases g1:ok=true
 rotate_left
 ·simp -implicitDefEqProofs [g1,FZ]
 simp -implicitDefEqProofs [g1]
 refine Aa (hO x path vs tags key hr hb hv ht) ?_
 simp -implicitDefEqProofs
 refine Aa (hG h x hh hr) ?_
 simp -implicitDefEqProofs [g1]
end Go.Eng.T
namespace Go.Eng.T
set_option maxRecDepth 20000
set_option maxHeartbeats 1000000
theorem AsO {l:List Ext} {k:Nat} (h:k≤l.length):part (Ko (l.flatMap Br) 2 0 k) 2 k (l.length-k)=(l.drop k).flatMap Br:=by
 have h0:(l.flatMap Br).length=l.length*2:=Rb l
 have e1:l.flatMap Br=(l.take k).flatMap Br++(l.drop k).flatMap Br:=by rw[←List.flatMap_append,List.take_append_drop]
 have h1:((l.take k).flatMap Br).length=k*2:=by rw[Rb];simp;omega
 have h2:((l.drop k).flatMap Br).length=(l.length-k)*2:=by rw[Rb];simp
 unfold part Ko
 rw[e1]
 simp only[Nat.zero_mul,List.take_zero,List.nil_append,Nat.zero_add]
 rw[List.drop_left' h1,List.drop_left' (by simp),List.take_of_length_le (by omega)]
theorem AyH {l:List Ext} {k:Nat} (h:k≤l.length):part (l.flatMap Br) 2 0 k=(l.take k).flatMap Br:=by
 have e1:l.flatMap Br=(l.take k).flatMap Br++(l.drop k).flatMap Br:=by rw[←List.flatMap_append,List.take_append_drop]
 have h1:((l.take k).flatMap Br).length=k*2:=by rw[Rb];simp;omega
 unfold part
 rw[e1,Nat.zero_mul,List.drop_zero,List.take_left' h1]
def AjE (seed:Int):List Int:=List.replicate (pick seed 2 3).toNat (pick seed 3 256)
def Amo (l:List Ext) (seed:Int):Nat:=(pick seed 1 (l.length+1)).toNat
def Dt (l:List Ext) (seed:Int):List Ext:=
 if EC l&&(decide (l.length<6)&& !decide (NM seed∈Aq l))then l.take (Amo l seed)++⟨NM seed,AjE seed⟩::l.drop (Amo l seed)else l
theorem Av2 (l:List Ext) (seed:Int) (h:l.length≤6):Amo l seed≤l.length:=by
 have:=SX seed 1 (n:=l.length+1) ⟨by omega,by omega⟩
 unfold Amo;omega
theorem AsQ (seed:Int):(AjE seed).length≤2:=by
 have:=SX seed 2 (n:=3) ⟨by omega,by omega⟩
 unfold AjE;simp;omega
abbrev Ju (R:Rel):Prop:=∀(l:List Ext) (seed:Int),Ub l→R [.sl 1 2 l.length (l.flatMap Br),I seed] [] (.sl 0 2 (Dt l seed).length ((Dt l seed).flatMap Br)) []
theorem Aoz (D:Dn) (hG:JS (D Agp)) (hC:OG (D ZQ)) (hA:FV (D KC)) (hX:Qn (D Tg)) (hP:ZM (D Acf)):Ju (Body D PW):=by
 intro l seed hl
 have hll:=hl.1
 simp -implicitDefEqProofs
 refine Aa (hG seed) ?_
 obtain⟨t,ht⟩:∃t,t=NM seed:=⟨_,rfl⟩
 rw[←ht]
 simp -implicitDefEqProofs
 refine Aa (hC l hl) ?_
 simp -implicitDefEqProofs
 refine Aa (hA l hl) ?_
 by_cases h1:EC l=true
 rotate_left
 ·simp -implicitDefEqProofs [h1,Dt]
 by_cases h2:l.length<6
 rotate_left
 ·have h2':(6:Int)≤l.length:=by omega
  simp -implicitDefEqProofs [h1,h2,h2',Dt]
 have h2':¬(6:Int)≤l.length:=by omega
 simp -implicitDefEqProofs [h1,h2']
 refine Aa (hX l t (by unfold maxLen;omega)) ?_
 by_cases h3:t∈Aq l
 ·have h3':0≤Js l t:=by
   by_cases h:Js l t<0
   ·rw[ALp]at h;exact absurd h3 h
   ·omega
  simp -implicitDefEqProofs [h1,h2,h3',h3,Dt,←ht]
 have h3':¬0≤Js l t:=by
  have:Js l t<0:=by rw[ALp];exact h3
  omega
 have e:Dt l seed=l.take (Amo l seed)++⟨t,AjE seed⟩::l.drop (Amo l seed):=by
  unfold Dt
  rw[if_pos]
  ·rw[ht]
  ·simp[h1,h2,←ht,h3]
 have hgp:=Av2 l seed (by omega)
 have hgb:=AsQ seed
 rw[e]
 simp -implicitDefEqProofs [h3']
 refine Aa (hP seed 2 3) ?_
 have hp2:=SX seed 2 (n:=3) ⟨by omega,by omega⟩
 have eb:AjE seed=List.replicate (pick seed 2 3).toNat (pick seed 3 256):=rfl
 obtain⟨n,hn⟩:∃n:Nat,pick seed 2 3=n:=⟨(pick seed 2 3).toNat,by omega⟩
 rw[hn]at eb hp2⊢
 rw[Int.toNat_natCast]at eb
 rw[eb]at hgb⊢
 generalize hv:pick seed 3 256=v at *
 simp -implicitDefEqProofs
 refine Ae (fun k s=>∃j o2 o3,j+k=n∧s=⟨[.sl 1 2 l.length (l.flatMap Br),I seed,.undef,.undef,.arr 0,.ptr 1 0,I k,.undef,.undef,.undef],[.arr 2 0 l.length (l.flatMap Br),.var [I t,.arr 9],o2,o3,.free,.free,.free,.free,.free,.arr 1 0 j (ints (List.replicate j v))]⟩) ?_ (n) _ ⟨0,.free,.free,by simp,by simp[ints]⟩
 intro k s ⟨j,o2,o3,hj,hs⟩
 subst hs
 by_cases hjn:j<n
 ·have hk0:0<k:=by omega
  have hb1:(j+1)*8≤1099511627776:=by omega
  have hwk:IntKind.i64.wrap ((k:Int)-1)=(k-1:Nat):=by rw[Ad (by omega) (by omega)];omega
  simp -implicitDefEqProofs [hk0]
  refine Aa (hP seed 3 256) ?_
  rw[hv]
  simp -implicitDefEqProofs [hb1]
  exact⟨k-1,by omega,j+1,by omega,by simp[hwk],by simp[ints,List.replicate_succ']⟩
 have hk0:k=0:=by omega
 obtain rfl:j=n:=by omega
 subst hk0
 have hwl:IntKind.i64.wrap ((l.length:Int)+1)=(l.length:Int)+1:=Ad (by omega) (by omega)
 simp -implicitDefEqProofs [hwl]
 refine Aa (hP seed 1 (l.length+1)) ?_
 have hp1:=SX seed 1 (n:=(l.length:Int)+1) ⟨by omega,by omega⟩
 have eg:Amo l seed=(pick seed 1 (l.length+1)).toNat:=rfl
 generalize pick seed 1 (l.length+1)=k1 at hp1 eg
 obtain⟨kk,rfl⟩:∃kk:Nat,k1=kk:=⟨k1.toNat,by omega⟩
 rw[Int.toNat_natCast]at eg
 rw[eg]at hgp⊢
 have hk1:(kk:Int)≤l.length:=by omega
 have hb2:kk*32≤1099511627776:=by omega
 have hb3:(kk+1)*32≤1099511627776:=by omega
 have hb4:(kk+1+(l.length-kk))*32≤1099511627776:=by omega
 simp -implicitDefEqProofs [hk1,hgp,hb2,hb3,hb4,AsO hgp,AyH hgp]
 all_goals omega
theorem AuP {l:List Ext} (hl:Ub l) (h6:l.length≤4194303) (seed:Int):Ub (Dt l seed):=by
 unfold Dt
 split
 ·refine⟨?_,?_⟩
  ·simp;omega
  ·intro x hx
   rcases List.mem_append.1 hx with h | h
   ·exact hl.2 x (List.mem_of_mem_take h)
   ·rcases List.mem_cons.1 h with h | h
    ·subst h;have:=AsQ seed;dsimp only;omega
    ·exact hl.2 x (List.mem_of_mem_drop h)
 ·exact hl
def bare (ts:List Int):List Ext:=ts.map fun t=>⟨t,[]⟩
theorem M0 (ts:List Int):(bare ts).length=ts.length:=by simp[bare]
theorem Aim {ts:List Int} (h:ts.length≤4194304):Ub (bare ts):=⟨by rw[M0];exact h,fun x hx=>by
 obtain⟨t,_,rfl⟩:=List.mem_map.1 hx;simp⟩
theorem AnQ {ts:List Int} {j:Nat} (h:j<ts.length):(bare (ts.take j)).flatMap Br++ [.sc (.int .i64 ts[j]),.sl 0 1 0 []]=(bare (ts.take (j+1))).flatMap Br:=by
 have e:ts.take (j+1)=ts.take j++ [ts[j]]:=by simp
 rw[e]
 unfold bare
 rw[List.map_append,List.flatMap_append]
 rfl
def He (e:AL) (seed:Int):Hello:=if Az e=true then⟨e.versions,Dt (bare e.tags) seed⟩else AQ
abbrev O9 (R:Rel):Prop:=∀(e:AL) (seed:Int),Ac e≤4194304→R [arg (Ak e),I seed] [] (.agg (CU (He e seed))) []
theorem Vx {e:AL} (h:Az e=true):e.tags.length≤5:=by
 unfold Az at h
 simp only[Bool.and_eq_true,decide_eq_true_eq]at h
 exact h.2.1
theorem AkW {e:AL} (hsz:Ac e≤4194304) (seed:Int):hB (He e seed):=by
 unfold He
 split
 ·rename_i h
  have:=Vx h
  exact⟨U1 hsz,AuP (Aim (by omega)) (by rw[M0];omega) seed⟩
 ·exact AiP
theorem Aub (D:Dn) (hE:ET (D N9)) (hG:Ju (D Agn)):O9 (Body D Uu):=by
 intro e seed hsz
 have hl:=XR hsz
 have hv:=U1 hsz
 simp -implicitDefEqProofs
 refine Aa (hE e hl) ?_
 by_cases h1:Az e=true
 rotate_left
 ·simp -implicitDefEqProofs [h1,He,AQ]
 have h5:=Vx h1
 have he:He e seed=⟨e.versions,Dt (bare e.tags) seed⟩:=by unfold He;rw[if_pos h1]
 rw[he]
 have hb2:e.versions.length*8≤1099511627776:=by omega
 simp -implicitDefEqProofs [h1]
 refine Ae (fun k s=>∃j o3 o4,j+k=e.tags.length∧s=⟨[.undef,I seed,.ptr 0 0,.ptr 1 0,.arr 8,I j,.undef,.undef],[.var ((Ak e).map (AZ 1)),.var [.nil 1,.nil 2],.free,o3,o4,.free,.free,.free,.arr 2 0 j ((bare (e.tags.take j)).flatMap Br)]⟩) ?_ (e.tags.length) _ ⟨0,.free,.free,by simp,by simp[bare]⟩
 intro k s ⟨j,o3,o4,hj,hs⟩
 subst hs
 by_cases hjn:j<e.tags.length
 ·have hw:IntKind.i64.wrap ((j:Int)+1)=(j+1:Nat):=by rw[Ad (by omega) (by omega)];simp
  have hst:=AnQ hjn
  have hb1:(j+1)*32≤1099511627776:=by omega
  have hlen:(bare (e.tags.take j)).length=j:=by rw[M0];simp;omega
  have hlen2:(bare (e.tags.take (j+1))).length=j+1:=by rw[M0];simp;omega
  simp -implicitDefEqProofs [hjn,hb1]
  exact⟨k-1,by omega,j+1,by omega,by simp[hw],by rw[←hst];exact⟨rfl,rfl⟩⟩
 have e2:e.tags.take j=e.tags:=List.take_of_length_le (by omega)
 obtain rfl:j=e.tags.length:=by omega
 simp -implicitDefEqProofs [hjn,e2,hb2]
 have hq:=hG (bare e.tags) seed (Aim (by omega))
 rw[M0]at hq
 refine Aa (hq) ?_
 simp -implicitDefEqProofs
theorem AuA (D:Dn) (hE:ET (D Oc)) (hG:Ju (D AhA)):O9 (Body D TL):=by
 intro e seed hsz
 have hl:=XR hsz
 have hv:=U1 hsz
 simp -implicitDefEqProofs
 refine Aa (hE e hl) ?_
 by_cases h1:Az e=true
 rotate_left
 ·simp -implicitDefEqProofs [h1,He,AQ]
 have h5:=Vx h1
 have he:He e seed=⟨e.versions,Dt (bare e.tags) seed⟩:=by unfold He;rw[if_pos h1]
 rw[he]
 have hb2:e.versions.length*8≤1099511627776:=by omega
 simp -implicitDefEqProofs [h1]
 refine Ae (fun k s=>∃j o3 o4,j+k=e.tags.length∧s=⟨[.undef,I seed,.ptr 0 0,.ptr 1 0,.arr 8,.undef,.undef,.sl 1 1 e.tags.length (ints e.tags),I e.tags.length,I j,.undef],[.var ((Ak e).map (AZ 1)),.var [.nil 1,.nil 2],.free,o3,o4,.free,.free,.free,.arr 2 0 j ((bare (e.tags.take j)).flatMap Br)]⟩) ?_ (e.tags.length) _ ⟨0,.free,.free,by simp,by simp[bare]⟩
 intro k s ⟨j,o3,o4,hj,hs⟩
 subst hs
 by_cases hjn:j<e.tags.length
 ·have hw:IntKind.i64.wrap ((j:Int)+1)=(j+1:Nat):=by rw[Ad (by omega) (by omega)];simp
  have hst:=AnQ hjn
  have hb1:(j+1)*32≤1099511627776:=by omega
  have hlen:(bare (e.tags.take j)).length=j:=by rw[M0];simp;omega
  have hlen2:(bare (e.tags.take (j+1))).length=j+1:=by rw[M0];simp;omega
  simp -implicitDefEqProofs [hjn,hb1]
  exact⟨k-1,by omega,j+1,by omega,by simp[hw],by rw[←hst];exact⟨rfl,rfl⟩⟩
 have e2:e.tags.take j=e.tags:=List.take_of_length_le (by omega)
 obtain rfl:j=e.tags.length:=by omega
 simp -implicitDefEqProofs [hjn,e2,hb2]
 have hq:=hG (bare e.tags) seed (Aim (by omega))
 rw[M0]at hq
 refine Aa (hq) ?_
 simp -implicitDefEqProofs
def Mw:Cw:=⟨FZ,0,[]⟩
def KX (e:AL) (vs tags:List Int) (key seed:Int):Cw:=if Az e=true then Atd (He e seed) e.path vs tags key else Mw
abbrev OJ (R:Rel):Prop:=∀(e:AL) (vs tags:List Int) (key seed:Int),Ac e≤4194304→vs.length≤4194304→tags.length≤4194304→
 R [arg (Ak e),.sl 1 1 vs.length (ints vs),.sl 1 1 tags.length (ints tags),I key,I seed] [] (.agg (AP (KX e vs tags key seed))) []
theorem Au6 (D:Dn) (hE:ET (D N9)) (hH:O9 (D AlE)) (hD:AfO (D Auw)):OJ (Body D TP):=by
 intro e vs tags key seed hsz hv ht
 have hl:=XR hsz
 simp -implicitDefEqProofs
 refine Aa (hE e hl) ?_
 by_cases h1:Az e=true
 rotate_left
 ·simp -implicitDefEqProofs [h1,KX,Mw,FZ]
 simp -implicitDefEqProofs [h1]
 refine Aa (hH e seed hsz) ?_
 have hh:=AkW hsz seed
 have he:KX e vs tags key seed=Atd (He e seed) e.path vs tags key:=by unfold KX;rw[if_pos h1]
 rw[he]
 generalize He e seed=h at hh
 simp -implicitDefEqProofs
 refine Aa (hD h e.path vs tags key hh hl.2.2 hv ht) ?_
 simp -implicitDefEqProofs
theorem Avg (D:Dn) (hE:ET (D Oc)) (hH:O9 (D AlX)) (hD:AfO (D Aui)):OJ (Body D TB):=by
 intro e vs tags key seed hsz hv ht
 have hl:=XR hsz
 simp -implicitDefEqProofs
 refine Aa (hE e hl) ?_
 by_cases h1:Az e=true
 rotate_left
 ·simp -implicitDefEqProofs [h1,KX,Mw,FZ]
 simp -implicitDefEqProofs [h1]
 refine Aa (hH e seed hsz) ?_
 have hh:=AkW hsz seed
 have he:KX e vs tags key seed=Atd (He e seed) e.path vs tags key:=by unfold KX;rw[if_pos h1]
 rw[he]
 generalize He e seed=h at hh
 simp -implicitDefEqProofs
 refine Aa (hD h e.path vs tags key hh hl.2.2 hv ht) ?_
 simp -implicitDefEqProofs
def clip (n:Int):Int:=max (-100000) (min 100000 n)
abbrev AvY (R:Rel):Prop:=∀n:Int,R [I n] [] (I (clip n)) []
theorem Ayy (D:Dn) (hM:Ath (D AnS)) (hN:AvR (D Axo)):AvY (Body D Un):=by
 intro n
 simp -implicitDefEqProofs
 refine Aa (hN _ _) ?_
 simp -implicitDefEqProofs
 refine Aa (hM _ _) ?_
 simp -implicitDefEqProofs [clip]
def MQ (w:World) (i:Int):Cw:=if SH i 0 ((w.ends.length:Int)-1)then(match w.ends[i.toNat]? with | some e=>KX e w.server w.tags w.key (16*clip w.now+i) | none=>Mw)else Mw
abbrev Te (R:Rel):Prop:=∀(w:World) (i:Int),Ay w≤4194304→R [arg (EF w),I i] [] (.agg (AP (MQ w i))) []
theorem Awl (n:Int):-100000≤clip n∧clip n≤100000:=by unfold clip;omega
theorem Axj (D:Dn) (hI:SG (D CB)) (hC:AvY (D AmQ)) (hB:OJ (D Am6)):Te (Body D Vk):=by
 intro w i hsz
 have he:=JQ hsz
 have hw:IntKind.i64.wrap ((w.ends.length:Int)-1)=(w.ends.length:Int)-1:=Ad (by omega) (by omega)
 simp -implicitDefEqProofs [hw]
 refine Aa (hI _ _ _) ?_
 by_cases h1:SH i 0 ((w.ends.length:Int)-1)
 rotate_left
 ·simp -implicitDefEqProofs [h1,MQ,Mw,FZ]
 obtain⟨n,rfl⟩:∃n:Nat,i=n:=⟨i.toNat,by have:=h1.1;omega⟩
 have hn:n<w.ends.length:=by have:=h1.2;omega
 have hb:=NZ hsz
 have hes:=Q6 hsz hn
 have e:MQ w n=KX w.ends[n] w.server w.tags w.key (16*clip w.now+n):=by unfold MQ;rw[if_pos h1];simp[hn]
 rw[e]
 simp -implicitDefEqProofs [h1,hn]
 refine Aa (hC w.now) ?_
 have hcl:=Awl w.now
 generalize clip w.now=c at hcl
 have hw1:IntKind.i64.wrap (16*c)=16*c:=Ad (by omega) (by omega)
 have hw2:IntKind.i64.wrap (16*c+n)=16*c+n:=Ad (by omega) (by omega)
 simp -implicitDefEqProofs [hw1,hw2]
 refine Aa (hB w.ends[n] w.server w.tags w.key _ hes hb.1 hb.2.1) ?_
 simp -implicitDefEqProofs
theorem AxZ (D:Dn) (hI:Aid (D Aph)) (hB:OJ (D AlH)):Te (Body D Vu):=by
 intro w i hsz
 have he:=JQ hsz
 simp -implicitDefEqProofs
 refine Aa (hI w i he) ?_
 by_cases h1:SH i 0 ((w.ends.length:Int)-1)
 rotate_left
 ·simp -implicitDefEqProofs [h1,MQ,Mw,FZ]
 obtain⟨n,rfl⟩:∃n:Nat,i=n:=⟨i.toNat,by have:=h1.1;omega⟩
 have hn:n<w.ends.length:=by have:=h1.2;omega
 have hb:=NZ hsz
 have hes:=Q6 hsz hn
 have e:MQ w n=KX w.ends[n] w.server w.tags w.key (16*clip w.now+n):=by unfold MQ;rw[if_pos h1];simp[hn]
 rw[e]
 simp -implicitDefEqProofs [h1,hn]
 have hc:(if(if 100000<w.now then 100000 else w.now)< -100000 then -100000 else if 100000<w.now then 100000 else w.now)=clip w.now:=by
  unfold clip
  split<;>split<;>omega
 rw[hc]
 have hcl:=Awl w.now
 generalize clip w.now=c at hcl
 have hw1:IntKind.i64.wrap (16*c)=16*c:=Ad (by omega) (by omega)
 have hw2:IntKind.i64.wrap (16*c+n)=16*c+n:=Ad (by omega) (by omega)
 rw[hw1,hw2]
 refine Aa (hB w.ends[n] w.server w.tags w.key _ hes hb.1 hb.2.1) ?_
 simp -implicitDefEqProofs
end Go.Eng.T
namespace Go.Eng.T
set_option maxRecDepth 20000
set_option maxHeartbeats 4000000
def Cb (w:World) (r:EH):World:={w with rollout:=r}
def BU (w:World):World×Bool:=
 if w.reached=0 then(w,false)
 else if Ld w=1 then(if(Bu w.rollout).2=true then(enter (Cb w (Bu w.rollout).1),true)else(w,false))
 else if Ld w=2 then(if(BN w.rollout).2=true then(leave (Cb w (BN w.rollout).1),true)else(w,false))
 else(w,false)
abbrev Ox (R:Rel):Prop:=∀w:World,Ay w≤4194304→R [arg (EF w)] [] (.tup [.agg (EF (BU w).1),B (BU w).2]) []
theorem ANv (r:EH):Bg (Bu r).1=Bg r:=by unfold Bu;split<;>rfl
theorem Anb (r:EH):Bg (BN r).1=Bg r:=by unfold BN;split<;>rfl
theorem ANC (r:EH):(BN r).1.version=r.version:=by unfold BN;split<;>rfl
theorem Agv {w:World} {r:EH} (h:Bg r=Bg w.rollout):Ay (Cb w r)=Ay w:=by simp only[Ay,Cb,h]
theorem ANJ {w:World} {r:EH} (h:r.version=w.rollout.version):leave (Cb w r)=Cb (leave w) r:=by
 have e:D6 (Cb w r)=D6 w:=by
  funext x
  unfold D6 Cb
  rw[h]
 unfold leave
 rw[e]
 rfl
theorem AJv (D:Dn) (hC:Ef (D AyU)) (hN:OB (D Ay8)) (hX:Oh (D Azc)) (hE:Je (D Axl)) (hB:Og (D Azf)) (hL:IQ (D Aur)):Ox (Body D Adq):=by
 intro w hsz
 have hr:=Xn hsz
 simp -implicitDefEqProofs
 refine Aa (hC w hsz) ?_
 by_cases h0:w.reached=0
 ·have e:BU w=(w,false):=by unfold BU;rw[if_pos h0]
  simp -implicitDefEqProofs [h0,e]
 simp -implicitDefEqProofs [h0]
 refine Aa (hN w hsz) ?_
 by_cases g1:Ld w=1
 ·simp -implicitDefEqProofs [g1]
  refine Aa (hX w.rollout hr) ?_
  have hs:=ANv w.rollout
  by_cases hk:(Bu w.rollout).2=true
  ·have e:BU w=(enter (Cb w (Bu w.rollout).1),true):=by unfold BU;rw[if_neg h0,if_pos g1,if_pos hk]
   rw[e]
   generalize(Bu w.rollout).1=r at hs
   simp -implicitDefEqProofs [hk]
   refine Aa (hE (Cb w r) (by rw[Agv hs];exact hsz)) ?_
   simp -implicitDefEqProofs
  ·have e:BU w=(w,false):=by unfold BU;rw[if_neg h0,if_pos g1,if_neg hk]
   rw[e]
   generalize(Bu w.rollout).1=r
   simp -implicitDefEqProofs [hk]
   refine Aa (hC w hsz) ?_
   simp -implicitDefEqProofs
 simp -implicitDefEqProofs [g1]
 by_cases g2:Ld w=2
 ·simp -implicitDefEqProofs [g2]
  refine Aa (hB w.rollout hr) ?_
  have hs:=Anb w.rollout
  by_cases hk:(BN w.rollout).2=true
  ·have e:BU w=(leave (Cb w (BN w.rollout).1),true):=by unfold BU;rw[if_neg h0,if_neg g1,if_pos g2,if_pos hk]
   rw[e]
   generalize(BN w.rollout).1=r at hs
   simp -implicitDefEqProofs [hk]
   refine Aa (hL (Cb w r) (by rw[Agv hs];exact hsz)) ?_
   simp -implicitDefEqProofs
  ·have e:BU w=(w,false):=by unfold BU;rw[if_neg h0,if_neg g1,if_pos g2,if_neg hk]
   rw[e]
   generalize(BN w.rollout).1=r
   simp -implicitDefEqProofs [hk]
   refine Aa (hC w hsz) ?_
   simp -implicitDefEqProofs
 have e:BU w=(w,false):=by unfold BU;rw[if_neg h0,if_neg g1,if_neg g2]
 rw[e]
 simp -implicitDefEqProofs [g2]
 refine Aa (hC w hsz) ?_
 simp -implicitDefEqProofs
theorem ANw (D:Dn) (hC:Ef (D ACA)) (hN:OB (D AzL)) (hX:Oh (D Azs)) (hE:Je (D Ax6)) (hB:Og (D Azh)) (hL:IQ (D Aun)):Ox (Body D ALM):=by
 intro w hsz
 have hr:=Xn hsz
 simp -implicitDefEqProofs
 refine Aa (hC w hsz) ?_
 by_cases h0:w.reached=0
 ·have e:BU w=(w,false):=by unfold BU;rw[if_pos h0]
  simp -implicitDefEqProofs [h0,e]
 simp -implicitDefEqProofs [h0]
 refine Aa (hN w hsz) ?_
 by_cases g1:Ld w=1
 ·simp -implicitDefEqProofs [g1]
  refine Aa (hX w.rollout hr) ?_
  have hs:=ANv w.rollout
  by_cases hk:(Bu w.rollout).2=true
  ·have e:BU w=(enter (Cb w (Bu w.rollout).1),true):=by unfold BU;rw[if_neg h0,if_pos g1,if_pos hk]
   rw[e]
   generalize(Bu w.rollout).1=r at hs
   simp -implicitDefEqProofs [hk]
   refine Aa (hE (Cb w r) (by rw[Agv hs];exact hsz)) ?_
   simp -implicitDefEqProofs
  ·have e:BU w=(w,false):=by unfold BU;rw[if_neg h0,if_pos g1,if_neg hk]
   rw[e]
   generalize(Bu w.rollout).1=r
   simp -implicitDefEqProofs [hk]
 simp -implicitDefEqProofs [g1]
 by_cases g2:Ld w=2
 ·simp -implicitDefEqProofs [g2]
  refine Aa (hB w.rollout hr) ?_
  have hv:=ANC w.rollout
  by_cases hk:(BN w.rollout).2=true
  ·have e:BU w=(Cb (leave w) (BN w.rollout).1,true):=by unfold BU;rw[if_neg h0,if_neg g1,if_pos g2,if_pos hk,ANJ hv]
   rw[e]
   generalize(BN w.rollout).1=r
   simp -implicitDefEqProofs [hk]
   refine Aa (hL w hsz) ?_
   simp -implicitDefEqProofs [Cb]
  ·have e:BU w=(w,false):=by unfold BU;rw[if_neg h0,if_neg g1,if_pos g2,if_neg hk]
   rw[e]
   generalize(BN w.rollout).1=r
   simp -implicitDefEqProofs [hk]
 have e:BU w=(w,false):=by unfold BU;rw[if_neg h0,if_neg g1,if_neg g2]
 rw[e]
 simp -implicitDefEqProofs [g2]
end Go.Eng.T
namespace Go.Eng.T
set_option maxRecDepth 20000
set_option maxHeartbeats 2000000
theorem Aii (p:Int→Bool) (l:List Ext):(kept p l).length≤l.length:=List.length_filter_le _ _
theorem AuB (b:Gu) (h:Hello):(BS b h).1.exts.length≤h.exts.length:=by
 unfold BS
 split
 ·exact Aii _ _
 ·simp[AQ]
theorem AnR:∀(path:List Gu) (h:Hello),(Iu path h).1.exts.length≤h.exts.length
 | [],h=>by simp[Iu]
 | b::r,h=>by
  have h1:=AuB b h
  have h2:=AnR r (BS b h).1
  unfold Iu
  split
  ·omega
  ·simp[AQ]
theorem ArC (path:List Gu) (h:Hello):(A7 path h).1.exts.length≤h.exts.length:=by
 unfold A7
 split
 ·exact AnR _ _
 ·simp[AQ]
theorem AEd (h:Hello) (a b:List Int):(Fh h a b).1.exts.length≤h.exts.length:=by
 unfold Fh
 split
 ·exact Aii (fun t=> !decide (t∈b)) h.exts
 ·simp[AQ]
theorem ADa (h:Hello) (path:List Gu):(Cr h path).1.exts.length≤h.exts.length:=by
 unfold Cr fallback
 have:=AEd h (Bj path h.versions) (Ff path (leftOf h.versions (Bj path h.versions)) h.exts)
 repeat' split
 all_goals simp[AQ]<;>omega
theorem AwR (h seen:Hello) (vs tags:List Int) (key:Int):(AdJ h seen vs tags key).tags.length≤seen.exts.length:=by
 unfold AdJ
 split
 ·have:(Bf vs tags seen).1.exts.length≤seen.exts.length:=by
   unfold Bf
   split
   ·exact Nat.le_trans (Aii (fun t=> !Am t) (KT seen.exts tags)) (Aii (fun t=>decide (t∈tags)) seen.exts)
   ·simp
  simpa[Aq]using this
 ·simp[FZ]
theorem AD2 (h:Hello) (path:List Gu) (vs tags:List Int) (key:Int):Al (Atd h path vs tags key)≤2*h.exts.length+h.versions.length:=by
 unfold Atd
 split
 ·have h1:=ADa h path
  have h2:=ArC path (Cr h path).1
  have h3:(UZ (Cr h path).1 path vs tags key).tags.length≤h.exts.length:=by
   unfold UZ
   split
   ·have:=AwR (Cr h path).1 (A7 path (Cr h path).1).1 vs tags key;omega
   ·simp[FZ]
  have h4:(AL1 h (Cr h path).1).length≤h.exts.length+h.versions.length:=by
   unfold AL1 leftOf
   have a1:=List.length_filter_le (fun v=> !decide (v∈(Cr h path).1.versions)) h.versions
   have a2:=List.length_filter_le (AfT (Aq (Cr h path).1.exts)) (Aq h.exts)
   have a3:(Aq h.exts).length=h.exts.length:=Nb _
   simp only[List.length_append,List.length_map]
   omega
  simp only[Al,E9]
  omega
 ·simp[Al,E9,FZ]
theorem AyM (l:List Ext) (seed:Int) (h:l.length≤5):(Dt l seed).length≤6:=by
 unfold Dt
 split
 ·simp;omega
 ·omega
theorem AvA (e:AL) (vs tags:List Int) (key seed:Int):Al (KX e vs tags key seed)≤21:=by
 unfold KX
 split
 ·rename_i h1
  have h5:=Vx h1
  have e1:He e seed=⟨e.versions,Dt (bare e.tags) seed⟩:=by unfold He;rw[if_pos h1]
  have h2:=AD2 (He e seed) e.path vs tags key
  have h3:=AyM (bare e.tags) seed (by rw[M0];exact h5)
  have h4:e.versions.length≤9:=by
   unfold Az at h1
   simp only[Bool.and_eq_true,decide_eq_true_eq]at h1
   exact Arj h1.1
  rw[e1]at h2⊢
  dsimp only at h2⊢
  omega
 ·simp[Al,E9,Mw,FZ]
theorem Aym (w:World) (i:Int):Al (MQ w i)≤21:=by
 unfold MQ
 repeat' split
 all_goals first | exact AvA _ _ _ _ _ | simp[Al,E9,Mw,FZ]
def Awc (w:World) (i:Int) (d:Cw) (on:Bool):World:=
 {w with log:=w.log++ [⟨i,w.now,on,d⟩],stage:=(if on=true then w.stage++ [d]else w.stage),hurt:=(if(on&&Pe w.rollout.version d)=true then IntKind.i64.wrap (w.hurt+1)else w.hurt)}
def AwO (w:World) (i:Int):Bool:=decide (SH i 0 ((w.ends.length:Int)-1))&&(decide (w.log.length<60)&&decide (w.stage.length<60))
def U8 (w:World) (i:Int):World×Bool:=if AwO w i=true then(Awc w i (MQ w i) (ADC w i),true)else(w,false)
abbrev QJ (R:Rel):Prop:=∀(w:World) (i:Int),Ay w≤4194304→R [arg (EF w),I i] [] (.tup [.agg (EF (U8 w i).1),B (U8 w i).2]) []
theorem ANB (D:Dn) (hC:Ef (D ACA)) (hI:SG (D CB)) (hDo:Te (D Ap3)) (hOn:TF (D ACQ)) (hCd:Nr (D AzC)) (hB:FU (D Ag5)):QJ (Body D LB):=by
 intro w i hsz
 have he:=JQ hsz
 have hw:IntKind.i64.wrap ((w.ends.length:Int)-1)=(w.ends.length:Int)-1:=Ad (by omega) (by omega)
 simp -implicitDefEqProofs
 refine Aa (hC w hsz) ?_
 simp -implicitDefEqProofs [hw]
 refine Aa (hI _ _ _) ?_
 by_cases h1:SH i 0 ((w.ends.length:Int)-1)
 rotate_left
 ·simp -implicitDefEqProofs [h1,U8,AwO]
 by_cases h2:w.log.length<60
 rotate_left
 ·have h2':(60:Int)≤w.log.length:=by omega
  simp -implicitDefEqProofs [h1,h2,h2',U8,AwO]
 have h2':¬(60:Int)≤w.log.length:=by omega
 by_cases h3:w.stage.length<60
 rotate_left
 ·have h3':(60:Int)≤w.stage.length:=by omega
  simp -implicitDefEqProofs [h1,h2,h2',h3,h3',U8,AwO]
 have h3':¬(60:Int)≤w.stage.length:=by omega
 have e:U8 w i=(Awc w i (MQ w i) (ADC w i),true):=by unfold U8 AwO;rw[if_pos (by simp[h1,h2,h3])]
 rw[e]
 have hds:=Aym w i
 simp -implicitDefEqProofs [h1,h2',h3']
 refine Aa (hDo w i hsz) ?_
 generalize MQ w i=d at hds
 simp -implicitDefEqProofs
 refine Aa (hOn w i hsz) ?_
 generalize ADC w i=on
 have b1:(w.log.length+1)*96≤1099511627776:=by omega
 have b2:(w.stage.length+1)*72≤1099511627776:=by omega
 have b3:d.up.length≤maxLen:=by unfold Al at hds;unfold maxLen;omega
 by_cases g:on=true
 rotate_left
 ·simp -implicitDefEqProofs [g,b1,Awc,Ar]
 simp -implicitDefEqProofs [g,b1]
 trace_state
 refine Aa (hCd d (by omega)) ?_
 simp -implicitDefEqProofs [g,b1,b2]
 refine Aa (hB d _ b3) ?_
 by_cases g2:Pe w.rollout.version d=true
 ·simp -implicitDefEqProofs [g,g2,b1,b2,Awc,Ar,AP]
 ·simp -implicitDefEqProofs [g,g2,b1,b2,Awc,Ar,AP]
theorem AJU (D:Dn) (hC:Ef (D AyU)) (hI:Aid (D Aph)) (hDo:Te (D AoK)) (hOn:TF (D ACJ)) (hCd:Nr (D Aye)) (hB:FU (D AhR)):QJ (Body D Agx):=by
 intro w i hsz
 have he:=JQ hsz
 simp -implicitDefEqProofs
 refine Aa (hC w hsz) ?_
 simp -implicitDefEqProofs
 refine Aa (hI w i he) ?_
 by_cases h1:SH i 0 ((w.ends.length:Int)-1)
 rotate_left
 ·simp -implicitDefEqProofs [h1,U8,AwO]
 by_cases h2:w.log.length<60
 rotate_left
 ·have h2':(60:Int)≤w.log.length:=by omega
  simp -implicitDefEqProofs [h1,h2,h2',U8,AwO]
 have h2':¬(60:Int)≤w.log.length:=by omega
 by_cases h3:w.stage.length<60
 rotate_left
 ·have h3':(60:Int)≤w.stage.length:=by omega
  simp -implicitDefEqProofs [h1,h2,h2',h3,h3',U8,AwO]
 have h3':¬(60:Int)≤w.stage.length:=by omega
 have e:U8 w i=(Awc w i (MQ w i) (ADC w i),true):=by unfold U8 AwO;rw[if_pos (by simp[h1,h2,h3])]
 rw[e]
 have hds:=Aym w i
 simp -implicitDefEqProofs [h1,h2',h3']
 refine Aa (hDo w i hsz) ?_
 generalize MQ w i=d at hds
 simp -implicitDefEqProofs
 refine Aa (hOn w i hsz) ?_
 generalize ADC w i=on
 have b1:(w.log.length+1)*96≤1099511627776:=by omega
 have b2:(w.stage.length+1)*72≤1099511627776:=by omega
 have b3:d.up.length≤maxLen:=by unfold Al at hds;unfold maxLen;omega
 by_cases g:on=true
 rotate_left
 ·simp -implicitDefEqProofs [g,b1,Awc,Ar]
 simp -implicitDefEqProofs [g,b1]
 trace_state
 refine Aa (hCd d (by omega)) ?_
 simp -implicitDefEqProofs [g,b1,b2]
 refine Aa (hB d _ b3) ?_
 by_cases g2:Pe w.rollout.version d=true
 ·simp -implicitDefEqProofs [g,g2,b1,b2,Awc,Ar,AP]
 ·simp -implicitDefEqProofs [g,g2,b1,b2,Awc,Ar,AP]
theorem AqA (w:World) (i:Int):Ay (U8 w i).1+(60-(U8 w i).1.log.length)*50≤Ay w+(60-w.log.length)*50∧(U8 w i).1.ends=w.ends∧(U8 w i).1.rollout=w.rollout:=by
 unfold U8
 split
 ·rename_i h
  unfold AwO at h
  simp only[Bool.and_eq_true,decide_eq_true_eq]at h
  have hd:=Aym w i
  refine⟨?_,rfl,rfl⟩
  unfold Awc
  simp only[Ay,Bw,List.length_append,List.length_cons,List.length_nil,List.map_append,List.map_cons,List.map_nil,List.sum_append,List.sum_cons,List.sum_nil,Av]
  split
  ·simp only[List.length_append,List.length_cons,List.length_nil,List.map_append,List.map_cons,List.map_nil,List.sum_append,List.sum_cons,List.sum_nil];omega
  ·omega
 ·exact⟨Nat.le_refl _,rfl,rfl⟩
def Awq (w:World):Nat→World
 | 0=>w
 | n+1=>(U8 (Awq w n) n).1
theorem AxU (w:World):∀n,Ay (Awq w n)+(60-(Awq w n).log.length)*50≤Ay w+(60-w.log.length)*50
 | 0=>Nat.le_refl _
 | n+1=>Nat.le_trans (AqA (Awq w n) n).1 (AxU w n)
end Go.Eng.T
namespace Go.Eng.T
theorem ANM (s:List Int) (ls:List (List Int)) (v pm:Int):(F6 s ls v pm).1.length≤s.length:=by
 unfold F6
 split
 ·exact List.length_filter_le _ _
 ·exact Nat.le_refl _
theorem ANe (w:World) (v pm:Int):Ay (BF w v pm).1≤Ay w:=by
 unfold BF
 have:=ANM w.server (GY w) v pm
 split
 ·simp only[Ay];omega
 ·exact Nat.le_refl _
end Go.Eng.T
namespace Go.Eng.T
set_option maxRecDepth 20000
set_option maxHeartbeats 4000000
def AB (w:World) (e:Event):World×Bool:=
 if e.kind=1 then U8 w e.n else if e.kind=2 then CO w else if e.kind=3 then BU w else if e.kind=4 then BF w e.n 200 else if e.kind=5 then ALc w e.n
 else if e.kind=6 then AK7 w e.n e.box else if e.kind=7 then Dp w e.n else if e.kind=8 then Eg w e.n else(w,false)
abbrev LV (R:Rel):Prop:=∀(w:World) (e:Event),Ay w≤4194304→Aic e≤4194304→R [arg (EF w),arg (CY e)] [] (.tup [.agg (EF (AB w e).1),B (AB w e).2]) []
theorem ANi (D:Dn) (hC:Ef (D ACA)) (h1:QJ (D ABu)) (h2:OP (D Azq)) (h3:Ox (D Azm)) (h4:LZ (D AxP)) (h5:Mg (D Axs))
 (h6:Uk (D ACC)) (h7:NA (D Azj)) (h8:Qv (D AAA)):LV (Body D ALA):=by
 intro w e hsz hse
 simp -implicitDefEqProofs
 by_cases g1:e.kind=1
 ·have ha:AB w e=U8 w e.n:=by unfold AB;simp[g1]
  rw[ha]
  simp -implicitDefEqProofs [g1]
  refine Aa (h1 w e.n hsz) ?_
  generalize U8 w e.n=r
  simp -implicitDefEqProofs
 by_cases g2:e.kind=2
 ·have ha:AB w e=CO w:=by unfold AB;simp[g2]
  rw[ha]
  simp -implicitDefEqProofs [g2]
  refine Aa (h2 w hsz) ?_
  generalize CO w=r
  simp -implicitDefEqProofs
 by_cases g3:e.kind=3
 ·have ha:AB w e=BU w:=by unfold AB;simp[g3]
  rw[ha]
  simp -implicitDefEqProofs [g3]
  refine Aa (h3 w hsz) ?_
  generalize BU w=r
  simp -implicitDefEqProofs
 by_cases g4:e.kind=4
 ·have ha:AB w e=BF w e.n 200:=by unfold AB;simp[g4]
  rw[ha]
  simp -implicitDefEqProofs [g4]
  refine Aa (h4 w e.n 200 hsz) ?_
  generalize BF w e.n 200=r
  simp -implicitDefEqProofs
 by_cases g5:e.kind=5
 ·have ha:AB w e=ALc w e.n:=by unfold AB;simp[g5]
  rw[ha]
  simp -implicitDefEqProofs [g5]
  refine Aa (h5 w e.n hsz) ?_
  generalize ALc w e.n=r
  simp -implicitDefEqProofs
 by_cases g6:e.kind=6
 ·have ha:AB w e=AK7 w e.n e.box:=by unfold AB;simp[g6]
  rw[ha]
  simp -implicitDefEqProofs [g6]
  refine Aa (h6 w e.n e.box hsz hse) ?_
  generalize AK7 w e.n e.box=r
  simp -implicitDefEqProofs
 by_cases g7:e.kind=7
 ·have ha:AB w e=Dp w e.n:=by unfold AB;simp[g7]
  rw[ha]
  simp -implicitDefEqProofs [g7]
  refine Aa (h7 w e.n hsz) ?_
  generalize Dp w e.n=r
  simp -implicitDefEqProofs
 by_cases g8:e.kind=8
 ·have ha:AB w e=Eg w e.n:=by unfold AB;simp[g8]
  rw[ha]
  simp -implicitDefEqProofs [g8]
  refine Aa (h8 w e.n hsz) ?_
  generalize Eg w e.n=r
  simp -implicitDefEqProofs
 have ha:AB w e=(w,false):=by unfold AB;simp[g1,g2,g3,g4,g5,g6,g7,g8]
 rw[ha]
 simp -implicitDefEqProofs [g1,g2,g3,g4,g5,g6,g7,g8]
 refine Aa (hC w hsz) ?_
 simp -implicitDefEqProofs
theorem AJf (D:Dn) (hC:Ef (D AyU)) (h1:QJ (D ACf)) (h2:OP (D Aze)) (h3:Ox (D AzE)) (h4:LZ (D Axg)) (h5:Mg (D AyE))
 (h6:Uk (D ACP)) (h7:NA (D AzK)) (h8:Qv (D AAk)):LV (Body D Abw):=by
 intro w e hsz hse
 simp -implicitDefEqProofs
 by_cases g1:e.kind=1
 ·have ha:AB w e=U8 w e.n:=by unfold AB;simp[g1]
  rw[ha]
  simp -implicitDefEqProofs [g1]
  refine Aa (h1 w e.n hsz) ?_
  generalize U8 w e.n=r
  simp -implicitDefEqProofs
 by_cases g2:e.kind=2
 ·have ha:AB w e=CO w:=by unfold AB;simp[g2]
  rw[ha]
  simp -implicitDefEqProofs [g2]
  refine Aa (h2 w hsz) ?_
  generalize CO w=r
  simp -implicitDefEqProofs
 by_cases g3:e.kind=3
 ·have ha:AB w e=BU w:=by unfold AB;simp[g3]
  rw[ha]
  simp -implicitDefEqProofs [g3]
  refine Aa (h3 w hsz) ?_
  generalize BU w=r
  simp -implicitDefEqProofs
 by_cases g4:e.kind=4
 ·have ha:AB w e=BF w e.n 200:=by unfold AB;simp[g4]
  rw[ha]
  simp -implicitDefEqProofs [g4]
  refine Aa (h4 w e.n 200 hsz) ?_
  generalize BF w e.n 200=r
  simp -implicitDefEqProofs
 by_cases g5:e.kind=5
 ·have ha:AB w e=ALc w e.n:=by unfold AB;simp[g5]
  rw[ha]
  simp -implicitDefEqProofs [g5]
  refine Aa (h5 w e.n hsz) ?_
  generalize ALc w e.n=r
  simp -implicitDefEqProofs
 by_cases g6:e.kind=6
 ·have ha:AB w e=AK7 w e.n e.box:=by unfold AB;simp[g6]
  rw[ha]
  simp -implicitDefEqProofs [g6]
  refine Aa (h6 w e.n e.box hsz hse) ?_
  generalize AK7 w e.n e.box=r
  simp -implicitDefEqProofs
 by_cases g7:e.kind=7
 ·have ha:AB w e=Dp w e.n:=by unfold AB;simp[g7]
  rw[ha]
  simp -implicitDefEqProofs [g7]
  refine Aa (h7 w e.n hsz) ?_
  generalize Dp w e.n=r
  simp -implicitDefEqProofs
 by_cases g8:e.kind=8
 ·have ha:AB w e=Eg w e.n:=by unfold AB;simp[g8]
  rw[ha]
  simp -implicitDefEqProofs [g8]
  refine Aa (h8 w e.n hsz) ?_
  generalize Eg w e.n=r
  simp -implicitDefEqProofs
 have ha:AB w e=(w,false):=by unfold AB;simp[g1,g2,g3,g4,g5,g6,g7,g8]
 rw[ha]
 simp -implicitDefEqProofs [g1,g2,g3,g4,g5,g6,g7,g8]
 refine Aa (hC w hsz) ?_
 simp -implicitDefEqProofs
theorem Af3:∀(l:List Int) (v:Int),Ib (Auv l (Ib l v) v) v=Ib l v∧(Auv l (Ib l v) v)[Ib l v]? =some v
 | [],v=>by simp[Ib,Auv]
 | x::r,v=>by
  have:=Af3 r v
  by_cases h:x<v
  ·have e:Auv (x::r) (Ib (x::r) v) v=x::Auv r (Ib r v) v:=by simp[Ib,if_pos h,Auv]
   rw[e]
   simp only[Ib,if_pos h]
   exact⟨by rw[this.1],by simpa using this.2⟩
  ·simp[Ib,if_neg h,Auv]
theorem ANI (l:List Int) (v:Int):TV (TV l v) v=TV l v:=by
 by_cases h:l[Ib l v]? =some v
 ·have e:TV l v=l:=by unfold TV;rw[if_pos h]
  rw[e,e]
 ·have e:TV l v=Auv l (Ib l v) v:=by unfold TV;rw[if_neg h]
  have:=Af3 l v
  rw[e]
  unfold TV
  rw[this.1,if_pos this.2]
theorem AN2 {l:List Int} {v:Int} (h:TV l v=l):v∈l:=by
 unfold TV at h
 split at h
 ·rename_i g;exact List.mem_of_getElem? g
 ·have:=congrArg List.length h
  rw[ABF (Awp l v)]at this
  omega
def lacks (v:Int) (e:AL):Nat:=if TV e.versions v=e.versions then 0 else 1
def ALC (v:Int) (e:AL):Nat:=Ac e+lacks v e
def pot (w:World):Nat:=w.server.length+w.tags.length+Bw (ALC w.rollout.version) w.ends+Bg w.rollout+Bw Al w.stage+Bw Av w.log+(60-w.log.length)*50
theorem ALY {α β:Type} {f:α→Nat} {g:β→Nat}:∀ {xs:List α} {ys:List β},xs.length=ys.length→(∀(i:Nat) (h:i<xs.length) (h':i<ys.length),f xs[i]≤g ys[i])→Bw f xs≤Bw g ys
 | [],[],_,_=>Nat.le_refl _
 | x::xs,y::ys,hl,h=>by
  have ih:=ALY (f:=f) (g:=g) (xs:=xs) (ys:=ys) (by simpa using hl) (fun i h1 h2=>h (i+1) (by simpa using h1) (by simpa using h2))
  have h0:=h 0 (by simp) (by simp)
  simp only[Bw,List.length_cons,List.map_cons,List.sum_cons,List.getElem_cons_zero]at *
  omega
 | [],_::_,hl,_=>by simp at hl
 | _::_,[],hl,_=>by simp at hl
theorem AOd (w:World):Ay w≤pot w:=by
 have:Bw Ac w.ends≤Bw (ALC w.rollout.version) w.ends:=ALY rfl (fun i h h'=>by unfold ALC;omega)
 unfold Ay pot
 omega
theorem AOi (w:World):pot w≤Ay w+w.ends.length+3000:=by
 have key:∀(v:Int) (l:List AL),Bw (ALC v) l≤Bw Ac l+l.length:=by
  intro v l
  induction l with
  | nil=>simp[Bw]
  | cons e l ih=>
   have:lacks v e≤1:=by unfold lacks;split<;>omega
   simp only[Bw,ALC,List.length_cons,List.map_cons,List.sum_cons]at *
   omega
 have:=key w.rollout.version w.ends
 unfold Ay pot
 omega
theorem AN9 (v:Int) (e:AL):ALC v ⟨TV e.versions v,e.tags,e.path,e.cls⟩≤ALC v e:=by
 have h1:=ABj e.versions v
 unfold ALC lacks Ac
 dsimp only
 rw[if_pos (ANI _ _)]
 split
 ·rename_i h;rw[h];omega
 ·omega
theorem filter_lt {p:Int→Bool} {l:List Int} {x:Int} (h:x∈l) (hp:p x=false):(l.filter p).length<l.length:=by
 induction l with
 | nil=>simp at h
 | cons a r ih=>
  have hr:=List.length_filter_le p r
  rcases List.mem_cons.1 h with rfl | h
  ·rw[List.filter_cons_of_neg (by simp[hp])]
   simp only[List.length_cons];omega
  ·have:=ih h
   rw[List.filter_cons]
   split<;>simp only[List.length_cons]<;>omega
theorem ANT (w:World) (e:AL):ALC w.rollout.version (D6 w e)≤ALC w.rollout.version e:=by
 unfold D6
 split
 ·have h1:(AB3 e.versions w.rollout.version).length≤e.versions.length:=List.length_filter_le _ _
  unfold ALC Ac
  dsimp only
  by_cases hg:TV e.versions w.rollout.version=e.versions
  ·have h2:(AB3 e.versions w.rollout.version).length<e.versions.length:=filter_lt (AN2 hg) (by simp)
   have:lacks w.rollout.version ⟨AB3 e.versions w.rollout.version,e.tags,e.path,e.cls⟩≤1:=by unfold lacks;split<;>omega
   omega
  ·have h2:lacks w.rollout.version e=1:=by unfold lacks;rw[if_neg hg]
   have:lacks w.rollout.version ⟨AB3 e.versions w.rollout.version,e.tags,e.path,e.cls⟩≤1:=by unfold lacks;split<;>omega
   omega
 ·exact Nat.le_refl _
theorem ANl (w:World):pot (enter w)≤pot w:=by
 unfold enter
 split
 ·have h:Bw (ALC w.rollout.version) (w.ends.mapIdx (ACe w))≤Bw (ALC w.rollout.version) w.ends:=ALY (by simp) (fun i h h'=>by
   rw[List.getElem_mapIdx]
   unfold ACe
   split
   ·exact AN9 _ _
   ·exact Nat.le_refl _)
  have h0:Bw Al ([]:List Cw)=0:=rfl
  simp only[pot,h0]
  omega
 ·exact Nat.le_refl _
theorem AOh (w:World):pot (leave w)≤pot w:=by
 have h:Bw (ALC w.rollout.version) (w.ends.map (D6 w))≤Bw (ALC w.rollout.version) w.ends:=ALY (by simp) (fun i h h'=>by
  rw[List.getElem_map]
  exact ANT w _)
 have h0:Bw Al ([]:List Cw)=0:=rfl
 unfold leave
 simp only[pot,h0]
 omega
theorem AgD {w:World} {r:EH} (h:Bg r=Bg w.rollout) (hv:r.version=w.rollout.version):pot (Cb w r)=pot w:=by
 unfold Cb
 simp only[pot,h,hv]
theorem ANZ (r:EH):(Bu r).1.version=r.version:=by unfold Bu;split<;>rfl
theorem AiL {w:World} {j:Nat} (hj:j<w.ends.length) (e:AL):pot {w with ends:=w.ends.set j e} +ALC w.rollout.version w.ends[j]=pot w+ALC w.rollout.version e:=by
 have:=size_set (f:=ALC w.rollout.version) hj e
 simp only[pot]
 omega
theorem AkM (w:World) (e:Event):pot (AB w e).1≤pot w+1+Aic e:=by
 unfold AB
 split
 ·have h:=AqA w e.n
  obtain⟨h1,h2,h3⟩:=h
  have h4:(U8 w e.n).1.server=w.server∧(U8 w e.n).1.tags=w.tags:=by unfold U8;split<;>exact⟨rfl,rfl⟩
  unfold Ay at h1
  rw[h2,h3,h4.1,h4.2]at h1
  unfold pot
  rw[h2,h3,h4.1,h4.2]
  have hm:Bw Ac w.ends≤Bw (ALC w.rollout.version) w.ends:=ALY rfl (fun i h h'=>by unfold ALC;omega)
  omega
 split
 ·have:=ANl w
  unfold CO
  split<;>dsimp only<;>omega
 split
 ·unfold BU
  split
  ·dsimp only;omega
  split
  ·split
   ·have:=ANl (Cb w (Bu w.rollout).1)
    rw[AgD (ANv _) (ANZ _)]at this
    dsimp only;omega
   ·dsimp only;omega
  split
  ·split
   ·have:=AOh (Cb w (BN w.rollout).1)
    rw[AgD (Anb _) (ANC _)]at this
    dsimp only;omega
   ·dsimp only;omega
  ·dsimp only;omega
 split
 ·have h:=ANe w e.n 200
  have h2:(BF w e.n 200).1.ends=w.ends∧(BF w e.n 200).1.rollout=w.rollout∧(BF w e.n 200).1.stage=w.stage∧(BF w e.n 200).1.log=w.log∧(BF w e.n 200).1.tags=w.tags:=by
   unfold BF
   repeat' split
   all_goals exact⟨rfl,rfl,rfl,rfl,rfl⟩
  unfold Ay at h
  rw[h2.1,h2.2.1,h2.2.2.1,h2.2.2.2.1,h2.2.2.2.2]at h
  unfold pot
  rw[h2.1,h2.2.1,h2.2.2.1,h2.2.2.2.1,h2.2.2.2.2]
  omega
 split
 ·have h:=ANj w e.n
  unfold Ay at h
  unfold pot
  unfold ALc at *
  dsimp only at *
  omega
 split
 ·unfold AK7
  split
  ·split
   ·rename_i x hx
    split
    ·obtain⟨hj,rfl⟩:=List.getElem?_eq_some_iff.1 hx
     have:=AiL hj ⟨w.ends[e.n.toNat].versions,w.ends[e.n.toNat].tags,w.ends[e.n.toNat].path++ [e.box],w.ends[e.n.toNat].cls⟩
     have h1:ALC w.rollout.version ⟨w.ends[e.n.toNat].versions,w.ends[e.n.toNat].tags,w.ends[e.n.toNat].path++ [e.box],w.ends[e.n.toNat].cls⟩=ALC w.rollout.version w.ends[e.n.toNat]+1+Ct e.box:=by
      unfold ALC Ac lacks
      simp only[Bw,List.length_append,List.length_cons,List.length_nil,List.map_append,List.map_cons,List.map_nil,List.sum_append,List.sum_cons,List.sum_nil]
      omega
     unfold Aic
     dsimp only
     omega
    ·dsimp only;omega
   ·dsimp only;omega
  ·dsimp only;omega
 split
 ·unfold Dp
  split
  ·split
   ·rename_i x hx
    split
    ·dsimp only;omega
    ·unfold AMj
     rw[hx]
     obtain⟨hj,rfl⟩:=List.getElem?_eq_some_iff.1 hx
     have:=AiL hj ⟨w.ends[e.n.toNat].versions,w.ends[e.n.toNat].tags,[],w.ends[e.n.toNat].cls⟩
     have h1:ALC w.rollout.version ⟨w.ends[e.n.toNat].versions,w.ends[e.n.toNat].tags,[],w.ends[e.n.toNat].cls⟩≤ALC w.rollout.version w.ends[e.n.toNat]:=by
      unfold ALC Ac lacks
      simp only[Bw,List.length_nil,List.map_nil,List.sum_nil]
      omega
     dsimp only
     omega
   ·dsimp only;omega
  ·dsimp only;omega
 split
 ·unfold Eg
  split
  ·simp only[pot];omega
  ·dsimp only;omega
 ·dsimp only;omega
def ALR (w:World) (l:List Event):World:=l.foldl (fun x e=>(AB x e).1) w
theorem Ahg {w:World} {l:List Event} {j:Nat} (h:j<l.length):ALR w (l.take (j+1))=(AB (ALR w (l.take j)) l[j]).1:=by
 have e:l.take (j+1)=l.take j++ [l[j]]:=by simp
 unfold ALR
 rw[e,List.foldl_append]
 rfl
theorem AOa (w:World) (l:List Event):∀j,j≤l.length→pot (ALR w (l.take j))≤pot w+Bw Aic (l.take j)
 | 0,_=>by simp[ALR]
 | j+1,h=>by
  have hj:j<l.length:=by omega
  have h1:=AOa w l j (by omega)
  have h2:=AkM (ALR w (l.take j)) l[j]
  have e:l.take (j+1)=l.take j++ [l[j]]:=by simp
  rw[Ahg hj,e]
  simp only[Bw,List.length_append,List.length_cons,List.length_nil,List.map_append,List.map_cons,List.map_nil,List.sum_append,List.sum_cons,List.sum_nil]at *
  omega
end Go.Eng.T
namespace Go.Eng.T
set_option maxRecDepth 20000
set_option maxHeartbeats 4000000
end Go.Eng.T
namespace Go.Eng.T
set_option maxRecDepth 20000
end Go.Eng.T
namespace Go.Eng.T
set_option maxRecDepth 20000
set_option maxHeartbeats 2000000
theorem AKn (w:World) (e:Event):Ay (AB w e).1≤Ay w+w.ends.length+3001+Aic e:=by
 have h1:=AkM w e
 have h2:=AOd (AB w e).1
 have h3:=AOi w
 omega
end Go.Eng.T
namespace Go.Eng.T
set_option maxRecDepth 20000
set_option maxHeartbeats 2000000
abbrev U6 (R:Rel):Prop:=∀(aW:World) (aE:Event),AcK aW→AEb aE→Aqo aW→AJz aE→R [arg (EF aW),arg (CY aE)] [] (B true) []
theorem AqL (D:Dn) (hs:LV (D Ayw)) (hi:LV (D AxD)) (hszWorld:AbL (D Amj)) (hszEvent:AGL (D ACS)) (htoWorld:AbH (D Al5)) (htoEvent:AG5 (D ACO)) (heqWorld:AbK (D AlW)) (heqEvent:AGM (D ACH)) (hmarkWorld:Akq (D AzA)) (hmarkEvent:Aky (D AzI)) (hheldWorld:Aku (D Azx)):U6 (Body D PS):=by
 intro aW aE l_aW l_aE w_aW w_aE
 simp -implicitDefEqProofs []
 refine Aa (hszWorld aW ((1048576:Int)) (by omega) (by omega) l_aW) ?_
 by_cases g1:(1048576:Int)<((Ay aW:Nat):Int)
 ·simp -implicitDefEqProofs [AFA g1]
 have p1:¬(1048576:Int)-((Ay aW:Nat):Int)<0:=by omega
 simp -implicitDefEqProofs [Aa9 g1,p1]
 refine Aa (hszEvent aE ((1048576:Int)-((Ay aW:Nat):Int)) (by omega) (by omega) l_aE) ?_
 by_cases g2:(1048576:Int)-((Ay aW:Nat):Int)<((Aic aE:Nat):Int)
 ·simp -implicitDefEqProofs [AFA g2]
 have p2:¬(1048576:Int)-((Ay aW:Nat):Int)-((Aic aE:Nat):Int)<0:=by omega
 simp -implicitDefEqProofs [Aa9 g1,p1,Aa9 g2,p2]
 have hs':=hs aW aE (by omega) (by omega)
 have hi':=hi aW aE (by omega) (by omega)
 obtain⟨b0,c0⟩:Ay ((AB aW aE).1)≤1099511627776∧Qa ((AB aW aE).1)≤1099511627776:=(by have a1:=AKn aW aE;have a2:=AIV ((AB aW aE).1);have a3:=JQ (w:=aW) (by omega);omega)
 generalize(AB aW aE).1=r0 at hs' hi' b0 c0
 refine Aa (htoWorld aW (by omega)) ?_
 simp -implicitDefEqProofs [Aa9 g1,p1,Aa9 g2,p2]
 refine Aa (htoEvent aE (by omega)) ?_
 simp -implicitDefEqProofs [Aa9 g1,p1,Aa9 g2,p2]
 refine Aa (hs') ?_
 simp -implicitDefEqProofs [Aa9 g1,p1,Aa9 g2,p2]
 refine Aa (htoWorld aW (by omega)) ?_
 simp -implicitDefEqProofs [Aa9 g1,p1,Aa9 g2,p2]
 refine Aa (htoEvent aE (by omega)) ?_
 simp -implicitDefEqProofs [Aa9 g1,p1,Aa9 g2,p2]
 refine Aa (hi') ?_
 simp -implicitDefEqProofs [Aa9 g1,p1,Aa9 g2,p2]
 refine Aa (heqWorld r0 r0 (by omega) (by omega)) ?_
 simp -implicitDefEqProofs [Aa9 g1,p1,Aa9 g2,p2]
 refine Aa (htoWorld aW (by omega)) ?_
 simp -implicitDefEqProofs [Aa9 g1,p1,Aa9 g2,p2]
 refine Aa (heqWorld aW aW (by omega) (by omega)) ?_
 simp -implicitDefEqProofs [Aa9 g1,p1,Aa9 g2,p2]
 refine Aa (htoEvent aE (by omega)) ?_
 simp -implicitDefEqProofs [Aa9 g1,p1,Aa9 g2,p2]
 refine Aa (heqEvent aE aE (by omega) (by omega)) ?_
 simp -implicitDefEqProofs [Aa9 g1,p1,Aa9 g2,p2]
 have qaW:=AIV aW
 have pkaW:¬1+((Qa aW:Nat):Int)<0:=by omega
 refine Aa (hmarkWorld aW (1) (by omega) (by omega)) ?_
 simp -implicitDefEqProofs [Aa9 g1,p1,Aa9 g2,p2,pkaW,Ja,GH]
 have qaE:=AKd aE
 have pkaE:¬1+((Qa aW:Nat):Int)+((AhC aE:Nat):Int)<0:=by omega
 refine Aa (hmarkEvent aE (1+((Qa aW:Nat):Int)) (by omega) (by omega)) ?_
 simp -implicitDefEqProofs [Aa9 g1,p1,Aa9 g2,p2,pkaW,Ja,GH,pkaE,Qq]
 refine Aa (heqWorld r0 r0 (by omega) (by omega)) ?_
 simp -implicitDefEqProofs [Aa9 g1,p1,Aa9 g2,p2,pkaW,Ja,GH,pkaE,Qq]
 refine Aa (hmarkWorld r0 (1) (by omega) (by omega)) ?_
 simp -implicitDefEqProofs [Aa9 g1,p1,Aa9 g2,p2,pkaW,Ja,GH,pkaE,Qq]
 have pq0:¬1+((Qa r0:Nat):Int)<0:=by omega
 have hr:=hheldWorld r0 (1) (by omega) (by omega)
 simp -implicitDefEqProofs [Ja,GH]at hr
 refine Aa (hr) ?_
 simp -implicitDefEqProofs [Aa9 g1,p1,Aa9 g2,p2,pkaW,Ja,GH,pkaE,Qq,pq0]
 refine Aa (htoWorld aW (by omega)) ?_
 simp -implicitDefEqProofs [Aa9 g1,p1,Aa9 g2,p2,pkaW,Ja,GH,pkaE,Qq,pq0]
 refine Aa (htoEvent aE (by omega)) ?_
 simp -implicitDefEqProofs [Aa9 g1,p1,Aa9 g2,p2,pkaW,Ja,GH,pkaE,Qq,pq0]
 refine Aa (hi') ?_
 simp -implicitDefEqProofs [Aa9 g1,p1,Aa9 g2,p2,pkaW,Ja,GH,pkaE,Qq,pq0]
 refine Aa (heqWorld r0 r0 (by omega) (by omega)) ?_
 simp -implicitDefEqProofs [Aa9 g1,p1,Aa9 g2,p2,pkaW,Ja,GH,pkaE,Qq,pq0]
 have hr:=hheldWorld r0 (1) (by omega) (by omega)
 simp -implicitDefEqProofs [Ja,GH]at hr
 refine Aa (hr) ?_
 simp -implicitDefEqProofs [Aa9 g1,p1,Aa9 g2,p2,pkaW,Ja,GH,pkaE,Qq,pq0]
end Go.Eng.T
namespace Go.Eng.T
set_option maxRecDepth 20000
set_option maxHeartbeats 2000000
abbrev ABb (R:Rel):Prop:=∀n:Nat,n≤16777216→R [.sc (.slice none 0 0),I n] [] (.sl 0 1 0 []) []
def Uy (ls:List (List Int)):List Int:=ls.flatten
abbrev AcG (R:Rel):Prop:=∀ls:List (List Int),IA ls≤8388608→R [Kh ls] [] (.sl 0 1 (Uy ls).length (ints (Uy ls))) []
theorem An1 {ls:List (List Int)} {j:Nat} (h:j<ls.length):Uy (ls.take (j+1))=Uy (ls.take j)++ls[j]:=by
 have e:ls.take (j+1)=ls.take j++ [ls[j]]:=by simp
 unfold Uy
 rw[e,List.flatten_append];simp
theorem Ao1 (ls:List (List Int)) (j:Nat):(Uy (ls.take j)).length≤IA ls:=by
 unfold Uy
 have h1:(ls.take j).flatten.length≤ls.flatten.length:=by
  conv=>rhs;rw[←List.take_append_drop j ls,List.flatten_append,List.length_append]
  omega
 have h2:ls.flatten.length≤IA ls:=by
  unfold IA Bw
  rw[List.length_flatten]
  omega
 omega
theorem ABS (D:Dn) (hG:ABb (D U3)):AcG (Body D GA):=by
 intro ls hl
 have hll:=Rv (xs:=ls)
 simp -implicitDefEqProofs
 refine Ae (fun k s=>∃j,j+k=ls.length∧s=⟨[Kh ls,.undef,I ((Uy (ls.take j)).length:Nat),.undef,.undef,.undef,Kh ls,I ls.length,I j,.undef,.undef,.undef,.undef,.undef,.undef],[.free,.free,.free]⟩) ?_ (ls.length) _ ⟨0,by simp,by simp[Uy]⟩
 intro k s ⟨j,hj,hs⟩
 subst hs
 by_cases hjn:j<ls.length
 ·have hw:IntKind.i64.wrap ((j:Int)+1)=(j+1:Nat):=by rw[Ad (by omega) (by omega)];simp
  have hst:=congrArg List.length (An1 hjn)
  rw[List.length_append]at hst
  have hle:=Ao1 ls (j+1)
  obtain⟨n2,hn2⟩:∃n2,n2=(Uy (ls.take (j+1))).length:=⟨_,rfl⟩
  obtain⟨n1,hn1⟩:∃n1,n1=(Uy (ls.take j)).length:=⟨_,rfl⟩
  rw[←hn2]at hst hle
  rw[←hn1]at hst⊢
  have hw2:IntKind.i64.wrap ((n1:Int)+(ls[j].length:Nat))=(n2:Int):=by rw[hst,Ad (by omega) (by omega)];omega
  have hneg:¬(n2:Int)<0:=by omega
  simp -implicitDefEqProofs [hjn,hw2,hneg]
  exact⟨k-1,by omega,j+1,by omega,by simp[hw,hn2]⟩
 ·have e:ls.take j=ls:=List.take_of_length_le (by omega)
  have hle:=Ao1 ls j
  simp -implicitDefEqProofs [hjn,e]
  rw[e]at hle
  refine Aa (hG (Uy ls).length (by omega)) ?_
  simp -implicitDefEqProofs
  refine Ae (fun k s=>∃j o1,j+k=ls.length∧s=⟨[.undef,.undef,.undef,.undef,.arr 2,.undef,.undef,.undef,.undef,.undef,.undef,Kh ls,I ls.length,I j,.undef],[.free,o1,.arr 1 0 (Uy (ls.take j)).length (ints (Uy (ls.take j)))]⟩) ?_ (ls.length) _ ⟨0,.free,by simp,by simp[Uy]⟩
  intro k s ⟨j,o1,hj,hs⟩
  subst hs
  clear hjn e
  by_cases hjn:j<ls.length
  ·have hw:IntKind.i64.wrap ((j:Int)+1)=(j+1:Nat):=by rw[Ad (by omega) (by omega)];simp
   have hst:=An1 hjn
   have hle2:=Ao1 ls (j+1)
   have hsl:=congrArg List.length hst
   rw[List.length_append]at hsl
   generalize(Uy (ls.take j))=r1 at *
   have hb1:(r1.length+ls[j].length)*8≤1099511627776:=by omega
   simp -implicitDefEqProofs [hjn,hb1]
   exact⟨k-1,by omega,j+1,by omega,by simp[hw],by rw[hst];simp[ints]⟩
  ·have e:ls.take j=ls:=List.take_of_length_le (by omega)
   simp -implicitDefEqProofs [hjn,e]
theorem AAd (D:Dn) (hC:AcG (D Kg)) (hH:WE (D Z7)):XV (Body D Pz):=by
 intro k xs hl
 simp -implicitDefEqProofs
 have hc:=hC [[k],xs,[k]] (by simp[IA,Bw];omega)
 simp -implicitDefEqProofs [Kh,Jh,ints]at hc
 simp -implicitDefEqProofs [ints]
 refine Aa (hc) ?_
 have ek:Uy [[k],xs,[k]]=k::xs++ [k]:=by simp[Uy]
 rw[ek]
 have hlen:(k::xs++ [k]).length=xs.length+1+1:=by simp
 have hh:=hH (k::xs++ [k]) (by unfold maxLen;omega)
 rw[hlen]at hh
 simp -implicitDefEqProofs [ints]at hh
 simp -implicitDefEqProofs [ints]
 refine Aa (hh) ?_
 simp -implicitDefEqProofs [keyed]
theorem Amz (D:Dn) (hI:Eb (D Hl)) (hE:Gm (D UM)) (hC:AcG (D Kg)):Iq (Body D Oz):=by
 intro h hh
 have hv:=hh.1
 simp -implicitDefEqProofs
 refine Aa (hI h hh) ?_
 by_cases h1:CP h=true
 rotate_left
 ·simp -implicitDefEqProofs [h1,A8]
 have hl:=LC h.exts
 have e:A8 h=((h.versions.length:Int)::h.versions)++(EM h.exts).1:=by unfold A8;rw[if_pos h1]
 rw[e]
 simp -implicitDefEqProofs [h1]
 refine Aa (hE h.exts hh.2) ?_
 generalize(EM h.exts).1=r at hl
 simp -implicitDefEqProofs [ints]
 have hc:=hC [[(h.versions.length:Int)],h.versions,r] (by simp[IA,Bw];omega)
 simp -implicitDefEqProofs [Kh,Jh,ints]at hc
 refine Aa (hc) ?_
 have ek:Uy [[(h.versions.length:Int)],h.versions,r]=((h.versions.length:Int)::h.versions)++r:=by simp[Uy]
 rw[ek]
 simp -implicitDefEqProofs [ints]
abbrev Aqz (R:Rel):Prop:=∀(v:Int) (n:Nat),n≤2→R [.sl 1 1 1 (ints [v]),I n] [] (.sl 0 1 n (ints (List.replicate n v))) []
abbrev AoR (R:Rel):Prop:=∀(l:List Ext) (i:Nat) (x:Ext),l.length≤4194304→i≤l.length→
 R [.arr 0,I i,.arr 1] [.arr 2 0 l.length (l.flatMap Br),.arr 2 0 1 (Br x)] (.sl 0 2 (l.length+1) ((l.take i++x::l.drop i).flatMap Br)) [.dead,.dead]
theorem ApF (D:Dn) (hC:OG (D XK)) (hG:JS (D Ags)) (hA:FV (D KR)) (hX:Qn (D AfC)) (hP:ZM (D Adg))
 (hR:Aqz (D SE)) (hI:AoR (D KO)):Ju (Body D NV):=by
 intro l seed hl
 have hll:=hl.1
 simp -implicitDefEqProofs
 refine Aa (hC l hl) ?_
 simp -implicitDefEqProofs
 refine Aa (hG seed) ?_
 obtain⟨t,ht⟩:∃t,t=NM seed:=⟨_,rfl⟩
 rw[←ht]
 simp -implicitDefEqProofs
 refine Aa (hA l hl) ?_
 by_cases h1:EC l=true
 rotate_left
 ·simp -implicitDefEqProofs [h1,Dt]
 have h6:l.length≤6:=YB h1
 by_cases h2:l.length=6
 ·have h2':((l.length:Nat):Int)=6:=by omega
  simp -implicitDefEqProofs [h1,h2',Dt,h2]
 have h2':¬((l.length:Nat):Int)=6:=by omega
 have h2l:l.length<6:=by omega
 simp -implicitDefEqProofs [h1,h2',h2]
 refine Aa (hX l t (by unfold maxLen;omega)) ?_
 by_cases h3:t∈Aq l
 ·have h3':0≤Js l t:=by
   by_cases h:Js l t<0
   ·rw[ALp]at h;exact absurd h3 h
   ·omega
  simp -implicitDefEqProofs [h1,h2l,h2',h2,h3',h3,Dt,←ht]
 have h3':¬0≤Js l t:=by
  have:Js l t<0:=by rw[ALp];exact h3
  omega
 have e:Dt l seed=l.take (Amo l seed)++⟨t,AjE seed⟩::l.drop (Amo l seed):=by
  unfold Dt
  rw[if_pos]
  ·rw[ht]
  ·simp[h1,h2l,←ht,h3]
 have hgp:=Av2 l seed h6
 rw[e]
 simp -implicitDefEqProofs [h3',h2',h2]
 refine Aa (hP seed 3 256) ?_
 simp -implicitDefEqProofs
 refine Aa (hP seed 2 3) ?_
 have hp2:=SX seed 2 (n:=3) ⟨by omega,by omega⟩
 have eb:AjE seed=List.replicate (pick seed 2 3).toNat (pick seed 3 256):=rfl
 obtain⟨n,hn⟩:∃n:Nat,pick seed 2 3=n:=⟨(pick seed 2 3).toNat,by omega⟩
 rw[hn]at eb hp2⊢
 rw[Int.toNat_natCast]at eb
 rw[eb]
 generalize pick seed 3 256=v at *
 simp -implicitDefEqProofs [ints]
 have hr:=hR v n (by omega)
 simp -implicitDefEqProofs [ints]at hr
 refine Aa (hr) ?_
 have hwl:IntKind.i64.wrap ((l.length:Int)+1)=(l.length:Int)+1:=Ad (by omega) (by omega)
 simp -implicitDefEqProofs [hwl]
 refine Aa (hP seed 1 (l.length+1)) ?_
 have hp1:=SX seed 1 (n:=(l.length:Int)+1) ⟨by omega,by omega⟩
 have eg:Amo l seed=(pick seed 1 (l.length+1)).toNat:=rfl
 generalize pick seed 1 (l.length+1)=k1 at hp1 eg
 obtain⟨kk,rfl⟩:∃kk:Nat,k1=kk:=⟨k1.toNat,by omega⟩
 rw[Int.toNat_natCast]at eg
 rw[eg]at hgp⊢
 simp -implicitDefEqProofs
 have hi:=hI l kk ⟨t,List.replicate n v⟩ (by omega) hgp
 simp -implicitDefEqProofs [Br,ints]at hi
 refine Aa (hi) ?_
 have hlen:(l.take kk++(⟨t,List.replicate n v⟩:Ext)::l.drop kk).length=l.length+1:=by simp;omega
 simp -implicitDefEqProofs [hlen,Br,ints]
 omega
end Go.Eng.T
namespace Go.Eng
open Go.Lib Go.RowKit
inductive AaM (Af:Nat→Option FuncId) (w:World):List V→List Value→Prop where
 | nil:AaM Af w [] []
 | sc {v:Value} {azs:List V} {xs:List Value} (h:AaM Af w azs xs):AaM Af w (.sc v::azs) (v::xs)
 | sl {e len:Nat} {cells:List V} {x:Value} {azs:List V} {xs:List Value} (h1:Rd Af w (· <w.heap.size) (.sl 1 e len cells) x) (h:AaM Af w azs xs):AaM Af w (.sl 1 e len cells::azs) (x::xs)
def Au7:V→Prop
 | .sc _=>True
 | .sl 1 _ _ _=>True
 | _=>False
theorem AeA {F:Fr} {w:World} {β:Nat→Base} {own:Nat→Option (Nat×List Nat)} {H:Hp} (hw:w=F.w0):∀ {azs:List V} {xs:List Value},(∀a,a∈azs→Au7 a)→Pw (VR F β own H w) azs xs→AaM F.Af w azs xs
 | [],xs,_,h=>by rw[h.Np];exact .nil
 | a::azs,xs,hp,h=>by
  obtain⟨x,r,rfl,h1,h2⟩:=h.IG
  have ih:=AeA hw (fun a ha=>hp a (List.mem_cons_of_mem _ ha)) h2
  have ha:=hp a (by simp)
  cases h1 with
  | sc h=>exact .sc ih
  | @rd fl e len cells _ h3 h=>
   match fl,ha,h with
   | 1,_,h=>exact .sl (Rd.move h (fun b hb=>by rw[hw];exact hb.1) (fun _ _=>rfl)) ih
  | _=>exact absurd ha (by simp[Au7])
theorem Az3 {P:Program} {Af:Nat→Option FuncId} {G:Gl} {g:Nat} {args:List V} {v:Value} (hv:v.oneCell' =true) (hp':∀a,a∈args→Au7 a)
 (h:∀id,Af g=some id→∀w:World,(∀b,G b→b<w.heap.size∧w.heap[b]? =G.is b)→∀xs,AaM Af w args xs→Calls P id xs.toArray w fun e w'=>e= .returned v∧Below w.heap.size w w'):Den P Af G g args [] (.sc v) []:=by
 intro id hid F hF hG hb ht hn inv xs hx
 have hr:=AeA (F:=F) rfl hp' hx
 rw[hF]at hr
 refine(h id hid F.w0 (fun b hb=> ?_) xs hr).mono fun e w' ⟨he,hw⟩=> ?_
 ·have:=inv.glob b (by rw[hG];exact hb)
  exact⟨this.1,by rw[←hG];exact this.2.2⟩
 ·subst he
  refine⟨F.own0,⟨hw.size,hw.os,hw.tape,hw.output,fun b hb _=>hw.block b hb,fun b p hb=>⟨Nat.lt_of_lt_of_le (inv.ownb b p hb).1 hw.size,fun _=> ?_⟩,.sc hv,hn.symm,fun i o hi=> ?_⟩⟩
  ·rw[hb];simp
  ·simp at hi
end Go.Eng
namespace Go.Eng
open Go.Lib Go.RowKit Go.Sort
def iv (l:List Int):List Value:=l.map (Value.int .i64)
@[simp] theorem AuU (l:List Int):(iv l).length=l.length:=by simp[iv]
theorem YO (l:List Int):Fy (iv l):=by
 intro v hv
 simp only[iv,List.mem_map]at hv
 obtain⟨x,_,rfl⟩:=hv
 rfl
structure Kept (F:Fr) (w':World):Prop where
 size:F.w0.heap.size≤w'.heap.size
 os:w'.os=F.w0.os
 tape:w'.tape=F.w0.tape
 output:w'.output=F.w0.output
 keep:∀b,b<F.w0.heap.size→F.own0 b=none→w'.heap[b]? =F.w0.heap[b]?
theorem Kept.refl (F:Fr):Kept F F.w0:=⟨Nat.le_refl _,rfl,rfl,rfl,fun _ _ _=>rfl⟩
theorem AsA {F:Fr} {given:List O} {k:Nat} {l:List Int} {x:Value} (inv:Inv F F.β0 F.own0 (hp given) F.w0) (hk:hp given k= .arr 1 0 l.length (T.ints l)) (h:VR F F.β0 F.own0 (hp given) F.w0 (.arr k) x):
 ∃a cap,x= .slice a l.length cap∧(l.length≤cap∧cap≤9223372036854775807)∧a=(F.β0 k).a∧cap=(F.β0 k).cap∧(cap=0∨∃b o,a=some ⟨b,o,none⟩∧F.own0 b=some (k,[])∧Has F.w0 b o (iv l) cap):=by
 have ho:=inv.objs k
 rw[hk]at ho
 obtain⟨vs,h1,h2,h3,h4,h5⟩:=ho
 have hv:vs=iv l:=by
  apply List.ext_getElem?
  intro i
  by_cases hi:i<l.length
  ·have hlen:vs.length=l.length:=by rw[h1];simp
   have e1:vs[i]? =some (vs[i]'(by omega)):=by simp[hlen,hi]
   have:=h5 i (.sc (.int .i64 l[i])) _ (by simp[hi]) e1
   rw[e1]
   generalize vs[i]'(by omega)=y at this
   cases this with
   | sc _=>simp[iv,hi]
  ·rw[List.getElem?_eq_none (by rw[h1];simp;omega),List.getElem?_eq_none (by simp;omega)]
 subst hv
 cases h with
 | @arr _ e t len cs he=>
  rw[hk]at he
  simp only[Ah,Option.some.injEq,Prod.mk.injEq]at he
  obtain⟨rfl,rfl,rfl,rfl⟩:=he
  refine⟨_,_,rfl,h3,rfl,rfl,?_⟩
  rcases h4 with h4 | ⟨b,o,h4,h6,h7⟩
  ·exact .inl (by omega)
  ·exact .inr ⟨b,o,h4,h6,by rw[Nat.mul_one]at h7;exact h7⟩
 | goneA hd=>rw[hk]at hd;cases hd
theorem YL {P:Program} {Af:Nat→Option FuncId} {G:Gl} {g:Nat} {args:List V} {given:List O} {l':List Int}
 (h:∀id,Af g=some id→∀F:Fr,F.Af=Af→Inv F F.β0 F.own0 (hp given) F.w0→∀xs,Pw (VR F F.β0 F.own0 (hp given) F.w0) args xs→
  Calls P id xs.toArray F.w0 fun e w'=>∃a cap,e= .returned (.slice a l'.length cap)∧(l'.length≤cap∧cap≤9223372036854775807)∧(cap=0∨∃b o,a=some ⟨b,o,none⟩∧Has w' b o (iv l') cap∧(b<F.w0.heap.size→F.own0 b≠none))∧Kept F w'):
 Den P Af G g args given (.sl 0 1 l'.length (T.ints l')) (given.map fun _=> .dead):=by
 intro id hid F hF hG hb ht hn inv xs hx
 refine(h id hid F hF inv xs hx).mono fun e w' ⟨a,cap,he,hl,hm,hk⟩=> ?_
 subst he
 have hcs:∀own (i:Nat) (v:V) (x:Value),(T.ints l')[i]? =some v→(iv l')[i]? =some x→Ow F.Af w' own (fun _ b=>F.G b) 0 F.ngiven ([]++ [i]) v x:=by
  intro own i v x h1 h2
  by_cases hi:i<l'.length
  ·rw[T.ints_at hi]at h1
   simp only[iv,List.getElem?_map,hi,List.getElem?_eq_getElem,Option.map_some,Option.some.injEq]at h1 h2
   subst h1 h2
   exact .sc rfl
  ·rw[List.getElem?_eq_none (by simp;omega)]at h1;cases h1
 rcases hm with hm | ⟨b,o,rfl,hhas,hown⟩
 ·refine⟨fun _=>none,⟨hk.size,hk.os,hk.tape,hk.output,hk.keep,fun b p h=>(by cases h),.own hl (by simp) (by simp) (.inl (by omega)) (hcs _),by simp[hn],fun i o hi=> ?_⟩⟩
  simp only[List.getElem?_map,Option.map_eq_some_iff]at hi
  obtain⟨_,_,rfl⟩:=hi
  trivial
 ·refine⟨fun b'=>if b' =b then some (F.ngiven,[])else none,⟨hk.size,hk.os,hk.tape,hk.output,hk.keep,fun b' p h=> ?_,.own hl (by simp) (by simp) (.inr ⟨b,o,rfl,if_pos rfl,by rw[Nat.mul_one];exact hhas⟩) (hcs _),by simp[hn],fun i o' hi=> ?_⟩⟩
  ·by_cases e:b' =b
   ·subst e;exact⟨Py hhas,hown⟩
   ·rw[if_neg e]at h;cases h
  ·simp only[List.getElem?_map,Option.map_eq_some_iff]at hi
   obtain⟨_,_,rfl⟩:=hi
   trivial
theorem Ayj {P:Program} {Af:Nat→Option FuncId} {G:Gl} {g:Nat} {l l':List Int} (hll:l'.length=l.length)
 (h:∀id,Af g=some id→∀F:Fr,F.Af=Af→Inv F F.β0 F.own0 (hp [.arr 1 0 l.length (T.ints l)]) F.w0→∀a cap,l.length≤cap→(cap=0∨∃b o,a=some ⟨b,o,none⟩∧F.own0 b=some (0,[])∧Has F.w0 b o (iv l) cap)→
  Calls P id #[.slice a l.length cap] F.w0 fun e w'=>e= .returned (.tuple #[])∧(cap=0∨∃b o,a=some ⟨b,o,none⟩∧Has w' b o (iv l') cap)∧Kept F w'):
 Den P Af G g [.arr 0] [.arr 1 0 l.length (T.ints l)] (.tup []) [.arr 1 0 l.length (T.ints l')]:=by
 intro id hid F hF hG hb ht hn inv xs hx
 obtain⟨x,r,rfl,h1,h2⟩:=hx.IG
 obtain rfl:=h2.Np
 obtain⟨a,cap,rfl,hl,ha,hc,hm⟩:=AsA inv rfl h1
 refine(h id hid F hF inv a cap hl.1 hm).mono fun e w' ⟨he,hm',hk⟩=> ?_
 subst he
 refine⟨F.own0,⟨hk.size,hk.os,hk.tape,hk.output,hk.keep,fun b p h=>⟨Nat.lt_of_lt_of_le (inv.ownb b p h).1 hk.size,fun _=>by rw[h];simp⟩,.tup (vs:=[]) rfl (fun i v x h _=>by simp at h),by rw[hn];rfl,fun i o hi=> ?_⟩⟩
 match i,hi with
 | 0,hi=>
  simp only[List.getElem?_cons_zero,Option.some.injEq]at hi
  subst hi
  refine⟨rfl,iv l',by simp,by simp[hll],by rw[←hc];exact hl,?_,?_⟩
  ·rcases hm with hm | ⟨b,o,e1,e2,e3⟩
   ·exact .inl (by rw[←hc,hm])
   ·rcases hm' with hm' | ⟨b',o',e1',e2'⟩
    ·exact .inl (by rw[←hc,hm'])
    ·rw[e1]at e1'
     cases e1'
     exact .inr ⟨b,o,by rw[←ha,e1],e2,by rw[←hc,Nat.mul_one];exact e2'⟩
  ·intro i v x h1 h2
   by_cases hi:i<l'.length
   ·rw[T.ints_at hi]at h1
    simp only[iv,List.getElem?_map,hi,List.getElem?_eq_getElem,Option.map_some,Option.some.injEq]at h1 h2
    subst h1 h2
    exact .sc rfl
   ·rw[List.getElem?_eq_none (by simp;omega)]at h1;cases h1
 | i+1,hi=>simp at hi
end Go.Eng
namespace Go.Eng.T
open Go.Lib Go.RowKit
theorem Aqd {Af:Nat→Option FuncId} {w:Go.World} {P:Nat→Prop} {l:List Int} {x:Value} (h:Rd Af w P (.sl 1 1 l.length (ints l)) x):
 ∃a cap,x= .slice a l.length cap∧l.length≤cap∧(l=[]∨∃b o,a=some ⟨b,o,none⟩∧P b∧∀j,j<l.length→w.cell? ⟨b,o+j,none⟩=some (.int .i64 (l.getD j 0))):=by
 cases h with
 | @sl _ _ _ _ a cap vs hle hwd hvl hm hcs=>
  refine⟨a,cap,rfl,hle,?_⟩
  rcases hm with hm | ⟨b,o,rfl,hbk,hr⟩
  ·left
   cases l with
   | nil=>rfl
   | cons x r=>simp[ints]at hm
  ·right
   have hvlen:vs.length=l.length:=by rw[hvl];simp
   refine⟨b,o,rfl,hbk,fun j hj=> ?_⟩
   rw[hr.2 j (by omega)]
   have hv:vs[j]? =some vs[j]:=by simp
   rw[hv]
   have hrd:=hcs j (.sc (.int .i64 l[j])) vs[j] (by simp[ints,hj]) hv
   generalize vs[j]=y at hrd⊢
   cases hrd with
   | sc _=>simp[hj]
theorem AC1 {P:Program} {Af:Nat→Option FuncId} {G:Gl} {g k:Nat} (hid:Af g=some k)
 (hc:∀(b off n c:Nat) (zs:List Int) (w:Go.World),0<n→n≤zs.length→n≤9223372036854775807→(∀j,j<zs.length→w.cell? ⟨b,off+j,none⟩=some (.int .i64 (zs.getD j 0)))→
  Calls P k #[.slice (some ⟨b,off,none⟩) n c] w fun e w'=>e= .returned (.int .i64 (Lib.maxOf (zs.take n)))∧w' =w):AFq (Den P Af G g):=by
 intro xs h1 h2
 refine Az3 (v:= .int .i64 (ADR xs)) rfl (fun a ha=> ?_) ?_
 ·simp only[List.mem_singleton]at ha;subst ha;trivial
 intro id hi w hw ys hx
 rw[hid]at hi
 cases hi
 cases hx with
 | sl h3 h4=>
  cases h4
  obtain⟨a,cap,rfl,hle,hm⟩:=Aqd h3
  rcases hm with rfl | ⟨b,o,rfl,hb,hcell⟩
  ·simp at h1
  ·refine(hc b o xs.length cap xs w h1 (Nat.le_refl _) (by omega) hcell).mono fun e w' ⟨he,hw'⟩=>⟨?_,by rw[hw'];exact Below.refl _ _⟩
   rw[he,List.take_length];rfl
theorem Aud {w:Go.World} {base:Nat} {t:TypeId} {v:Value} {l:List Int} (h:w.ownsRow base t 1 v l.length (iv l)):
 ∃a cap,v= .slice a l.length cap∧(l.length≤cap∧cap≤9223372036854775807)∧(cap=0∨∃b o,a=some ⟨b,o,none⟩∧Has w b o (iv l) cap∧base≤b):=by
 obtain⟨_,h | ⟨g,cap,cur,rfl,h1,h2,h3,h4,h5,h6⟩⟩:=h
 ·obtain⟨rfl,h⟩:=h
  exact⟨none,0,by rw[h],⟨by omega,by omega⟩,.inl rfl⟩
 ·refine⟨_,cap,rfl,⟨h3,by unfold maxLen at h4;omega⟩,.inr ⟨g,0,rfl,⟨YO l,cur,t,h2,by omega,by simpa using h3,fun i hi=> ?_⟩,h1⟩⟩
  rw[Nat.zero_add,←h6,Nat.mul_one]
  simp only[AuU]at hi
  rw[List.getElem?_take,if_pos hi,Array.getElem?_toList]
theorem Au3 {F:Fr} {w':Go.World} (h:Below F.w0.heap.size F.w0 w'):Kept F w':=⟨h.size,h.os,h.tape,h.output,fun b hb _=>h.block b hb⟩
theorem Ayd {P:Program} {Af:Nat→Option FuncId} {G:Gl} {g k:Nat} {t:TypeId} (hid:Af g=some k)
 (hn:∀(n c:Nat) (w:Go.World),Calls P k #[.slice none n c] w fun e w'=>e= .returned (.slice none 0 0)∧w' =w)
 (hz:∀(a:Addr) (c:Nat) (w:Go.World),Calls P k #[.slice (some a) 0 c] w fun e w'=>∃v',e= .returned v'∧w'.ownsRow w.heap.size t 1 v' 0 []∧v'≠ .slice none 0 0∧Below w.heap.size w w')
 (hc:∀(b off n c:Nat) (zs:List Int) (w:Go.World),n≤zs.length→n*8≤140737488355328→(∀j,j<zs.length→w.cell? ⟨b,off+j,none⟩=some (.int .i64 (zs.getD j 0)))→
  Calls P k #[.slice (some ⟨b,off,none⟩) n c] w fun e w'=>∃v',e= .returned v'∧w'.ownsRow w.heap.size t 1 v' n ((zs.take n).map (Value.int .i64))∧v'≠ .slice none 0 0∧Below w.heap.size w w'):At5 (Den P Af G g):=by
 intro l hl
 refine YL (given:=[]) (l':=l) fun id hi F hF inv xs hx=> ?_
 rw[hid]at hi
 cases hi
 have hr:=AeA (F:=F) rfl (fun a ha=>by simp only[List.mem_singleton]at ha;subst ha;trivial) hx
 cases hr with
 | sl h3 h4=>
  cases h4
  obtain⟨a,cap,rfl,hle,hm⟩:=Aqd h3
  have fin:∀ {v':Value} {w':Go.World},w'.ownsRow F.w0.heap.size t 1 v' l.length (iv l)→Below F.w0.heap.size F.w0 w'→
   ∃a cap,Ending.returned v' = .returned (.slice a l.length cap)∧(l.length≤cap∧cap≤9223372036854775807)∧(cap=0∨∃b o,a=some ⟨b,o,none⟩∧Has w' b o (iv l) cap∧(b<F.w0.heap.size→F.own0 b≠none))∧Kept F w':=by
   intro v' w' ho hb
   obtain⟨a,cap,rfl,h5,h6⟩:=Aud ho
   refine⟨a,cap,rfl,h5,?_,Au3 hb⟩
   rcases h6 with h6 | ⟨b,o,h7,h8,h9⟩
   ·exact .inl h6
   ·exact .inr ⟨b,o,h7,h8,fun h=>absurd h (by omega)⟩
  rcases hm with rfl | ⟨b,o,rfl,hb,hcell⟩
  ·cases a with
   | none=>exact(hn _ _ _).mono fun e w' ⟨he,hw⟩=>⟨none,0,he,⟨by simp,by omega⟩,.inl rfl,by rw[hw];exact Kept.refl F⟩
   | some a=>exact(hz a cap F.w0).mono fun e w' ⟨v',he,hown,_,hbel⟩=>by subst he;exact fin hown hbel
  ·exact(hc b o l.length cap l F.w0 (Nat.le_refl _) (by omega) hcell).mono fun e w' ⟨v',he,hown,_,hbel⟩=>by
    subst he
    rw[List.take_length]at hown
    exact fin hown hbel
end Go.Eng.T
namespace Go.Eng
open Go.Lib Go.RowKit Go.Sort
theorem Wj (w:World) (b:Nat) (f:Array Value→Array Value):(mapBlock w b f).heap[b]? =(w.heap[b]?).map (onCells f):=by
 simp[mapBlock,Array.getElem?_modify]
theorem VB (w:World) {b k:Nat} (f:Array Value→Array Value) (h:k≠b):(mapBlock w b f).heap[k]? =w.heap[k]? :=by
 simp[mapBlock,Array.getElem?_modify,Ne.symm h]
theorem Jy (w:World) (b:Nat) (f:Array Value→Array Value):(mapBlock w b f).heap.size=w.heap.size:=by simp[mapBlock]
theorem Ail {w w':World} {b o n:Nat} {vs vs':List Value} {f:Array Value→Array Value} (h:Has w b o vs n) (hw:w'.heap[b]? =(w.heap[b]?).map (onCells f)) (hs:∀c,(f c).size=c.size)
 (hf:∀c:Array Value,o+n≤c.size→(∀i,i<vs.length→c[o+i]? =vs[i]?)→∀i,i<vs'.length→(f c)[o+i]? =vs'[i]?) (ho:Fy vs') (hl:vs'.length≤n):Has w' b o vs' n:=by
 obtain⟨_,c,et,hb,h2,h3,h4⟩:=h
 exact⟨ho,f c,et,by rw[hw,hb];rfl,by rw[hs];exact h2,hl,hf c h2 h4⟩
theorem Aob {w:World} {b o n:Nat} {l:List Int} (h:Has w b o (iv l) n):Holds (Value.int .i64) w b o l.toArray:=by
 intro j hj
 simp only[List.size_toArray]at hj
 have hr:=(DN h).2 j (by simpa using hj)
 obtain⟨_,c,et,hb,_,_,_⟩:=h
 refine⟨?_,?_⟩
 ·rw[hr]
  simp[iv,hj]
 ·unfold World.frozen?
  simp only[hb]
  simp
theorem ZF {α:Type} [Inhabited α] (enc:α→Value) (o:Nat) (d:Array α) (c:Array Value):(putCells enc o d c).size=c.size:=by simp[putCells]
theorem Afu (l:List Int) (o:Nat) (c:Array Value) {i:Nat} (hi:i<l.length) (hc:o+i<c.size):(putCells (Value.int .i64) o l.toArray c)[o+i]? =(iv l)[i]? :=by
 simp only[putCells,Array.getElem?_mapIdx,Array.getElem?_eq_getElem hc,Option.map_some]
 rw[if_pos ⟨by omega,by simp;omega⟩]
 simp[iv,hi]
def Aq1 (l:List Int):List Int:=l.mergeSort fun x y=>decide (x≤y)
theorem AeQ (l:List Int):(Aq1 l).length=l.length:=by simp[Aq1]
theorem AAI {P:Program} {Af:Nat→Option FuncId} {G:Gl} {g k:Nat} (hid:Af g=some k)
 (h0:∀(p:Option Addr) (cap:Nat) (w:World),Calls P k #[.slice p 0 cap] w fun e w'=>e= .returned (.tuple #[])∧w' =w)
 (hc:∀(blk off cap:Nat) (zs:List Int) (w:World),Holds (Value.int .i64) w blk off zs.toArray→blk<w.heap.size→zs.length<4611686018427387904→
  Calls P k #[.slice (some ⟨blk,off,none⟩) zs.length cap] w fun e w'=>e= .returned (.tuple #[])∧∃n os,w' =grow (putRow (Value.int .i64) (Sort.ahead w n) blk off (zs.mergeSort fun x y=>decide (x≤y)).toArray) os)
 (l:List Int) (hl:l.length≤4194304):Den P Af G g [.arr 0] [.arr 1 0 l.length (T.ints l)] (.tup []) [.arr 1 0 l.length (T.ints (Aq1 l))]:=by
 refine Ayj (AeQ l) fun id hi F hF inv a cap hcap hm=> ?_
 rw[hid]at hi
 cases hi
 rcases hm with hm | ⟨b,o,rfl,hown,hhas⟩
 ·subst hm
  have:l=[]:=List.eq_nil_of_length_eq_zero (by omega)
  subst this
  refine(h0 a 0 F.w0).mono fun e w' ⟨he,hw⟩=>⟨he,.inl rfl,?_⟩
  rw[hw];exact Kept.refl F
 ·refine(hc b o cap l F.w0 (Aob hhas) (Py hhas) (by omega)).mono fun e w' ⟨he,n,os,hw⟩=>⟨he,.inr ⟨b,o,rfl,?_⟩,?_⟩
  ·refine Ail (f:=putCells (Value.int .i64) o (Aq1 l).toArray) hhas ?_ (ZF _ _ _) (fun c h1 _ i h2=> ?_) (YO _) (by simp[AeQ];exact hcap)
   ·have hb:=Py hhas
    rw[hw]
    simp only[grow,putRow]
    rw[Array.getElem?_append,if_pos (by rw[Jy];exact hb),Wj]
    rfl
   ·simp only[AuU]at h2
    exact Afu (Aq1 l) o c h2 (by rw[AeQ]at h2;omega)
  ·rw[hw]
   refine⟨by simp[grow,putRow,Jy,Sort.ahead],rfl,rfl,rfl,fun b' h1 h2=> ?_⟩
   have hne:b'≠b:=by intro e;rw[e,hown]at h2;cases h2
   simp only[grow,putRow]
   rw[Array.getElem?_append,if_pos (by rw[Jy];exact h1),VB _ _ hne]
   rfl
end Go.Eng
