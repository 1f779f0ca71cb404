/- Own work: part 46 of the proof of FnExactDialOf. -/
import Derived.Test.YtdgpapmladligaaGreatP45
import Derived.Lib.SlicesCompact
import Derived.Below
import Derived.Sort.Grow
import Derived.Deep.Draws
import Derived.Lib.LaidTab
import Derived.Sort.Row
import Derived.Laws.IdiomCopy
import Derived.Lib.Slices
import Derived.Laws.AppendOwn
import Derived.Shelf.Bits.Mul64
import Derived.Shelf.Slices.Turned
import Derived.Shelf.Slices.Reverse
import Derived.Shelf.Slices.Equal
import Derived.Ground.Names2Prog
import Derived.Shelf.Slices.Clone
import Derived.Shelf.Slices.Cells
import Derived.Shelf.Slices.Empties2
import Derived.Ground.SlgnProg
import Derived.Shelf.SlicesE.Reverse
import Derived.Shelf.SlicesE.Clone
import Derived.Test.YtdgpapmladligaaGreatProg
import Derived.Shelf.Spec.SlicesInsertGrow
import Derived.KernelRfl
import Derived.LoopN
set_option linter.unusedSimpArgs false
set_option linter.unusedVariables false
namespace Go.Eng.T
set_option maxRecDepth 20000
set_option maxHeartbeats 1000000
def RJ (p q:Int):Int:=if InQ q 1 1000000000000 then(p.tmod q+q).tmod q else 0
abbrev Aig (R:Rel):Prop:=∀p q:Int,R [I p,I q] [] (I (RJ p q)) []
theorem AlT (p:Int) {q:Int} (h:1≤q):-q<p.tmod q∧p.tmod q<q:=by
 have h1:=Int.tmod_lt_of_pos p (show 0<q by omega)
 have h2:=Int.lt_tmod_of_pos p (show 0<q by omega)
 omega
theorem ABt (D:Dn) (hI:WS (D EA)):Aig (Body D Ab9):=by
 intro p q
 simp -implicitDefEqProofs
 refine Aa (hI _ _ _) ?_
 by_cases h:InQ q 1 1000000000000
 rotate_left
 ·simp -implicitDefEqProofs [h,RJ]
 have h0:¬q=0:=by omega
 have hb:=AlT p (q:=q) (by omega)
 have hw:IntKind.i64.wrap (p.tmod q+q)=p.tmod q+q:=Ae (by omega) (by omega)
 have e:RJ p q=(p.tmod q+q).tmod q:=by unfold RJ;rw[if_pos h]
 simp -implicitDefEqProofs [h,h0,hw,e]
theorem AAN (D:Dn) (hI:WS (D CP)):Aig (Body D AaW):=by
 intro p q
 simp -implicitDefEqProofs
 refine Aa (hI _ _ _) ?_
 by_cases h:InQ q 1 1000000000000
 rotate_left
 ·simp -implicitDefEqProofs [h,RJ]
 have h0:¬q=0:=by omega
 have hb:=AlT p (q:=q) (by omega)
 have hw:IntKind.i64.wrap (p.tmod q+q)=p.tmod q+q:=Ae (by omega) (by omega)
 have e:RJ p q=(p.tmod q+q).tmod q:=by unfold RJ;rw[if_pos h]
 simp -implicitDefEqProofs [h,h0,hw,e]
theorem AeH (p:Int) {q:Int} (h:InQ q 1 1000000000000):0≤RJ p q∧RJ p q<q:=by
 unfold RJ
 rw[if_pos h]
 have hb:=AlT p (q:=q) (by omega)
 have h1:=Int.tmod_nonneg q (show 0≤p.tmod q+q by omega)
 have h2:=Int.tmod_lt_of_pos (p.tmod q+q) (show 0<q by omega)
 exact⟨h1,h2⟩
def Nw (s v:Int):Int:=(s*1000003+RJ v 2147483647+13).tmod 2147483647
def hash (xs:List Int):Int:=xs.foldl Nw 11
abbrev Ua (R:Rel):Prop:=∀xs:List Int,xs.length≤maxLen→R [.sl 1 1 xs.length (ints xs)] [] (I (hash xs)) []
theorem Asf {s v:Int} (h:0≤s):0≤Nw s v∧Nw s v<2147483647:=by
 have hm:=AeH v (q:=2147483647) ⟨by omega,by omega⟩
 unfold Nw
 exact⟨Int.tmod_nonneg _ (by omega),Int.tmod_lt_of_pos _ (by omega)⟩
theorem AjQ {α:Type} {f:α→Int→α} {xs:List Int} {j:Nat} {a:α} (h:j<xs.length):(xs.take (j+1)).foldl f a=f ((xs.take j).foldl f a) xs[j]:=by
 have e:xs.take (j+1)=xs.take j++ [xs[j]]:=by simp
 rw[e,List.foldl_append];rfl
theorem Alr:∀(xs:List Int) {a:Int},0≤a→a<2147483647→0≤xs.foldl Nw a∧xs.foldl Nw a<2147483647
 | [],a,h1,h2=>⟨h1,h2⟩
 | x::xs,a,h1,h2=>by
  have:=Asf (s:=a) (v:=x) h1
  exact Alr xs this.1 this.2
theorem AyU (D:Dn) (hM:Aig (D AjS)):Ua (Body D YA):=by
 intro xs hl
 unfold maxLen at hl
 simp -implicitDefEqProofs
 refine Ah (fun k s=>∃j,j+k=xs.length∧s=⟨[.sl 1 1 xs.length (ints xs),.undef,I ((xs.take j).foldl Nw 11),I j,.undef],[]⟩) ?_ (xs.length) _ ⟨0,by simp,by simp⟩
 intro k s ⟨j,hj,hs⟩
 subst hs
 by_cases hjn:j<xs.length
 ·have hw:IntKind.i64.wrap ((j:Int)+1)=(j+1:Nat):=by rw[Ae (by omega) (by omega)];simp
  have hst:=AjQ (f:=Nw) (a:=(11:Int)) hjn
  have hb:=Alr (xs.take j) (a:=11) (by omega) (by omega)
  generalize(xs.take j).foldl Nw 11=s at hst hb
  have hm:=AeH xs[j] (q:=2147483647) ⟨by omega,by omega⟩
  have w1:IntKind.i64.wrap (s*1000003)=s*1000003:=Ae (by omega) (by omega)
  have w2:IntKind.i64.wrap (s*1000003+RJ xs[j] 2147483647)=s*1000003+RJ xs[j] 2147483647:=Ae (by omega) (by omega)
  have w3:IntKind.i64.wrap (s*1000003+RJ xs[j] 2147483647+13)=s*1000003+RJ xs[j] 2147483647+13:=Ae (by omega) (by omega)
  simp -implicitDefEqProofs [hjn,w1]
  refine Aa (hM _ _) ?_
  simp -implicitDefEqProofs [w1,w2,w3]
  exact⟨k-1,by omega,j+1,by omega,by rw[hst];rfl,by simp[hw]⟩
 ·have e:xs.take j=xs:=List.take_of_length_le (by omega)
  simp -implicitDefEqProofs [hjn,e,hash]
theorem Az9 (D:Dn) (hM:Aig (D Akc)):Ua (Body D Yo):=by
 intro xs hl
 unfold maxLen at hl
 simp -implicitDefEqProofs
 refine Ah (fun k s=>∃j,j+k=xs.length∧s=⟨[.undef,.undef,I ((xs.take j).foldl Nw 11),.undef,.sl 1 1 xs.length (ints xs),I xs.length,I j,.undef],[]⟩) ?_ (xs.length) _ ⟨0,by simp,by simp⟩
 intro k s ⟨j,hj,hs⟩
 subst hs
 by_cases hjn:j<xs.length
 ·have hw:IntKind.i64.wrap ((j:Int)+1)=(j+1:Nat):=by rw[Ae (by omega) (by omega)];simp
  have hst:=AjQ (f:=Nw) (a:=(11:Int)) hjn
  have hb:=Alr (xs.take j) (a:=11) (by omega) (by omega)
  generalize(xs.take j).foldl Nw 11=s at hst hb
  have hm:=AeH xs[j] (q:=2147483647) ⟨by omega,by omega⟩
  have w1:IntKind.i64.wrap (s*1000003)=s*1000003:=Ae (by omega) (by omega)
  have w2:IntKind.i64.wrap (s*1000003+RJ xs[j] 2147483647)=s*1000003+RJ xs[j] 2147483647:=Ae (by omega) (by omega)
  have w3:IntKind.i64.wrap (s*1000003+RJ xs[j] 2147483647+13)=s*1000003+RJ xs[j] 2147483647+13:=Ae (by omega) (by omega)
  simp -implicitDefEqProofs [hjn,w1]
  refine Aa (hM _ _) ?_
  simp -implicitDefEqProofs [w1,w2,w3]
  exact⟨k-1,by omega,j+1,by omega,by rw[hst];rfl,by simp[hw]⟩
 ·have e:xs.take j=xs:=List.take_of_length_le (by omega)
  simp -implicitDefEqProofs [hjn,e,hash]
def keyed (k:Int) (xs:List Int):Int:=hash (k::xs++ [k])
abbrev U2 (R:Rel):Prop:=∀(k:Int) (xs:List Int),xs.length≤4194304→R [I k,.sl 1 1 xs.length (ints xs)] [] (I (keyed k xs)) []
theorem Mi (a:Int) (xs:List Int):V.sc (.int .i64 a)::ints xs=ints (a::xs):=rfl
theorem AvY (D:Dn) (hH:Ua (D Xq)):U2 (Body D Ns):=by
 intro k xs hl
 have b1:(1+xs.length)*8≤1099511627776:=by omega
 have b2:(1+xs.length+1)*8≤1099511627776:=by omega
 have hlen:(k::xs++ [k]).length=1+xs.length+1:=by simp;omega
 simp -implicitDefEqProofs [b1,b2]
 have hh:=hH (k::xs++ [k]) (by unfold maxLen;omega)
 rw[hlen]at hh
 simp -implicitDefEqProofs [Mi]at hh
 simp -implicitDefEqProofs [Mi]
 refine Aa (hh) ?_
 simp -implicitDefEqProofs [keyed]
def pick (seed p n:Int):Int:=if n<1 then 0 else RJ (hash [seed,p]) n
abbrev WL (R:Rel):Prop:=∀seed p n:Int,R [I seed,I p,I n] [] (I (pick seed p n)) []
theorem AyF (D:Dn) (hH:Ua (D Xq)) (hM:Aig (D AjS)):WL (Body D TJ):=by
 intro seed p n
 by_cases h:n<1
 ·simp -implicitDefEqProofs [h,pick]
 simp -implicitDefEqProofs [h]
 refine Aa (hH [seed,p] (by unfold maxLen;simp)) ?_
 simp -implicitDefEqProofs
 refine Aa (hM _ _) ?_
 simp -implicitDefEqProofs [pick,h]
theorem Azs (D:Dn) (hH:Ua (D XD)) (hM:Aig (D Akc)):WL (Body D SK):=by
 intro seed p n
 by_cases h:n<1
 ·simp -implicitDefEqProofs [h,pick]
 simp -implicitDefEqProofs [h]
 refine Aa (hH [seed,p] (by unfold maxLen;simp)) ?_
 simp -implicitDefEqProofs
 refine Aa (hM _ _) ?_
 simp -implicitDefEqProofs [pick,h]
theorem QA (seed p:Int) {n:Int} (h:InQ n 1 1000000000000):0≤pick seed p n∧pick seed p n<n:=by
 unfold pick
 rw[if_neg (by omega)]
 exact AeH _ h
def Mr (seed:Int):Int:=16*pick seed 0 16+10
abbrev Ig (R:Rel):Prop:=∀seed:Int,R [I seed] [] (I (Mr seed)) []
theorem Akm (D:Dn) (hP:WL (D AaE)):Ig (Body D Nr):=by
 intro seed
 simp -implicitDefEqProofs
 refine Aa (hP _ _ _) ?_
 have hb:=QA seed 0 (n:=16) ⟨by omega,by omega⟩
 have w1:IntKind.i64.wrap (16*pick seed 0 16)=16*pick seed 0 16:=Ae (by omega) (by omega)
 have w2:IntKind.i64.wrap (16*pick seed 0 16+10)=16*pick seed 0 16+10:=Ae (by omega) (by omega)
 simp -implicitDefEqProofs [w1,w2,Mr]
theorem AlX (D:Dn) (hP:WL (D YR)):Ig (Body D Nk):=by
 intro seed
 simp -implicitDefEqProofs
 refine Aa (hP _ _ _) ?_
 have hb:=QA seed 0 (n:=16) ⟨by omega,by omega⟩
 have w1:IntKind.i64.wrap (16*pick seed 0 16)=16*pick seed 0 16:=Ae (by omega) (by omega)
 have w2:IntKind.i64.wrap (16*pick seed 0 16+10)=16*pick seed 0 16+10:=Ae (by omega) (by omega)
 simp -implicitDefEqProofs [w1,w2,Mr]
def II (ls:List (List Int)):Bool:=decide (ls.length≤12)&&ls.all fun l=>allIn l 0 255
abbrev Js (R:Rel):Prop:=∀ls:List (List Int),KI ls≤4194304→R [Kh ls] [] (B (II ls)) []
theorem ApJ (D:Dn) (hB:VE (D TG)):Js (Body D J2):=by
 intro ls hl
 have hll:=UA (xs:=ls)
 simp -implicitDefEqProofs
 refine Ah (fun k s=>∃j,j+k=ls.length∧(ls.take j).all (fun l=>allIn l 0 255)=true∧s=⟨[Kh ls,.undef,I j,.undef,.undef],[]⟩) ?_ (ls.length) _ ⟨0,by simp,by simp,by simp⟩
 intro k s ⟨j,hj,hp,hs⟩
 subst hs
 by_cases hjn:j<ls.length
 ·have hw:IntKind.i64.wrap ((j:Int)+1)=(j+1:Nat):=by rw[Ae (by omega) (by omega)];simp
  have hst:=AgI (p:=fun l=>allIn l 0 255) hjn
  rw[hp,Bool.true_and]at hst
  have hra:=AeX hjn
  simp -implicitDefEqProofs [hjn]
  refine Aa (hB _ (by unfold maxLen;omega)) ?_
  by_cases h1:allIn ls[j] 0 255=true
  ·simp -implicitDefEqProofs [h1]
   exact⟨k-1,by omega,j+1,by omega,by simpa using hst.trans h1,by simp[hw]⟩
  ·have e:II ls=false:=by unfold II;rw[Z0 hjn (by simpa using h1)];simp
   simp -implicitDefEqProofs [h1,e]
 ·have e:II ls=decide (ls.length≤12):=by unfold II;rw[←AkP (j:=j) (by omega),hp];simp
  by_cases h5:ls.length≤12
  ·have h5':(ls.length:Int)≤12:=by omega
   simp -implicitDefEqProofs [hjn,e,h5,h5']
  ·have h5':¬(ls.length:Int)≤12:=by omega
   simp -implicitDefEqProofs [hjn,e,h5,h5']
abbrev VY (R:Rel):Prop:=∀l:List Int,l.length≤maxLen→R [.sl 1 1 l.length (ints l)] [] (B (!allIn l 0 255)) []
theorem ApU (D:Dn) (hN:Ie (D IE)):VY (Body D H6):=by
 intro l hl
 simp -implicitDefEqProofs
 refine Aa (hN _ _ _ hl) ?_
 simp -implicitDefEqProofs
theorem Api (D:Dn) (h1':VY (D M7)) (hC:Hq D (D Jt)):Js (Body D JS):=by
 intro ls hl
 have hll:=UA (xs:=ls)
 by_cases h5:ls.length≤12
 rotate_left
 ·have h5':¬(ls.length:Int)≤12:=by omega
  simp -implicitDefEqProofs [h5',h5,II]
 have h5':(ls.length:Int)≤12:=by omega
 simp -implicitDefEqProofs [h5']
 refine Aa (hC ls M7 [] (fun l=> !allIn l 0 255) (by unfold maxLen;omega) FY (fun j hj=>h1' ls[j] (by have:=AeX hj;unfold maxLen;omega))) ?_
 rw[Aq5]
 generalize hq:(ls.all fun l=>allIn l 0 255)=q
 simp -implicitDefEqProofs [II,h5,hq]
def Ou (x:Int) (b:List Int):Int:=hash (x::(b.length:Int)::b)
def G9 (ls:List (List Int)):Int:=if II ls=true then ls.foldl Ou 1 else 0
abbrev Il (R:Rel):Prop:=∀ls:List (List Int),KI ls≤4194304→R [Kh ls] [] (I (G9 ls)) []
theorem Ahc {α β:Type} {f:α→β→α} {xs:List β} {j:Nat} {a:α} (h:j<xs.length):(xs.take (j+1)).foldl f a=f ((xs.take j).foldl f a) xs[j]:=by
 have e:xs.take (j+1)=xs.take j++ [xs[j]]:=by simp
 rw[e,List.foldl_append];rfl
theorem AkL (D:Dn) (hT:Js (D Pe)) (hH:Ua (D Xq)):Il (Body D Ib):=by
 intro ls hl
 have hll:=UA (xs:=ls)
 simp -implicitDefEqProofs
 refine Aa (hT ls hl) ?_
 by_cases h1:II ls=true
 rotate_left
 ·simp -implicitDefEqProofs [h1,G9]
 simp -implicitDefEqProofs [h1]
 refine Ah (fun k s=>∃j o0 o1,j+k=ls.length∧s=⟨[Kh ls,.undef,I ((ls.take j).foldl Ou 1),I j,.undef,.undef],[o0,o1]⟩) ?_ (ls.length) _ ⟨0,.free,.free,by simp,by simp⟩
 intro k s ⟨j,o0,o1,hj,hs⟩
 subst hs
 by_cases hjn:j<ls.length
 ·have hw:IntKind.i64.wrap ((j:Int)+1)=(j+1:Nat):=by rw[Ae (by omega) (by omega)];simp
  have hst:=Ahc (f:=Ou) (a:=(1:Int)) hjn
  have hra:=AeX hjn
  have b1:(2+ls[j].length)*8≤1099511627776:=by omega
  generalize(ls.take j).foldl Ou 1=x at hst
  have hh:=hH (x::(ls[j].length:Int)::ls[j]) (by unfold maxLen;simp;omega)
  have hlen:(x::(ls[j].length:Int)::ls[j]).length=2+ls[j].length:=by simp;omega
  rw[hlen]at hh
  simp only[←Mi]at hh
  simp -implicitDefEqProofs [hjn,b1]
  refine Aa (hh) ?_
  simp -implicitDefEqProofs
  exact⟨k-1,by omega,j+1,by omega,by rw[hst];rfl,by simp[hw]⟩
 ·have e:ls.take j=ls:=List.take_of_length_le (by omega)
  have e2:G9 ls=ls.foldl Ou 1:=by unfold G9;rw[if_pos h1]
  simp -implicitDefEqProofs [hjn,e,e2]
theorem Akq (D:Dn) (hT:Js (D PG)) (hH:Ua (D XD)):Il (Body D HY):=by
 intro ls hl
 have hll:=UA (xs:=ls)
 simp -implicitDefEqProofs
 refine Aa (hT ls hl) ?_
 by_cases h1:II ls=true
 rotate_left
 ·simp -implicitDefEqProofs [h1,G9]
 simp -implicitDefEqProofs [h1]
 refine Ah (fun k s=>∃j o0 o1,j+k=ls.length∧s=⟨[.undef,.undef,I ((ls.take j).foldl Ou 1),.undef,.undef,Kh ls,I ls.length,I j,.undef],[o0,o1]⟩) ?_ (ls.length) _ ⟨0,.free,.free,by simp,by simp⟩
 intro k s ⟨j,o0,o1,hj,hs⟩
 subst hs
 by_cases hjn:j<ls.length
 ·have hw:IntKind.i64.wrap ((j:Int)+1)=(j+1:Nat):=by rw[Ae (by omega) (by omega)];simp
  have hst:=Ahc (f:=Ou) (a:=(1:Int)) hjn
  have hra:=AeX hjn
  have b1:(2+ls[j].length)*8≤1099511627776:=by omega
  generalize(ls.take j).foldl Ou 1=x at hst
  have hh:=hH (x::(ls[j].length:Int)::ls[j]) (by unfold maxLen;simp;omega)
  have hlen:(x::(ls[j].length:Int)::ls[j]).length=2+ls[j].length:=by simp;omega
  rw[hlen]at hh
  simp only[←Mi]at hh
  simp -implicitDefEqProofs [hjn,b1]
  refine Aa (hh) ?_
  simp -implicitDefEqProofs
  exact⟨k-1,by omega,j+1,by omega,by rw[hst];rfl,by simp[hw]⟩
 ·have e:ls.take j=ls:=List.take_of_length_le (by omega)
  have e2:G9 ls=ls.foldl Ou 1:=by unfold G9;rw[if_pos h1]
  simp -implicitDefEqProofs [hjn,e,e2]
def CZ (k:Int) (ls:List (List Int)) (side:Int):Int:=if Si k&&(II ls&&decide (InQ side 0 1))then keyed k [side,G9 ls]else 0
abbrev OG (R:Rel):Prop:=∀(k:Int) (ls:List (List Int)) (side:Int),KI ls≤4194304→R [I k,Kh ls,I side] [] (I (CZ k ls side)) []
theorem Aty (D:Dn) (hV:Kk (D Abb)) (hT:Js (D Pe)) (hI:WS (D EA)) (hH:Il (D U0)) (hK:U2 (D Aex)):OG (Body D PE):=by
 intro k ls side hl
 simp -implicitDefEqProofs
 refine Aa (hV k) ?_
 by_cases h1:Si k=true
 rotate_left
 ·simp -implicitDefEqProofs [h1,CZ]
 simp -implicitDefEqProofs [h1]
 refine Aa (hT ls hl) ?_
 by_cases h2:II ls=true
 rotate_left
 ·simp -implicitDefEqProofs [h2,CZ]
 simp -implicitDefEqProofs [h2]
 refine Aa (hI _ _ _) ?_
 by_cases h3:InQ side 0 1
 rotate_left
 ·simp -implicitDefEqProofs [h3,CZ]
 simp -implicitDefEqProofs [h3]
 refine Aa (hH ls hl) ?_
 simp -implicitDefEqProofs
 refine Aa (hK k [side,G9 ls] (by simp)) ?_
 simp -implicitDefEqProofs [CZ,h1,h2,h3]
theorem Ats (D:Dn) (hV:Kk (D AbD)) (hT:Js (D PG)) (hI:WS (D CP)) (hH:Il (D Vi)) (hK:U2 (D AdF)):OG (Body D PV):=by
 intro k ls side hl
 simp -implicitDefEqProofs
 refine Aa (hV k) ?_
 by_cases h1:Si k=true
 rotate_left
 ·simp -implicitDefEqProofs [h1,CZ]
 simp -implicitDefEqProofs [h1]
 refine Aa (hT ls hl) ?_
 by_cases h2:II ls=true
 rotate_left
 ·simp -implicitDefEqProofs [h2,CZ]
 simp -implicitDefEqProofs [h2]
 refine Aa (hI _ _ _) ?_
 by_cases h3:InQ side 0 1
 rotate_left
 ·simp -implicitDefEqProofs [h3,CZ]
 simp -implicitDefEqProofs [h3]
 refine Aa (hH ls hl) ?_
 simp -implicitDefEqProofs
 refine Aa (hK k [side,G9 ls] (by simp)) ?_
 simp -implicitDefEqProofs [CZ,h1,h2,h3]
def OP (k:Int) (ls:List (List Int)) (side f:Int):Bool:= !decide (f=0)&&decide (f=CZ k ls side)
abbrev TD (R:Rel):Prop:=∀(k:Int) (ls:List (List Int)) (side f:Int),KI ls≤4194304→R [I k,Kh ls,I side,I f] [] (B (OP k ls side f)) []
theorem AlP (D:Dn) (hF:OG (D UF)):TD (Body D NQ):=by
 intro k ls side f hl
 by_cases h0:f=0
 ·simp -implicitDefEqProofs [h0,OP]
 simp -implicitDefEqProofs [h0]
 refine Aa (hF k ls side hl) ?_
 simp -implicitDefEqProofs [OP,h0,At1]
end Go.Eng.T
namespace Go.Eng.T
set_option maxRecDepth 20000
set_option maxHeartbeats 1000000
theorem VD {l:List Ext} (h:Eg l=true):l.length≤6:=by
 unfold Eg at h
 simp only[Bool.and_eq_true,decide_eq_true_eq]at h
 exact h.2
theorem Az2 {l:List Ext} (h:Eg l=true) {j:Nat} (hj:j<l.length):Sk l j=true:=by
 unfold Eg at h
 simp only[Bool.and_eq_true]at h
 exact AtE.1 h.1 j hj
theorem Yc {l:List Ext} (h:Eg l=true) {j:Nat} (hj:j<l.length):l[j].body.length≤4:=by
 have:=Az2 h hj
 rw[AbX hj]at this
 unfold UU at this
 simp only[Bool.and_eq_true,decide_eq_true_eq]at this
 exact this.1.2.1
def ACB (x:Ext):List Int:=x.tag::(x.body.length:Int)::x.body
def LF (l:List Ext) (j:Nat):List Int:=(l.length:Int)::(l.take j).flatMap ACB
theorem Yn {l:List Ext} {j:Nat} (h:j<l.length):LF l (j+1)=LF l j++([l[j].tag,(l[j].body.length:Int)]++l[j].body):=by
 have e:l.take (j+1)=l.take j++ [l[j]]:=by simp
 unfold LF
 rw[e,List.flatMap_append]
 simp[ACB]
theorem VX {l:List Ext} (h:Eg l=true):∀j,j≤l.length→(LF l j).length≤1+6*j
 | 0,_=>by simp[LF]
 | j+1,hj=>by
  have ih:=VX h j (by omega)
  have hb:=Yc h (j:=j) (by omega)
  rw[Yn (by omega)]
  simp only[List.length_append,List.length_cons,List.length_nil]
  omega
def Ej (l:List Ext):List Int×Bool:=if Eg l=true then(LF l l.length,true)else([],false)
abbrev FI (R:Rel):Prop:=∀l:List Ext,Rf l→R [.sl 1 2 l.length (l.flatMap Bl)] [] (.tup [.sl 0 1 (Ej l).1.length (ints (Ej l).1),B (Ej l).2]) []
theorem AiN (D:Dn) (hA:Fb (D Jz)):FI (Body D LX):=by
 intro l hl
 have hll:=hl.1
 simp -implicitDefEqProofs
 refine Aa (hA l hl) ?_
 by_cases h1:Eg l=true
 rotate_left
 ·have e:Ej l=([],false):=by unfold Ej;rw[if_neg h1]
  simp -implicitDefEqProofs [h1,e]
 simp -implicitDefEqProofs [h1]
 refine Ah (fun k s=>∃j o2 o3 o4,j+k=l.length∧s=⟨[.sl 1 2 l.length (l.flatMap Bl),.undef,.undef,.arr 5,I j,.undef,.undef],[.free,.free,o2,o3,o4,.arr 1 0 (LF l j).length (ints (LF l j))]⟩) ?_ (l.length) _ ⟨0,.free,.free,.free,by simp,by simp[LF,ints]⟩
 intro k s ⟨j,o2,o3,o4,hj,hs⟩
 subst hs
 by_cases hjn:j<l.length
 ·have hw:IntKind.i64.wrap ((j:Int)+1)=(j+1:Nat):=by rw[Ae (by omega) (by omega)];simp
  have hst:=Yn hjn
  have hle:=VX h1 j (by omega)
  have h6:=VD h1
  have hb4:=Yc h1 hjn
  have b1:((LF l j).length+2)*8≤1099511627776:=by omega
  have b2:((LF l j).length+2+l[j].body.length)*8≤1099511627776:=by omega
  simp -implicitDefEqProofs [hjn,b1,b2]
  exact⟨k-1,by omega,j+1,by omega,by simp[hw],by rw[hst];simp;omega,by rw[hst];simp[ints]⟩
 ·obtain rfl:j=l.length:=by omega
  have e:Ej l=(LF l l.length,true):=by unfold Ej;rw[if_pos h1]
  simp -implicitDefEqProofs [e]
theorem Ai1 (D:Dn) (hA:Fb (D Jl)):FI (Body D Ml):=by
 intro l hl
 have hll:=hl.1
 simp -implicitDefEqProofs
 refine Aa (hA l hl) ?_
 by_cases h1:Eg l=true
 rotate_left
 ·have e:Ej l=([],false):=by unfold Ej;rw[if_neg h1]
  simp -implicitDefEqProofs [h1,e]
 simp -implicitDefEqProofs [h1]
 refine Ah (fun k s=>∃j o1 o2 o3 o4,j+k=l.length∧s=⟨[.undef,.undef,.undef,.arr 5,.undef,.undef,.sl 1 2 l.length (l.flatMap Bl),I l.length,I j,.undef],[.free,o1,o2,o3,o4,.arr 1 0 (LF l j).length (ints (LF l j))]⟩) ?_ (l.length) _ ⟨0,.free,.free,.free,.free,by simp,by simp[LF,ints]⟩
 intro k s ⟨j,o1,o2,o3,o4,hj,hs⟩
 subst hs
 by_cases hjn:j<l.length
 ·have hw:IntKind.i64.wrap ((j:Int)+1)=(j+1:Nat):=by rw[Ae (by omega) (by omega)];simp
  have hst:=Yn hjn
  have hle:=VX h1 j (by omega)
  have h6:=VD h1
  have hb4:=Yc h1 hjn
  have b1:((LF l j).length+2)*8≤1099511627776:=by omega
  have b2:((LF l j).length+2+l[j].body.length)*8≤1099511627776:=by omega
  simp -implicitDefEqProofs [hjn,b1,b2]
  exact⟨k-1,by omega,j+1,by omega,by simp[hw],by rw[hst];simp;omega,by rw[hst];simp[ints]⟩
 ·obtain rfl:j=l.length:=by omega
  have e:Ej l=(LF l l.length,true):=by unfold Ej;rw[if_pos h1]
  simp -implicitDefEqProofs [e]
theorem Kr (l:List Ext):(Ej l).1.length≤37:=by
 unfold Ej
 split
 ·rename_i h
  have:=VX h l.length (Nat.le_refl _)
  have:=VD h
  dsimp only;omega
 ·simp
def AX (h:Hello):List Int:=if Co h=true then((h.versions.length:Int)::h.versions)++(Ej h.exts).1 else []
abbrev Gz (R:Rel):Prop:=∀h:Hello,hB h→R [arg (Cv h)] [] (.sl 0 1 (AX h).length (ints (AX h))) []
theorem AtA {h:Hello} (hh:Co h=true):Bc h.versions=true:=by unfold Co at hh;simp only[Bool.and_eq_true]at hh;exact hh.1
theorem Aiy (D:Dn) (hI:DL (D Fy)) (hE:FI (D Rq)):Gz (Body D LJ):=by
 intro h hh
 have hv:=hh.1
 simp -implicitDefEqProofs
 refine Aa (hI h hh) ?_
 by_cases h1:Co h=true
 rotate_left
 ·simp -implicitDefEqProofs [h1,AX]
 have hl:=Kr h.exts
 have e:AX h=((h.versions.length:Int)::h.versions)++(Ej h.exts).1:=by unfold AX;rw[if_pos h1]
 rw[e]
 simp -implicitDefEqProofs [h1]
 refine Aa (hE h.exts hh.2) ?_
 generalize(Ej h.exts).1=r at hl
 have b1:(1+h.versions.length)*8≤1099511627776:=by omega
 have b2:(1+h.versions.length+r.length)*8≤1099511627776:=by omega
 have el:h.versions.length+r.length+1=1+h.versions.length+r.length:=by omega
 simp -implicitDefEqProofs [b1,b2,Mi,AwC,el]
def Ia (a:P9):Bool:=decide (InV a.version 1 9)&&Eg a.exts
def Ay (a:P9):List Int:=if Ia a=true then a.version::(Ej a.exts).1 else []
abbrev G7 (R:Rel):Prop:=∀a:P9,Rf a.exts→R [arg (Vy a)] [] (B (Ia a)) []
theorem Am9 (D:Dn) (hI:WS (D EA)) (hE:Fb (D Jz)):G7 (Body D O3):=by
 intro a ha
 simp -implicitDefEqProofs
 refine Aa (hI _ _ _) ?_
 by_cases h1:InV a.version 1 9
 rotate_left
 ·simp -implicitDefEqProofs [h1,Ia]
 simp -implicitDefEqProofs [h1]
 refine Aa (hE _ ha) ?_
 simp -implicitDefEqProofs [Ia,h1]
theorem AnD (D:Dn) (hI:WS (D CP)) (hE:Fb (D Jl)):G7 (Body D OZ):=by
 intro a ha
 simp -implicitDefEqProofs
 refine Aa (hI _ _ _) ?_
 by_cases h1:InV a.version 1 9
 rotate_left
 ·simp -implicitDefEqProofs [h1,Ia]
 simp -implicitDefEqProofs [h1]
 refine Aa (hE _ ha) ?_
 simp -implicitDefEqProofs [Ia,h1]
abbrev F8 (R:Rel):Prop:=∀a:P9,Rf a.exts→R [arg (Vy a)] [] (.sl 0 1 (Ay a).length (ints (Ay a))) []
theorem Adr (a:P9):(Ay a).length≤38:=by
 unfold Ay
 have:=Kr a.exts
 split
 ·simp only[List.length_cons];omega
 ·simp
theorem Afc (D:Dn) (hI:G7 (D UI)) (hE:FI (D Rq)):F8 (Body D KQ):=by
 intro a ha
 simp -implicitDefEqProofs
 refine Aa (hI a ha) ?_
 by_cases h1:Ia a=true
 rotate_left
 ·have e:Ay a=[]:=by unfold Ay;rw[if_neg h1]
  simp -implicitDefEqProofs [h1,e]
 have hl:=Kr a.exts
 have e:Ay a=a.version::(Ej a.exts).1:=by unfold Ay;rw[if_pos h1]
 rw[e]
 simp -implicitDefEqProofs [h1]
 refine Aa (hE a.exts ha) ?_
 generalize(Ej a.exts).1=r at hl
 have b2:(1+r.length)*8≤1099511627776:=by omega
 have el:r.length+1=1+r.length:=by omega
 simp -implicitDefEqProofs [b2,Mi,el]
theorem Afv (D:Dn) (hI:G7 (D UY)) (hE:FI (D Ru)):F8 (Body D KS):=by
 intro a ha
 simp -implicitDefEqProofs
 refine Aa (hI a ha) ?_
 by_cases h1:Ia a=true
 rotate_left
 ·have e:Ay a=[]:=by unfold Ay;rw[if_neg h1]
  simp -implicitDefEqProofs [h1,e]
 have hl:=Kr a.exts
 have e:Ay a=a.version::(Ej a.exts).1:=by unfold Ay;rw[if_pos h1]
 rw[e]
 simp -implicitDefEqProofs [h1]
 refine Aa (hE a.exts ha) ?_
 generalize(Ej a.exts).1=r at hl
 have b2:(1+r.length)*8≤1099511627776:=by omega
 have el:r.length+1=1+r.length:=by omega
 simp -implicitDefEqProofs [b2,Mi,el]
def Aim (h:Hello) (x:Ext):Bool:=decide (x.tag∈Ao h.exts)&& !Av x.tag
def Ea (h:Hello) (a:P9):Bool:=Co h&&(Ia a&&(decide (a.version∈h.versions)&&a.exts.all (Aim h)))
abbrev Ih (R:Rel):Prop:=∀(h:Hello) (a:P9),hB h→Rf a.exts→R [arg (Cv h),arg (Vy a)] [] (B (Ea h a)) []
theorem AwZ {α:Type} {p:α→Bool} {xs:List α} {i:Int} (h:0≤i):(Gy p xs i<0)=¬(xs.any p=true):=by
 have:=Te (p:=p) (xs:=xs) h
 rw[←this]
 exact propext ⟨fun h=>by omega,fun h=>by omega⟩
theorem Azx (l:List Ext) (t:Int):l.any (FW t)=decide (t∈Ao l):=by
 rw[Bool.eq_iff_iff]
 simp only[List.any_eq_true,decide_eq_true_eq,Ao,List.mem_map,FW]
theorem Ki (l:List Ext) (t:Int):(HV l t<0)=¬(t∈Ao l):=by
 unfold HV
 rw[AwZ (by omega),Azx]
 simp
theorem Akx (D:Dn) (hX:NN (D Qm)) (hR:EW (D L9)) (hI:DL (D Fy)) (hA:G7 (D UI)) (hH:Tk (D Kg)):Ih (Body D NJ):=by
 intro h a hh ha
 have hal:=ha.1
 have hxl:=hh.2.1
 have hvl:=hh.1
 simp -implicitDefEqProofs
 refine Ah (fun k s=>∃j,j+k=a.exts.length∧(a.exts.take j).all (Aim h)=true∧s=⟨[.undef,.undef,.ptr 0 0,.ptr 1 0,.undef,I j,.undef,.undef],[.var ((Cv h).map (Be 1)),.var ((Vy a).map (Be 1))]⟩) ?_ (a.exts.length) _ ⟨0,by simp,by simp,by simp⟩
 intro k s ⟨j,hj,hp,hs⟩
 subst hs
 by_cases hjn:j<a.exts.length
 ·have hw:IntKind.i64.wrap ((j:Int)+1)=(j+1:Nat):=by rw[Ae (by omega) (by omega)];simp
  have hst:=AgI (p:=Aim h) hjn
  rw[hp,Bool.true_and]at hst
  simp -implicitDefEqProofs [hjn]
  refine Aa (hX h.exts _ (by unfold maxLen;omega)) ?_
  by_cases h1:a.exts[j].tag∈Ao h.exts
  rotate_left
  ·have e:Ea h a=false:=by unfold Ea;rw[Z0 hjn (by simp[Aim,h1])];simp
   have h1':HV h.exts a.exts[j].tag<0:=by rw[Ki];exact h1
   simp -implicitDefEqProofs [h1',e]
  have h1':¬HV h.exts a.exts[j].tag<0:=by rw[Ki];simpa using h1
  simp -implicitDefEqProofs [h1',hjn]
  refine Aa (hR _) ?_
  by_cases h2:Av a.exts[j].tag=true
  ·have e:Ea h a=false:=by unfold Ea;rw[Z0 hjn (by simp[Aim,h2])];simp
   simp -implicitDefEqProofs [h2,e]
  ·simp -implicitDefEqProofs [h2]
   exact⟨k-1,by omega,j+1,by omega,by simpa using hst.trans (show Aim h a.exts[j]=true by simp[Aim,h1,h2]),by simp[hw]⟩
 ·have e:a.exts.all (Aim h)=true:=by rw[←AkP (j:=j) (by omega),hp]
  simp -implicitDefEqProofs [hjn]
  refine Aa (hI h hh) ?_
  by_cases g1:Co h=true
  rotate_left
  ·simp -implicitDefEqProofs [g1,Ea]
  simp -implicitDefEqProofs [g1]
  refine Aa (hA a ha) ?_
  by_cases g2:Ia a=true
  rotate_left
  ·simp -implicitDefEqProofs [g2,Ea]
  simp -implicitDefEqProofs [g2]
  refine Aa (hH _ _ (by unfold maxLen;omega)) ?_
  have e2:Ea h a=decide (a.version∈h.versions):=by unfold Ea;rw[e,g1,g2];simp
  simp -implicitDefEqProofs [e2]
abbrev SV (R:Rel):Prop:=∀l:List Ext,l.length≤4194304→R [.sl 1 2 l.length (l.flatMap Bl)] [] (B ((Ao l).any Av)) []
theorem Akr (D:Dn) (hT:JE (D OD)) (hH:M6 (D R5)):SV (Body D NA):=by
 intro l hl
 simp -implicitDefEqProofs
 refine Aa (hT l hl) ?_
 simp -implicitDefEqProofs
 refine Aa (hH (Ao l) (by rw[KC];unfold maxLen;omega)) ?_
 generalize(Ao l).any Av=q
 simp -implicitDefEqProofs
theorem Az7 (h:Hello) (a:P9):a.exts.all (Aim h)=(decide (leftOf (Ao a.exts) (Ao h.exts)=[])&& !(Ao a.exts).any Av):=by
 have h1:decide (leftOf (Ao a.exts) (Ao h.exts)=[])=a.exts.all fun x=>decide (x.tag∈Ao h.exts):=by
  rw[Bool.eq_iff_iff,decide_eq_true_eq,List.all_eq_true]
  unfold leftOf
  rw[List.filter_eq_nil_iff]
  constructor
  ·intro hp x hx
   have:=hp x.tag (List.mem_map.2 ⟨x,hx,rfl⟩)
   simpa using this
  ·intro hp v hv
   obtain⟨x,hx,rfl⟩:=List.mem_map.1 hv
   simpa using hp x hx
 have h2:(!(Ao a.exts).any Av)=a.exts.all fun x=> !Av x.tag:=by
  unfold Ao
  rw[List.any_map,List.all_eq_not_any_not]
  simp[Function.comp_def]
 rw[h1,h2]
 generalize a.exts=l
 induction l with
 | nil=>rfl
 | cons x r ih=>
  simp only[List.all_cons,ih,Aim]
  generalize decide (x.tag∈Ao h.exts)=p1
  generalize Av x.tag=p2
  cases p1<;>cases p2<;>simp
theorem Aky (D:Dn) (hI:DL (D Gc)) (hA:G7 (D UY)) (hH:Tk (D BB)) (hT:JE (D OD)) (hL:Ub (D MN)) (hG:SV (D AdE)):Ih (Body D NW):=by
 intro h a hh ha
 have hal:=ha.1
 have hxl:=hh.2.1
 have hvl:=hh.1
 simp -implicitDefEqProofs
 refine Aa (hI h hh) ?_
 by_cases g1:Co h=true
 rotate_left
 ·simp -implicitDefEqProofs [g1,Ea]
 simp -implicitDefEqProofs [g1]
 refine Aa (hA a ha) ?_
 by_cases g2:Ia a=true
 rotate_left
 ·simp -implicitDefEqProofs [g2,Ea]
 simp -implicitDefEqProofs [g2]
 refine Aa (hH _ _ (by unfold maxLen;omega)) ?_
 by_cases g3:a.version∈h.versions
 rotate_left
 ·simp -implicitDefEqProofs [g3,Ea]
 have e2:Ea h a=(decide (leftOf (Ao a.exts) (Ao h.exts)=[])&& !(Ao a.exts).any Av):=by unfold Ea;rw[Az7,g1,g2];simp[g3]
 rw[e2]
 simp -implicitDefEqProofs [g3]
 refine Aa (hT a.exts hal) ?_
 simp -implicitDefEqProofs
 refine Aa (hT h.exts hxl) ?_
 simp -implicitDefEqProofs
 refine Aa (hL (Ao a.exts) (Ao h.exts) (by rw[KC];exact hal) (by rw[KC];exact hxl)) ?_
 by_cases g4:leftOf (Ao a.exts) (Ao h.exts)=[]
 rotate_left
 ·simp -implicitDefEqProofs [g4,At1]
 simp -implicitDefEqProofs [g4,At1]
 refine Aa (hG a.exts hal) ?_
 generalize(Ao a.exts).any Av=q
 simp -implicitDefEqProofs
def Ba (vs tags:List Int) (h:Hello):P9×Bool:=if Co h&& !decide (CX vs h.versions=0)then(⟨CX vs h.versions,XO (JF h.exts tags)⟩,true)else(⟨0,[]⟩,false)
abbrev Qf (R:Rel):Prop:=∀(vs tags:List Int) (h:Hello),vs.length≤4194304→tags.length≤4194304→hB h→R [.sl 1 1 vs.length (ints vs),.sl 1 1 tags.length (ints tags),arg (Cv h)] [] (.tup [.agg (Vy (Ba vs tags h).1),B (Ba vs tags h).2]) []
theorem As5 (D:Dn) (hB':GA (D AbL)) (hI:DL (D Fy)) (hK:K9 (D WO)) (hS:F6 (D YQ)):Qf (Body D JP):=by
 intro vs tags h hv ht hh
 simp -implicitDefEqProofs
 refine Aa (hB' vs h.versions hv hh.1) ?_
 simp -implicitDefEqProofs
 refine Aa (hI h hh) ?_
 by_cases h1:Co h=true
 rotate_left
 ·simp -implicitDefEqProofs [h1,Ba]
 by_cases h2:CX vs h.versions=0
 ·simp -implicitDefEqProofs [h1,h2,Ba]
 have e:Ba vs tags h=(⟨CX vs h.versions,XO (JF h.exts tags)⟩,true):=by unfold Ba;rw[if_pos (by simp[h1,h2])]
 simp -implicitDefEqProofs [h1,h2]
 refine Aa (hK h.exts tags hh.2 (by unfold maxLen;omega)) ?_
 simp -implicitDefEqProofs
 refine Aa (hS (JF h.exts tags) (Sb hh.2 _)) ?_
 simp -implicitDefEqProofs [e]
theorem Asm (D:Dn) (hB':GA (D Abh)) (hI:DL (D Gc)) (hK:K9 (D Aiz)) (hS:F6 (D Ze)):Qf (Body D JK):=by
 intro vs tags h hv ht hh
 simp -implicitDefEqProofs
 refine Aa (hB' vs h.versions hv hh.1) ?_
 simp -implicitDefEqProofs
 refine Aa (hI h hh) ?_
 by_cases h1:Co h=true
 rotate_left
 ·simp -implicitDefEqProofs [h1,Ba]
 by_cases h2:CX vs h.versions=0
 ·simp -implicitDefEqProofs [h1,h2,Ba]
 have e:Ba vs tags h=(⟨CX vs h.versions,XO (JF h.exts tags)⟩,true):=by unfold Ba;rw[if_pos (by simp[h1,h2])]
 simp -implicitDefEqProofs [h1,h2]
 refine Aa (hK h.exts tags hh.2 (by unfold maxLen;omega)) ?_
 simp -implicitDefEqProofs
 refine Aa (hS (JF h.exts tags) (Sb hh.2 _)) ?_
 simp -implicitDefEqProofs [e]
end Go.Eng.T
namespace Go.Eng.T
end Go.Eng.T
namespace Go.Eng.T
open Go.Eng.X
def CK:Nat→Bz
 |0=>R 0 [x 0 (s 0),x 1 (s 1),a 2 [c,o,N 1]] [(6,0),(7,1),(8,2)] [0,1]
 |1=>R 1 [m (s 2),m (s 3),P 2 (s 7),C 343 [r (l 0),r (l 1),r (l 2)] [3],m (l 3),X (l 4) 0,X (l 4) 1,a 4 [o,N 2],W 2 (l 7) (l 5),m (l 6)] [(9,7),(10,9)] [2,3]
 |2=>R 2 [m (s 10),n (l 0)] [(13,1)] [10]
 |3=>R 3 [b [c,o,N 1] [],W 3 (s 8) (l 0)] [] [4,5,6,7,9]
 |4=>R 4 [P 2 (s 9),a 5 [o,N 2],W 2 (l 1) (l 0)] [(11,1)] []
 |5=>R 5 [m (s 5),e (l 0),m (i 0)] [(14,1),(15,2)] [5]
 |6=>R 6 [y .lss (s 15) (s 14)] [(16,0)] [14,15]
 |7=>T 10 [D (m (s 4)) [] [],D (P 2 (s 7)) [1] [],D (C 345 [r (l 1)] [6]) [6] [6],D (P 2 (s 9)) [4] [],D (C 346 [r (l 3)] [7]) [3,7] [7],D (M 8 1 2 [l 2,l 4]) [6,7,8] [6,7,8],D (C 347 [r (l 0),r (l 5),r (i 1)] []) [8] [],D (m (l 6)) [] []] [(12,7)] [7,9]
 |8=>T 11 [D (P 2 (s 6)) [0] [],D (P 2 (s 11)) [5] [],D (C 348 [r (l 0),r (l 1)] []) [3] [],D (n (l 2)) [] [],D (m (l 3)) [] [],H 4 (m (s 4)) [] [],H 4 (P 2 (s 6)) [0] [],H 4 (C 345 [r (l 6)] [9]) [9] [9],H 4 (P 2 (s 11)) [5] [],H 4 (C 346 [r (l 8)] [10]) [3,10] [10],H 4 (M 11 1 2 [l 7,l 9]) [9,10,11] [9,10,11],H 4 (m (s 12)) [] [],H 4 (C 349 [r (l 5),r (l 10),r (i 1),r (l 11)] []) [11] [],H 4 (n (l 12)) [] [],D (k (l 4) t (l 13)) [] []] [(17,14)] [4,6,12]
 |9=>R 12 [b [c,o,N 1] [],W 3 (s 8) (l 0)] [] [11]
 |_=>T 13 [D (F (s 11) 0) [] [],D (L (l 0)) [5] [],D (F (s 11) 1) [] [],D (L (l 2)) [5] [],D (C 317 [r (l 3)] [12]) [3,12] [12],D (b [c,o,N 1] [(0,1,t),(1,1,l 1),(2,1,l 4)]) [] [],D (W 3 (s 8) (l 5)) [2] [2]] [] [11]
def TP:BD:=⟨18,13,[0,1,2,3,4,5],0,false,[],j (d (CK 0)) (j (d (CK 1)) (j (j (d (CK 2)) (h 13 (j (d (CK 3)) (.ret)) (.skip))) (j (d (CK 4)) (j (j (d (CK 5)) (.block 0 (.loop (j (d (CK 6)) (j (h 16 (.skip) (.exit 0)) (j (.block 1 (j (.stuck) (.stuck))) (.stuck))))))) (j (d (CK 7)) (j (j (d (CK 8)) (h 17 (j (d (CK 9)) (.ret)) (.skip))) (j (d (CK 10)) (.ret)))))))),[.cell 8 (some 3)]⟩
def Ae6:List Tmp:=[0,1,2,3,4,5,6,7,12,13,14,15,18,27,31,32,33,61]
def Bu:Nat→Bz
 |0=>R 0 [m (z 2)] [] [2]
 |1=>R 1 [m (s 1),C 310 [r (l 0)] [],m (l 1)] [(3,2)] []
 |2=>R 2 [m (s 0),C 311 [r (l 0)] [0],m (l 1)] [(4,2)] []
 |3=>R 3 [m (s 0),C 312 [r (l 0)] [],n (l 1),m (l 2),G 3 (m (s 0)),G 3 (e (l 4)),G 3 (y .geq (l 5) (i 6)),k (l 3) t (l 6),m (l 7),G 8 (m (s 0)),G 8 (m (s 3)),G 8 (C 309 [r (l 9),r (l 10)] []),G 8 (y .geq (l 11) (i 0)),k (l 8) t (l 12)] [(8,13)] []
 |4=>R 4 [m (s 4),m (l 0)] [(2,1)] [0,1,3,4]
 |5=>Q 5 [m (s 3),b [o,N 1] [(0,1,l 0)],a 1 [o,N 1],W 2 (l 2) (l 1)] [(5,2)] [3] [] [.ownc 1 1 9]
 |6=>R 6 [m (s 1),C 313 [r (l 0),r (i 2),r (i 3)] [],m (l 1)] [(6,2)] []
 |7=>R 7 [m (s 6),y .gtr (l 0) (i 0)] [(9,1)] []
 |8=>Y 9 [D (F (s 5) 1) [] [],D (L (l 0)) [1] [],D (m (s 1)) [] [],D (C 313 [r (l 2),r (i 3),r (i 256)] []) [] [],D (M 2 1 1 [l 3]) [2] [2],D (q 3 1 8 (l 1) (l 4)) [2,3,9] [3,9],D (F (s 5) 1) [] [],D (W 1 (l 6) (l 5)) [1] [1]] [] [] [2,3] [w 3 9]
 |9=>R 8 [m (s 6),y .sub (l 0) (i 1),m (l 1)] [(6,2)] []
 |10=>R 10 [m (s 1),m (s 0),e (l 1),y .add (l 2) (i 1),C 313 [r (l 0),r (i 1),r (l 3)] [],m (l 4)] [(7,5)] [0,1,6]
 |_=>T 11 [D (M 4 2 0 []) [4] [4],D (m (s 4)) [] [],D (m (s 7)) [] [],D (.slice 2 (l 1) none (some (l 2))) [0] [],D (p 5 2 32 (l 0) (l 3)) [0,4,5,100000] [0,4,5,100000],D (P 2 (s 5)) [1] [],D (M 6 2 1 [l 5]) [6,9] [6,9],D (p 7 2 32 (l 4) (l 6)) [5,6,7] [5,6,7],D (m (s 4)) [] [],D (m (s 7)) [] [],D (.slice 2 (l 8) (some (l 9)) none) [0] [],D (p 8 2 32 (l 7) (l 10)) [0,7,8,100000] [0,7,8,100000],D (m (l 11)) [] []] [(2,12)] [4,5,7]
def NI:BD:=⟨10,10,[0,1],0,false,[],j (d (Bu 0)) (j (d (Bu 1)) (j (d (Bu 2)) (j (j (d (Bu 3)) (h 8 (j (d (Bu 4)) (.ret)) (.skip))) (j (d (Bu 5)) (j (j (d (Bu 6)) (.block 0 (.loop (j (j (d (Bu 7)) (h 9 (.skip) (.exit 0))) (j (.block 1 (d (Bu 8))) (d (Bu 9))))))) (j (d (Bu 10)) (j (d (Bu 11)) (.ret)))))))),[.slot 2]⟩
def Aag:List Tmp:=[0,1,4,5,6,7,8,9,27,34]
attribute [simp] CK TP Bu NI
end Go.Eng.T
namespace Go.Eng.T
set_option maxRecDepth 20000
set_option maxHeartbeats 1000000
theorem Ak2 (D:Dn):Fg (Body D Nz):=by
 intro xs ys h1 h2
 unfold maxLen at h1 h2
 by_cases hl:xs.length=ys.length
 rotate_left
 ·have hl':¬(xs.length:Int)=ys.length:=by omega
  have:xs≠ys:=fun h=>hl (by rw[h])
  simp -implicitDefEqProofs [hl',this]
 have hl':(xs.length:Int)=ys.length:=by omega
 simp -implicitDefEqProofs [hl']
 refine Ah (fun k s=>∃j,j+k=xs.length∧xs.take j=ys.take j∧s=⟨[.sl 1 1 xs.length (ints xs),.sl 1 1 ys.length (ints ys),.undef,I j,.undef,.undef,.undef],[]⟩) ?_ (xs.length) _ ⟨0,by simp,by simp,by simp⟩
 intro k s ⟨j,hj,hp,hs⟩
 subst hs
 by_cases hjn:j<xs.length
 ·have hw:IntKind.i64.wrap ((j:Int)+1)=(j+1:Nat):=by rw[Ae (by omega) (by omega)];simp
  have hy:j<ys.length:=by omega
  by_cases he:xs[j]=ys[j]
  ·simp -implicitDefEqProofs [hjn,hy,he]
   exact⟨k-1,by omega,j+1,by omega,IJ hjn hy hp he,by simp[hw]⟩
  ·have hne:xs≠ys:=fun h=>he (by simp[h])
   simp -implicitDefEqProofs [hjn,hy,he,hne]
 ·obtain rfl:xs=ys:=KX (by omega) hl hp
  simp -implicitDefEqProofs [hjn]
theorem AwL (D:Dn):Fg (Body D Gd):=by
 intro xs ys h1 h2
 unfold maxLen at h1 h2
 by_cases hl:xs.length=ys.length
 rotate_left
 ·have hl':¬(xs.length:Int)=ys.length:=by omega
  have:xs≠ys:=fun h=>hl (by rw[h])
  simp -implicitDefEqProofs [hl',this]
 have hl':(xs.length:Int)=ys.length:=by omega
 simp -implicitDefEqProofs [hl']
 refine Ah (fun k s=>∃j,j+k=xs.length∧xs.take j=ys.take j∧s=⟨[.sl 1 1 xs.length (ints xs),.sl 1 1 ys.length (ints ys),.undef,.undef,.undef,I ys.length,I j,.undef,.undef],[]⟩) ?_ (xs.length) _ ⟨0,by simp,by simp,by simp⟩
 intro k s ⟨j,hj,hp,hs⟩
 subst hs
 by_cases hjn:j<xs.length
 ·have hw:IntKind.i64.wrap ((j:Int)+1)=(j+1:Nat):=by rw[Ae (by omega) (by omega)];simp
  have hy:j<ys.length:=by omega
  by_cases he:xs[j]=ys[j]
  ·simp -implicitDefEqProofs [hjn,hy,he]
   exact⟨k-1,by omega,j+1,by omega,IJ hjn hy hp he,by simp[hw]⟩
  ·have hne:xs≠ys:=fun h=>he (by simp[h])
   simp -implicitDefEqProofs [hjn,hy,he,hne]
 ·obtain rfl:xs=ys:=KX (by omega) hl hp
  simp -implicitDefEqProofs [hjn]
abbrev Ol (R:Rel):Prop:=∀a b:List Ext,Rf a→Rf b→R [.sl 1 2 a.length (a.flatMap Bl),.sl 1 2 b.length (b.flatMap Bl)] [] (B (decide (a=b))) []
abbrev RA (R:Rel):Prop:=∀a b:Ext,a.body.length≤4194304→b.body.length≤4194304→R [arg (Bl a),arg (Bl b)] [] (B (decide (a=b))) []
theorem ext_eq {a b:Ext} (h1:a.tag=b.tag) (h2:a.body=b.body):a=b:=by cases a;cases b;simp_all
theorem Ako (D:Dn) (hE:Fg (D Uc)):Ol (Body D ND):=by
 intro a b ha hb
 have h1:=ha.1
 have h2:=hb.1
 by_cases hl:a.length=b.length
 rotate_left
 ·have hl':¬(a.length:Int)=b.length:=by omega
  have:a≠b:=fun h=>hl (by rw[h])
  simp -implicitDefEqProofs [hl',this]
 have hl':(a.length:Int)=b.length:=by omega
 simp -implicitDefEqProofs [hl']
 refine Ah (fun k s=>∃j,j+k=a.length∧a.take j=b.take j∧s=⟨[.sl 1 2 a.length (a.flatMap Bl),.sl 1 2 b.length (b.flatMap Bl),.undef,I j,.undef,.undef,.undef],[]⟩) ?_ (a.length) _ ⟨0,by simp,by simp,by simp⟩
 intro k s ⟨j,hj,hp,hs⟩
 subst hs
 by_cases hjn:j<a.length
 ·have hw:IntKind.i64.wrap ((j:Int)+1)=(j+1:Nat):=by rw[Ae (by omega) (by omega)];simp
  have hy:j<b.length:=by omega
  by_cases g1:a[j].tag=b[j].tag
  rotate_left
  ·have hne:a≠b:=fun h=>g1 (by simp[h])
   simp -implicitDefEqProofs [hjn,hy,g1,hne]
  simp -implicitDefEqProofs [hjn,hy,g1]
  refine Aa (hE a[j].body b[j].body (by have:=K5 ha hjn;unfold maxLen;omega) (by have:=K5 hb hy;unfold maxLen;omega)) ?_
  by_cases g2:a[j].body=b[j].body
  ·simp -implicitDefEqProofs [g2]
   exact⟨k-1,by omega,j+1,by omega,IJ hjn hy hp (ext_eq g1 g2),by simp[hw]⟩
  ·have hne:a≠b:=fun h=>g2 (by simp[h])
   simp -implicitDefEqProofs [g2,hne]
 ·obtain rfl:a=b:=KX (by omega) hl hp
  simp -implicitDefEqProofs [hjn]
theorem Apt (D:Dn) (hE:Fg (D Jw)):RA (Body D OY):=by
 intro a b ha hb
 by_cases g1:a.tag=b.tag
 rotate_left
 ·have hne:a≠b:=fun h=>g1 (by simp[h])
  simp -implicitDefEqProofs [g1,hne]
 simp -implicitDefEqProofs [g1]
 refine Aa (hE a.body b.body (by unfold maxLen;omega) (by unfold maxLen;omega)) ?_
 by_cases g2:a.body=b.body
 ·have e:=ext_eq g1 g2
  simp -implicitDefEqProofs [g2,e]
 ·have hne:a≠b:=fun h=>g2 (by simp[h])
  simp -implicitDefEqProofs [g2,hne]
abbrev Tj (D:Dn) (R:Rel):Prop:=∀(a b:List Ext) (g:Nat),Rf a→Rf b→RA (D g)→R [.sl 1 2 a.length (a.flatMap Bl),.sl 1 2 b.length (b.flatMap Bl),.fn g []] [] (B (decide (a=b))) []
theorem Aom (D:Dn):Tj D (Body D Bj):=by
 intro a b g ha hb hg
 have h1:=ha.1
 have h2:=hb.1
 by_cases hl:a.length=b.length
 rotate_left
 ·have hl':¬(a.length:Int)=b.length:=by omega
  have:a≠b:=fun h=>hl (by rw[h])
  simp -implicitDefEqProofs [hl',this]
 have hl':(a.length:Int)=b.length:=by omega
 simp -implicitDefEqProofs [hl']
 refine Ah (fun k s=>∃j o0 o1,j+k=a.length∧a.take j=b.take j∧s=⟨[.undef,.sl 1 2 b.length (b.flatMap Bl),.fn g [],.undef,.undef,.undef,.undef,.undef,.sl 1 2 a.length (a.flatMap Bl),I b.length,I j,.undef,.undef],[o0,o1]⟩) ?_ (a.length) _ ⟨0,.free,.free,by simp,by simp,by simp⟩
 intro k s ⟨j,o0,o1,hj,hp,hs⟩
 subst hs
 by_cases hjn:j<a.length
 ·have hw:IntKind.i64.wrap ((j:Int)+1)=(j+1:Nat):=by rw[Ae (by omega) (by omega)];simp
  have hy:j<b.length:=by omega
  simp -implicitDefEqProofs [hjn,hy,↓OT OI]
  refine Aa (hg a[j] b[j] (K5 ha hjn) (K5 hb hy)) ?_
  by_cases g2:a[j]=b[j]
  ·simp -implicitDefEqProofs [g2]
   exact⟨k-1,by omega,j+1,by omega,IJ hjn hy hp g2,by simp[hw]⟩
  ·have hne:a≠b:=fun h=>g2 (by simp[h])
   simp -implicitDefEqProofs [g2,hne]
 ·obtain rfl:a=b:=KX (by omega) hl hp
  simp -implicitDefEqProofs [hjn]
theorem AlZ (D:Dn) (h1:RA (D Afl)) (hE:Tj D (D EB)):Ol (Body D NG):=by
 intro a b ha hb
 simp -implicitDefEqProofs
 refine Aa (hE a b _ ha hb h1) ?_
 simp -implicitDefEqProofs
abbrev Kn (R:Rel):Prop:=∀a b:Hello,hB a→hB b→R [arg (Cv a),arg (Cv b)] [] (B (decide (a=b))) []
theorem AfM {a b:Hello} (h1:a.versions=b.versions) (h2:a.exts=b.exts):a=b:=by cases a;cases b;simp_all
theorem Afw (D:Dn) (hE:Fg (D Uc)) (hX:Ol (D Ud)):Kn (Body D KJ):=by
 intro a b ha hb
 simp -implicitDefEqProofs
 refine Aa (hE a.versions b.versions (by have:=ha.1;unfold maxLen;omega) (by have:=hb.1;unfold maxLen;omega)) ?_
 by_cases g1:a.versions=b.versions
 rotate_left
 ·have hne:a≠b:=fun h=>g1 (by simp[h])
  simp -implicitDefEqProofs [g1,hne]
 simp -implicitDefEqProofs [g1]
 refine Aa (hX a.exts b.exts ha.2 hb.2) ?_
 by_cases g2:a.exts=b.exts
 ·have e:=AfM g1 g2
  simp -implicitDefEqProofs [g2,e]
 ·have hne:a≠b:=fun h=>g2 (by simp[h])
  simp -implicitDefEqProofs [g2,hne]
theorem AgX (D:Dn) (hE:Fg (D Jw)) (hX:Ol (D Aeu)):Kn (Body D KH):=by
 intro a b ha hb
 simp -implicitDefEqProofs
 refine Aa (hE a.versions b.versions (by have:=ha.1;unfold maxLen;omega) (by have:=hb.1;unfold maxLen;omega)) ?_
 by_cases g1:a.versions=b.versions
 rotate_left
 ·have hne:a≠b:=fun h=>g1 (by simp[h])
  simp -implicitDefEqProofs [g1,hne]
 simp -implicitDefEqProofs [g1]
 refine Aa (hX a.exts b.exts ha.2 hb.2) ?_
 by_cases g2:a.exts=b.exts
 ·have e:=AfM g1 g2
  simp -implicitDefEqProofs [g2,e]
 ·have hne:a≠b:=fun h=>g2 (by simp[h])
  simp -implicitDefEqProofs [g2,hne]
theorem AjZ:∀ {path:List Fx} {h:Hello},hB h→hB (GK path h).1
 | [],h,hh=>hh
 | b::r,h,hh=>by
  unfold GK
  split
  ·exact AjZ (Al7 hh)
  ·exact AgS
theorem M4 {path:List Fx} {h:Hello} (hh:hB h):hB (AV path h).1:=by
 unfold AV
 split
 ·exact AjZ hh
 ·exact AgS
theorem AcL:∀ {path:List Fx} {h:Hello},(GK path h).2=true→(GK path h).1.versions=h.versions
 | [],h,_=>rfl
 | b::r,h,hk=>by
  unfold GK at hk⊢
  split at hk
  ·rename_i hb
   rw[if_pos hb,AcL hk]
   unfold BI at hb⊢
   split at hb
   ·rename_i hc;rw[if_pos hc]
   ·cases hb
  ·cases hk
theorem Ajg {path:List Fx} {h:Hello} (hk:(AV path h).2=true):(AV path h).1.versions=h.versions:=by
 unfold AV at hk⊢
 split at hk
 ·rename_i hc;rw[if_pos hc];exact AcL hk
 ·cases hk
def Db (h:Hello) (path:List Fx):Bool:=(AV path h).2&&decide ((AV path h).1=h)
abbrev Ff (R:Rel):Prop:=∀(h:Hello) (path:List Fx),hB h→lnS GY path→R [arg (Cv h),.sl 1 4 path.length (path.flatMap Ck)] [] (B (Db h path)) []
theorem Afk (D:Dn) (hP:E8 (D K8)) (hQ:Kn (D YX)):Ff (Body D Lc):=by
 intro h path hh hb
 simp -implicitDefEqProofs
 refine Aa (hP path h hb hh) ?_
 have hr:=M4 (path:=path) hh
 have e:Db h path=((AV path h).2&&decide ((AV path h).1=h)):=rfl
 generalize AV path h=r at hr e
 by_cases g1:r.2=true
 rotate_left
 ·simp -implicitDefEqProofs [g1,e]
 simp -implicitDefEqProofs [g1]
 refine Aa (hQ r.1 h hr hh) ?_
 simp -implicitDefEqProofs [e,g1]
theorem Afh (D:Dn) (hP:E8 (D KW)) (hQ:Kn (D Aap)):Ff (Body D KU):=by
 intro h path hh hb
 simp -implicitDefEqProofs
 refine Aa (hP path h hb hh) ?_
 have hr:=M4 (path:=path) hh
 have e:Db h path=((AV path h).2&&decide ((AV path h).1=h)):=rfl
 generalize AV path h=r at hr e
 by_cases g1:r.2=true
 rotate_left
 ·simp -implicitDefEqProofs [g1,e]
 simp -implicitDefEqProofs [g1]
 refine Aa (hQ r.1 h hr hh) ?_
 simp -implicitDefEqProofs [e,g1]
end Go.Eng.T
namespace Go.Eng.T
set_option maxRecDepth 20000
set_option maxHeartbeats 1000000
def GQ (path:List Fx) (vs:List Int) (x:Ext):Bool:= !Db ⟨vs.take 1,[x]⟩ path
def Ey (path:List Fx) (vs:List Int) (l:List Ext):List Int:=if Eg l&&isOpen path vs then Ao (l.filter (GQ path vs))else []
abbrev Ke (R:Rel):Prop:=∀(path:List Fx) (vs:List Int) (l:List Ext),lnS GY path→vs.length≤4194304→Rf l→R [.sl 1 4 path.length (path.flatMap Ck),.sl 1 1 vs.length (ints vs),.sl 1 2 l.length (l.flatMap Bl)] [] (.sl 0 1 (Ey path vs l).length (ints (Ey path vs l))) []
theorem Anp {path:List Fx} {vs:List Int} (h:isOpen path vs=true):0<vs.length:=by
 unfold isOpen at h
 simp only[Bool.and_eq_true]at h
 exact Vo h.1
theorem Ae3 {p:Ext→Bool} {l:List Ext} {j:Nat} (h:j<l.length):Ao ((l.take (j+1)).filter p)=Ao ((l.take j).filter p)++(if p l[j]then [l[j].tag]else []):=by
 rw[Afy h]
 unfold Ao
 rw[List.map_append]
 split<;>simp
theorem Ajt {p:Ext→Bool} {l:List Ext} {j:Nat}:(Ao ((l.take j).filter p)).length≤j:=by
 unfold Ao
 rw[List.length_map]
 exact AjW
theorem AqY {path:List Fx} {vs:List Int} {x:Ext}:GQ path vs x= !((AV path ⟨vs.take 1,[x]⟩).2&&decide ((AV path ⟨vs.take 1,[x]⟩).1.exts=[x])):=by
 unfold GQ Db
 by_cases h:(AV path ⟨vs.take 1,[x]⟩).2=true
 ·have hv:=Ajg h
  have e:decide ((AV path ⟨vs.take 1,[x]⟩).1=⟨vs.take 1,[x]⟩)=decide ((AV path ⟨vs.take 1,[x]⟩).1.exts=[x]):=by
   rw[decide_eq_decide]
   constructor
   ·intro h1;rw[h1]
   ·intro h1;exact AfM hv h1
  rw[e]
 ·simp[h]
theorem Aou (D:Dn) (hA:Fb (D Jz)) (hO:F4 (D RO)) (hH:FC (D RN)) (hP:E8 (D K8)) (hX:Ol (D Ud)):Ke (Body D O5):=by
 intro path vs l hb hv hl
 have hll:=hl.1
 simp -implicitDefEqProofs
 refine Aa (hA l hl) ?_
 by_cases h1:Eg l=true
 rotate_left
 ·simp -implicitDefEqProofs [h1,Ey]
 simp -implicitDefEqProofs [h1]
 refine Aa (hO path vs hb hv) ?_
 by_cases h2:isOpen path vs=true
 rotate_left
 ·simp -implicitDefEqProofs [h2,h1,Ey]
 have e:Ey path vs l=Ao (l.filter (GQ path vs)):=by unfold Ey;rw[h1,h2];rfl
 have hpos:=Anp h2
 have h1l:(1:Int)≤vs.length:=by omega
 have h1n:1≤vs.length:=by omega
 have hlen:(vs.take 1).length=1:=by simp;omega
 have hmin:min 1 vs.length=1:=by omega
 rw[e]
 simp -implicitDefEqProofs [h2]
 refine Ah (fun k s=>∃j o1 o2 o3 o4 o5 o6 o7 o8,j+k=l.length∧s=⟨[.sl 1 4 path.length (path.flatMap Ck),.sl 1 1 vs.length (ints vs),.sl 1 2 l.length (l.flatMap Bl),.undef,.arr 9,I j,.undef,.undef,.undef,.undef,.undef,.undef],[.free,o1,o2,o3,o4,o5,o6,o7,o8,.arr 1 0 (Ao ((l.take j).filter (GQ path vs))).length (ints (Ao ((l.take j).filter (GQ path vs))))]⟩) ?_ (l.length) _ ⟨0,.free,.free,.free,.free,.free,.free,.free,.free,by simp,by simp[Ao,ints]⟩
 intro k s ⟨j,o1,o2,o3,o4,o5,o6,o7,o8,hj,hs⟩
 subst hs
 by_cases hjn:j<l.length
 ·have hw:IntKind.i64.wrap ((j:Int)+1)=(j+1:Nat):=by rw[Ae (by omega) (by omega)];simp
  have hst:=Ae3 (p:=GQ path vs) hjn
  have hfl:=Ajt (p:=GQ path vs) (l:=l) (j:=j)
  have hb1:((Ao ((l.take j).filter (GQ path vs))).length+1)*8≤1099511627776:=by omega
  have hw1:IntKind.i64.wrap ((j:Int)+1)=(j:Int)+1:=Ae (by omega) (by omega)
  have hj1:j+1≤l.length:=by omega
  have hj2:(j:Int)+1≤l.length:=by omega
  have hjj:(j:Int)≤(j:Int)+1:=by omega
  have h11:j+1-j=1:=by omega
  simp -implicitDefEqProofs [hjn,h1l,h1n]
  have hh:=hH (vs.take 1) (by omega)
  rw[hlen]at hh
  refine Aa (hh) ?_
  have hdt:(l.drop j).take 1=[l[j]]:=by rw[List.drop_eq_getElem_cons hjn];rfl
  simp -implicitDefEqProofs [hmin,hw1,hj1,hj2,hjj,h11,hdt]
  have hhB:hB ⟨vs.take 1,[l[j]]⟩:=⟨by simp;omega,by simp,by intro x hx;simp at hx;subst hx;exact K5 hl hjn⟩
  have hp:=hP path ⟨vs.take 1,[l[j]]⟩ hb hhB
  have hr:=M4 (path:=path) hhB
  have hq:=AqY (path:=path) (vs:=vs) (x:=l[j])
  simp -implicitDefEqProofs [hmin,arg]at hp
  refine Aa (hp) ?_
  generalize AV path ⟨vs.take 1,[l[j]]⟩=r at hr hq
  by_cases g1:r.2=true
  rotate_left
  ·have h3:GQ path vs l[j]=true:=by rw[hq];simp[g1]
   rw[if_pos h3]at hst
   simp -implicitDefEqProofs [g1,hjn,hb1]
   exact⟨k-1,by omega,j+1,by omega,by simp[hw],by rw[hst];simp,by rw[hst]⟩
  simp -implicitDefEqProofs [g1]
  have hx:=hX r.1.exts [l[j]] hr.2 hhB.2
  simp -implicitDefEqProofs [arg]at hx
  refine Aa (hx) ?_
  by_cases g2:r.1.exts=[l[j]]
  ·have h3:¬GQ path vs l[j]=true:=by rw[hq];simp[g1,g2]
   rw[if_neg h3,List.append_nil]at hst
   simp -implicitDefEqProofs [g2]
   exact⟨k-1,by omega,j+1,by omega,by simp[hw],by rw[hst],by rw[hst]⟩
  ·have h3:GQ path vs l[j]=true:=by rw[hq];simp[g2]
   rw[if_pos h3]at hst
   simp -implicitDefEqProofs [g2,hjn,hb1]
   exact⟨k-1,by omega,j+1,by omega,by simp[hw],by rw[hst];simp,by rw[hst]⟩
 ·have e2:(l.take j).filter (GQ path vs)=l.filter (GQ path vs):=AbE (by omega)
  simp -implicitDefEqProofs [hjn,e2]
theorem Aoo (D:Dn) (hA:Fb (D Jl)) (hO:F4 (D Abo)) (hP:Ff (D Qh)):Ke (Body D OU):=by
 intro path vs l hb hv hl
 have hll:=hl.1
 simp -implicitDefEqProofs
 refine Aa (hO path vs hb hv) ?_
 by_cases h2:isOpen path vs=true
 rotate_left
 ·simp -implicitDefEqProofs [h2,Ey]
 simp -implicitDefEqProofs [h2]
 refine Aa (hA l hl) ?_
 by_cases h1:Eg l=true
 rotate_left
 ·simp -implicitDefEqProofs [h1,Ey]
 have e:Ey path vs l=Ao (l.filter (GQ path vs)):=by unfold Ey;rw[h1,h2];rfl
 have hpos:=Anp h2
 have h1l:(1:Int)≤vs.length:=by omega
 have h1n:1≤vs.length:=by omega
 have hlen:(vs.take 1).length=1:=by simp;omega
 have hmin:min 1 vs.length=1:=by omega
 rw[e]
 simp -implicitDefEqProofs [h1]
 refine Ah (fun k s=>∃j v5 o1 o2 o3 o4,j+k=l.length∧s=⟨[.sl 1 4 path.length (path.flatMap Ck),.sl 1 1 vs.length (ints vs),.undef,.undef,.arr 5,v5,.undef,.sl 1 2 l.length (l.flatMap Bl),I l.length,I j,.undef,.undef],[.free,o1,o2,o3,o4,.arr 1 0 (Ao ((l.take j).filter (GQ path vs))).length (ints (Ao ((l.take j).filter (GQ path vs))))]⟩) ?_ (l.length) _ ⟨0,.undef,.free,.free,.free,.free,by simp,by simp[Ao,ints]⟩
 intro k s ⟨j,v5,o1,o2,o3,o4,hj,hs⟩
 subst hs
 by_cases hjn:j<l.length
 ·have hw:IntKind.i64.wrap ((j:Int)+1)=(j+1:Nat):=by rw[Ae (by omega) (by omega)];simp
  have hst:=Ae3 (p:=GQ path vs) hjn
  have hfl:=Ajt (p:=GQ path vs) (l:=l) (j:=j)
  have hb1:((Ao ((l.take j).filter (GQ path vs))).length+1)*8≤1099511627776:=by omega
  have hhB:hB ⟨vs.take 1,[l[j]]⟩:=⟨by simp;omega,by simp,by intro x hx;simp at hx;subst hx;exact K5 hl hjn⟩
  simp -implicitDefEqProofs [hjn,h1l,h1n]
  have hp:=hP ⟨vs.take 1,[l[j]]⟩ path hhB hb
  have hq:GQ path vs l[j]= !Db ⟨vs.take 1,[l[j]]⟩ path:=rfl
  simp -implicitDefEqProofs [hmin,arg]at hp
  refine Aa (hp) ?_
  generalize Db ⟨vs.take 1,[l[j]]⟩ path=r at hq
  by_cases g1:r=true
  ·have h3:¬GQ path vs l[j]=true:=by rw[hq,g1];simp
   rw[if_neg h3,List.append_nil]at hst
   simp -implicitDefEqProofs [g1]
   exact⟨k-1,by omega,j+1,by omega,by simp[hw],by rw[hst],by rw[hst]⟩
  ·have h3:GQ path vs l[j]=true:=by rw[hq];simpa using g1
   rw[if_pos h3]at hst
   simp -implicitDefEqProofs [g1,hjn,hb1]
   exact⟨k-1,by omega,j+1,by omega,by simp[hw],by rw[hst];simp,by rw[hst]⟩
 ·have e2:(l.take j).filter (GQ path vs)=l.filter (GQ path vs):=AbE (by omega)
  simp -implicitDefEqProofs [hjn,e2]
end Go.Eng.T
namespace Go.Eng.T
set_option maxRecDepth 20000
set_option maxHeartbeats 1000000
theorem JQ (a b:List Int):(leftOf a b).length≤a.length:=List.length_filter_le _ _
def EG (h:Hello) (lv lt:List Int):Hello×Bool:=if Co h&& !decide (leftOf h.versions lv=[])then(⟨leftOf h.versions lv,kept (fun t=> !decide (t∈lt)) h.exts⟩,true)else(AL,false)
abbrev Ic (R:Rel):Prop:=∀(h:Hello) (lv lt:List Int),hB h→lv.length≤4194304→lt.length≤4194304→R [arg (Cv h),.sl 1 1 lv.length (ints lv),.sl 1 1 lt.length (ints lt)] [] (.tup [.agg (Cv (EG h lv lt).1),B (EG h lv lt).2]) []
theorem Akp (D:Dn) (hI:DL (D Fy)) (hH:Tk (D Kg)):Ic (Body D Oa):=by
 intro h lv lt hh hv ht
 have hvl:=hh.1
 have hxl:=hh.2.1
 simp -implicitDefEqProofs
 refine Aa (hI h hh) ?_
 by_cases h1:Co h=true
 rotate_left
 ·simp -implicitDefEqProofs [h1,EG,AL]
 have e1:leftOf h.versions lv=h.versions.filter (fun v=> !decide (v∈lv)):=rfl
 unfold EG
 rw[h1,e1]
 generalize hp:(fun v=> !decide (v∈lv))=p
 generalize hq:(fun t=> !decide (t∈lt))=q
 obtain⟨vs,hvs⟩:∃vs,vs=h.versions.filter p:=⟨_,rfl⟩
 rw[←hvs]
 simp -implicitDefEqProofs [h1]
 refine Ah (fun k s=>∃j o3 o4,j+k=h.versions.length∧s=⟨[.undef,.sl 1 1 lv.length (ints lv),.sl 1 1 lt.length (ints lt),.ptr 0 0,.ptr 1 0,.undef,.ptr 2 0,I j,.undef,.undef,.undef,.undef,.undef,.undef,.undef],[.var ((Cv h).map (Be 1)),.var [.nil 1,.nil 2],.var [.arr 9,.arr 10],o3,o4,.free,.free,.free,.free,.arr 1 0 ((h.versions.take j).filter p).length (ints ((h.versions.take j).filter p)),.arr 2 0 0 []]⟩) ?_ (h.versions.length) _ ⟨0,.free,.free,by simp,by simp⟩
 intro k s ⟨j,o3,o4,hj,hs⟩
 subst hs
 by_cases hjn:j<h.versions.length
 ·have hw:IntKind.i64.wrap ((j:Int)+1)=(j+1:Nat):=by rw[Ae (by omega) (by omega)];simp
  have hst:=Ka (p:=p) hjn
  have hfl:=Ng (p:=p) (xs:=h.versions) (j:=j)
  have hb1:(((h.versions.take j).filter p).length+1)*8≤1099511627776:=by omega
  have hpv:p h.versions[j]= !decide (h.versions[j]∈lv):=by rw[←hp]
  simp -implicitDefEqProofs [hjn]
  refine Aa (hH lv h.versions[j] (by unfold maxLen;omega)) ?_
  by_cases h2:h.versions[j]∈lv
  ·have h3:¬p h.versions[j]=true:=by rw[hpv];simpa using h2
   rw[if_neg h3,List.append_nil]at hst
   simp -implicitDefEqProofs [h2]
   exact⟨k-1,by omega,j+1,by omega,by simp[hw],by rw[hst],by rw[hst]⟩
  ·have h3:p h.versions[j]=true:=by rw[hpv];simpa using h2
   rw[if_pos h3]at hst
   simp -implicitDefEqProofs [h2,hjn,hb1]
   exact⟨k-1,by omega,j+1,by omega,by simp[hw],by rw[hst];simp,by rw[hst]⟩
 have e2:=Ky (p:=p) (xs:=h.versions) (j:=j) (by omega)
 rw[←hvs]at e2
 simp -implicitDefEqProofs [hjn,e2]
 refine Ah (fun k s=>∃j o3 o4 o5 o6 o7 o8,j+k=h.exts.length∧s=⟨[.undef,.undef,.sl 1 1 lt.length (ints lt),.ptr 0 0,.ptr 1 0,.undef,.ptr 2 0,.undef,I j,.undef,.undef,.undef,.undef,.undef,.undef],[.var ((Cv h).map (Be 1)),.var [.nil 1,.nil 2],.var [.arr 9,.arr 10],o3,o4,o5,o6,o7,o8,.arr 1 0 vs.length (ints vs),.arr 2 0 (kept q (h.exts.take j)).length ((kept q (h.exts.take j)).flatMap Bl)]⟩) ?_ (h.exts.length) _ ⟨0,o3,o4,.free,.free,.free,.free,by simp,by simp[kept]⟩
 intro k s ⟨j,o3,o4,o5,o6,o7,o8,hj,hs⟩
 subst hs
 by_cases hjn:j<h.exts.length
 ·have hw:IntKind.i64.wrap ((j:Int)+1)=(j+1:Nat):=by rw[Ae (by omega) (by omega)];simp
  have hb:=K5 hh.2 hjn
  have hb1:h.exts[j].body.length*8≤1099511627776:=by omega
  have hkl:=RP (p:=q) (l:=h.exts) (j:=j)
  have hb2:((kept q (h.exts.take j)).length+1)*32≤1099511627776:=by omega
  have hpv:q h.exts[j].tag= !decide (h.exts[j].tag∈lt):=by rw[←hq]
  simp -implicitDefEqProofs [hjn]
  refine Aa (hH lt h.exts[j].tag (by unfold maxLen;omega)) ?_
  by_cases h2:h.exts[j].tag∈lt
  ·have h3:¬q h.exts[j].tag=true:=by rw[hpv];simpa using h2
   have hst:=VP (p:=q) hjn
   rw[if_neg h3,List.append_nil]at hst
   simp -implicitDefEqProofs [h2]
   exact⟨k-1,by omega,j+1,by omega,by simp[hw],by rw[hst],by rw[hst]⟩
  ·have h3:q h.exts[j].tag=true:=by rw[hpv];simpa using h2
   have hst:=OM hjn h3
   have hsl:=He hjn h3
   simp -implicitDefEqProofs [h2,hjn,hb1,hb2]
   exact⟨k-1,by omega,j+1,by omega,by simp[hw],by rw[←hsl],by rw[←hst]⟩
 have e3:=Rz (p:=q) (l:=h.exts) (j:=j) (by omega)
 by_cases g:vs=[]
 ·simp -implicitDefEqProofs [hjn,e3,g,AL]
 ·have g':¬(vs.length:Int)=0:=by
   intro h0
   exact g (List.eq_nil_of_length_eq_zero (by omega))
  simp -implicitDefEqProofs [hjn,e3,g',g]
abbrev Qq (R:Rel):Prop:=∀(t:Int) (tags:List Int),tags.length≤maxLen→R [I t,.rptr 1 [.sl 0 1 tags.length (ints tags)] 0] [] (B (!decide (t∈tags))) []
theorem Al6 (D:Dn) (hH:Tk (D BB)):Qq (Body D KT):=by
 intro t tags hl
 simp -implicitDefEqProofs
 refine Aa (hH tags t hl) ?_
 simp -implicitDefEqProofs
theorem AlG (D:Dn) (hI:DL (D Gc)) (hL:Ub (D MN)) (h1:Qq (D Qt)) (hK:J8 D (D Hz)):Ic (Body D Nt):=by
 intro h lv lt hh hv ht
 simp -implicitDefEqProofs
 refine Aa (hL h.versions lv hh.1 hv) ?_
 have hll:=JQ h.versions lv
 unfold EG
 generalize leftOf h.versions lv=vs at hll
 simp -implicitDefEqProofs
 refine Aa (hI h hh) ?_
 by_cases g1:Co h=true
 rotate_left
 ·simp -implicitDefEqProofs [g1,AL]
 by_cases g:vs=[]
 ·simp -implicitDefEqProofs [g1,g,AL]
 have g':¬(vs.length:Int)=0:=by
  intro h0
  exact g (List.eq_nil_of_length_eq_zero (by omega))
 simp -implicitDefEqProofs [g1,g',g]
 refine Aa (hK h.exts Qt _ (fun t=> !decide (t∈lt)) hh.2 (Af2 FY) (XY OI) (fun t=>h1 t lt (by unfold maxLen;omega))) ?_
 simp -implicitDefEqProofs
def fallback (h:Hello) (path:List Fx):Hello×Bool:=EG h (Bd path h.versions) (Ey path (leftOf h.versions (Bd path h.versions)) h.exts)
abbrev Kq (R:Rel):Prop:=∀(h:Hello) (path:List Fx),hB h→lnS GY path→R [arg (Cv h),.sl 1 4 path.length (path.flatMap Ck)] [] (.tup [.agg (Cv (fallback h path).1),B (fallback h path).2]) []
theorem Zc (path:List Fx) (vs:List Int) (l:List Ext):(Ey path vs l).length≤l.length:=by
 unfold Ey Ao
 split
 ·rw[List.length_map];exact List.length_filter_le _ _
 ·simp
theorem Aop (D:Dn) (hI:DL (D Fy)) (hLV:FH (D Yw)) (hL:Ub (D Xc)) (hT:Ke (D Afq)) (hP:Ic (D AdX)):Kq (Body D Jg):=by
 intro h path hh hb
 simp -implicitDefEqProofs
 refine Aa (hI h hh) ?_
 by_cases g1:Co h=true
 rotate_left
 ·have e:fallback h path=(AL,false):=by unfold fallback EG;simp[g1]
  simp -implicitDefEqProofs [g1,e,AL]
 have hvl:=hh.1
 have hxl:=hh.2.1
 simp -implicitDefEqProofs [g1]
 refine Aa (hLV path h.versions hb hh.1) ?_
 have hll:=Anx path h.versions
 have e:fallback h path=EG h (Bd path h.versions) (Ey path (leftOf h.versions (Bd path h.versions)) h.exts):=rfl
 rw[e]
 generalize Bd path h.versions=lv at hll
 simp -implicitDefEqProofs
 refine Aa (hL h.versions lv hh.1 (by omega)) ?_
 have hl2:=JQ h.versions lv
 generalize leftOf h.versions lv=vs at hl2
 simp -implicitDefEqProofs
 refine Aa (hT path vs h.exts hb (by omega) hh.2) ?_
 have hl3:=Zc path vs h.exts
 generalize Ey path vs h.exts=lt at hl3
 simp -implicitDefEqProofs
 refine Aa (hP h lv lt hh (by omega) (by omega)) ?_
 generalize EG h lv lt=r
 simp -implicitDefEqProofs
theorem An4 (D:Dn) (hLV:FH (D Yz)) (hL:Ub (D MN)) (hT:Ke (D Ahr)) (hP:Ic (D Aer)):Kq (Body D I6):=by
 intro h path hh hb
 have hvl:=hh.1
 have hxl:=hh.2.1
 simp -implicitDefEqProofs [hvl]
 refine Aa (hLV path h.versions hb hh.1) ?_
 have hll:=Anx path h.versions
 have e:fallback h path=EG h (Bd path h.versions) (Ey path (leftOf h.versions (Bd path h.versions)) h.exts):=rfl
 rw[e]
 generalize Bd path h.versions=lv at hll
 simp -implicitDefEqProofs
 refine Aa (hL h.versions lv hh.1 (by omega)) ?_
 have hl2:=JQ h.versions lv
 generalize leftOf h.versions lv=vs at hl2
 simp -implicitDefEqProofs
 refine Aa (hT path vs h.exts hb (by omega) hh.2) ?_
 have hl3:=Zc path vs h.exts
 generalize Ey path vs h.exts=lt at hl3
 simp -implicitDefEqProofs
 refine Aa (hP h lv lt hh (by omega) (by omega)) ?_
 generalize EG h lv lt=r
 simp -implicitDefEqProofs
theorem Az3 {h:Hello} {lv lt:List Int} (hh:hB h):hB (EG h lv lt).1:=by
 unfold EG
 split
 ·exact⟨Nat.le_trans (JQ _ _) hh.1,Sb hh.2 (fun t=> !decide (t∈lt))⟩
 ·exact AgS
theorem AkV {h:Hello} {path:List Fx} (hh:hB h):hB (fallback h path).1:=Az3 hh
def Cb (h:Hello) (path:List Fx):Hello×Int×Bool:=
 if Co h=true then(if Db h path=true then(h,1,true)else if(fallback h path).2&&Db (fallback h path).1 path then((fallback h path).1,2,true)else(AL,2,false))else(AL,0,false)
abbrev Kl (R:Rel):Prop:=∀(h:Hello) (path:List Fx),hB h→lnS GY path→R [arg (Cv h),.sl 1 4 path.length (path.flatMap Ck)] [] (.tup [.agg (Cv (Cb h path).1),I (Cb h path).2.1,B (Cb h path).2.2]) []
theorem Anv (D:Dn) (hI:DL (D Fy)) (hW:Ff (D ZM)) (hC:JC (D UZ)) (hF:Kq (D WB)):Kl (Body D PO):=by
 intro h path hh hb
 simp -implicitDefEqProofs
 refine Aa (hI h hh) ?_
 by_cases g1:Co h=true
 rotate_left
 ·simp -implicitDefEqProofs [g1,Cb,AL]
 simp -implicitDefEqProofs [g1]
 refine Aa (hW h path hh hb) ?_
 by_cases g2:Db h path=true
 ·simp -implicitDefEqProofs [g2]
  refine Aa (hC h hh) ?_
  simp -implicitDefEqProofs [Cb,g1,g2]
 simp -implicitDefEqProofs [g2]
 refine Aa (hF h path hh hb) ?_
 have hr:=AkV (path:=path) hh
 have e:Cb h path=(if(fallback h path).2&&Db (fallback h path).1 path then((fallback h path).1,2,true)else(AL,2,false)):=by unfold Cb;rw[if_pos g1,if_neg g2]
 rw[e]
 generalize fallback h path=r at hr
 by_cases g3:r.2=true
 rotate_left
 ·simp -implicitDefEqProofs [g3,AL]
 simp -implicitDefEqProofs [g3]
 refine Aa (hW r.1 path hr hb) ?_
 by_cases g4:Db r.1 path=true
 ·simp -implicitDefEqProofs [g3,g4]
 ·simp -implicitDefEqProofs [g3,g4,AL]
theorem AmP (D:Dn) (hI:DL (D Gc)) (hW:Ff (D Qh)) (hC:JC (D Uf)) (hF:Kq (D WJ)):Kl (Body D Py):=by
 intro h path hh hb
 simp -implicitDefEqProofs
 refine Aa (hI h hh) ?_
 by_cases g1:Co h=true
 rotate_left
 ·simp -implicitDefEqProofs [g1,Cb,AL]
 simp -implicitDefEqProofs [g1]
 refine Aa (hW h path hh hb) ?_
 by_cases g2:Db h path=true
 ·simp -implicitDefEqProofs [g2]
  refine Aa (hC h hh) ?_
  simp -implicitDefEqProofs [Cb,g1,g2]
 simp -implicitDefEqProofs [g2]
 refine Aa (hF h path hh hb) ?_
 have hr:=AkV (path:=path) hh
 have e:Cb h path=(if(fallback h path).2&&Db (fallback h path).1 path then((fallback h path).1,2,true)else(AL,2,false)):=by unfold Cb;rw[if_pos g1,if_neg g2]
 rw[e]
 generalize fallback h path=r at hr
 by_cases g3:r.2=true
 rotate_left
 ·simp -implicitDefEqProofs [g3,AL]
 simp -implicitDefEqProofs [g3]
 refine Aa (hW r.1 path hr hb) ?_
 by_cases g4:Db r.1 path=true
 ·simp -implicitDefEqProofs [g3,g4]
 ·simp -implicitDefEqProofs [g3,g4,AL]
theorem Arn {h:Hello} {path:List Fx} (hh:hB h):hB (Cb h path).1:=by
 unfold Cb
 split
 ·split
  ·exact hh
  ·split
   ·exact AkV hh
   ·exact AgS
 ·exact AgS
end Go.Eng.T
namespace Go.Eng.T
set_option maxRecDepth 20000
set_option maxHeartbeats 2000000
open Go.Lib (compact compactUpTo keeps)
abbrev Up (l:List Int):Prop:=l.Pairwise (· < ·)
theorem AAY:∀ {a b:List Int},Up a→Up b→(∀x,x∈a↔x∈b)→a=b
 | [],[],_,_,_=>rfl
 | [],y::b,_,_,h=>by have:=(h y).2 (by simp);simp at this
 | x::a,[],_,_,h=>by have:=(h x).1 (by simp);simp at this
 | x::a,y::b,ha,hb,h=>by
  rw[Up,List.pairwise_cons]at ha hb
  have hxy:x=y:=by
   have h1:=(h x).1 (by simp)
   have h2:=(h y).2 (by simp)
   rcases List.mem_cons.1 h1 with e | h1
   ·exact e
   ·rcases List.mem_cons.1 h2 with e | h2
    ·exact e.symm
    ·have:=hb.1 x h1;have:=ha.1 y h2;omega
  subst hxy
  congr 1
  refine AAY ha.2 hb.2 fun z=>⟨fun hz=> ?_,fun hz=> ?_⟩
  ·rcases List.mem_cons.1 ((h z).1 (by simp[hz]))with e | h1
   ·subst e;have:=ha.1 z hz;omega
   ·exact h1
  ·rcases List.mem_cons.1 ((h z).2 (by simp[hz]))with e | h1
   ·subst e;have:=hb.1 z hz;omega
   ·exact h1
theorem AwH:∀(l:List Int) (v x:Int),x∈Ajn l v↔x∈l∨x=v:=by
 intro l v x
 unfold Ajn
 split
 ·rename_i h
  constructor
  ·exact .inl
  ·rintro (h1 | rfl)
   ·exact h1
   ·exact List.mem_of_getElem? h
 ·unfold Awz
  rw[List.mem_append,List.mem_cons]
  have:x∈l↔x∈l.take (I7 l v)∨x∈l.drop (I7 l v):=by
   conv=>lhs;rw[←List.take_append_drop (I7 l v) l,List.mem_append]
  rw[this]
  constructor
  ·rintro (h1 | h1 | h1)
   ·exact .inl (.inl h1)
   ·exact .inr h1
   ·exact .inl (.inr h1)
  ·rintro ((h1 | h1) | h1)
   ·exact .inl h1
   ·exact .inr (.inr h1)
   ·exact .inr (.inl h1)
theorem Acz:∀(l:List Int) (v x:Int),x∈l.take (I7 l v)→x<v
 | [],v,x,h=>by simp at h
 | y::r,v,x,h=>by
  simp only[I7]at h
  split at h
  ·rw[List.take_succ_cons]at h
   rcases List.mem_cons.1 h with rfl | h
   ·assumption
   ·exact Acz r v x h
  ·simp at h
theorem Azg:∀ {l:List Int} (v:Int),Up l→Up (Ajn l v):=by
 intro l v hl
 unfold Ajn
 split
 ·exact hl
 ·rename_i hne
  unfold Awz Up
  rw[List.pairwise_append,List.pairwise_cons]
  have hb:=Acz l v
  have hafter:∀y,y∈l.drop (I7 l v)→v<y:=by
   intro y hy
   by_cases hk:I7 l v<l.length
   ·have hs:=Asq (l:=l) (v:=v) hk (by
     intro hlt
     have key:∀(l:List Int) (h:I7 l v<l.length),¬l[I7 l v]<v:=by
      intro l
      induction l with
      | nil=>intro h;simp at h
      | cons x r ih=>
       intro h
       by_cases hx:x<v
       ·have e:I7 (x::r) v=I7 r v+1:=by simp[I7,hx]
        have h':I7 r v<r.length:=by rw[e]at h;simpa using h
        have:=ih h'
        simp only[e,List.getElem_cons_succ]
        exact this
       ·have e:I7 (x::r) v=0:=by simp[I7,hx]
        simp only[e,List.getElem_cons_zero]
        exact hx
     exact key l hk hlt)
    have key:∀(l:List Int) (h:I7 l v<l.length),¬l[I7 l v]<v:=by
     intro l
     induction l with
     | nil=>intro h;simp at h
     | cons x r ih=>
      intro h
      by_cases hx:x<v
      ·have e:I7 (x::r) v=I7 r v+1:=by simp[I7,hx]
       have h':I7 r v<r.length:=by rw[e]at h;simpa using h
       have:=ih h'
       simp only[e,List.getElem_cons_succ]
       exact this
      ·have e:I7 (x::r) v=0:=by simp[I7,hx]
       simp only[e,List.getElem_cons_zero]
       exact hx
    have h1:=key l hk
    have h2:l[I7 l v]≠v:=by
     intro e;apply hne;rw[List.getElem?_eq_getElem hk,e]
    rw[List.drop_eq_getElem_cons hk]at hy
    have hp:(l[I7 l v]::l.drop (I7 l v+1)).Pairwise (· < ·):=by rw[←List.drop_eq_getElem_cons hk];exact hl.drop
    rw[List.pairwise_cons]at hp
    rcases List.mem_cons.1 hy with rfl | hy
    ·omega
    ·have:=hp.1 y hy;omega
   ·rw[List.drop_eq_nil_of_le (by omega)]at hy;simp at hy
  refine⟨hl.take,⟨hafter,hl.drop⟩,fun a ha b hb'=> ?_⟩
  have h1:=hb a ha
  rcases List.mem_cons.1 hb' with rfl | hb'
  ·exact h1
  ·have:=hafter b hb';omega
def Yb (l:List Int) (xs:List Int):List Int:=xs.foldl Ajn l
theorem AtV:∀ {xs l:List Int},Up l→Up (Yb l xs)
 | [],_,h=>h
 | x::xs,l,h=>AtV (xs:=xs) (Azg x h)
theorem Apv:∀(xs l:List Int) (x:Int),x∈Yb l xs↔x∈l∨x∈xs
 | [],l,x=>by simp[Yb]
 | y::xs,l,x=>by
  have:=Apv xs (Ajn l y) x
  unfold Yb at *
  rw[List.foldl_cons,this,AwH,List.mem_cons]
  constructor
  ·rintro ((h | h) | h)
   ·exact .inl h
   ·exact .inr (.inl h)
   ·exact .inr (.inr h)
  ·rintro (h | h | h)
   ·exact .inl (.inl h)
   ·exact .inl (.inr h)
   ·exact .inr h
theorem Apz:∀(xs l:List Int),(Yb l xs).length≤l.length+xs.length
 | [],l=>by simp[Yb]
 | x::xs,l=>by
  have h1:=Apz xs (Ajn l x)
  have h2:=AvP l x
  unfold Yb at *
  simp only[List.foldl_cons,List.length_cons]
  omega
def ABJ (r:Fj) (i:Nat):Fj:=⟨r.version,r.stages,i,r.off⟩
def AAT (r:Fj) (n:Int):Nat→Int
 | 0=>0
 | k+1=>max (AAT r n k) (countIn (ABJ r k) n)
end Go.Eng.T
namespace Go.Eng.T
set_option maxRecDepth 20000
end Go.Eng.T
namespace Go.Eng.T
set_option maxRecDepth 20000
set_option maxHeartbeats 2000000
theorem up9:∀ {l:List Int} {a:Int},Up l→(∀x,x∈l→a<x∧x≤9)→(l.length:Int)≤9-a∨l=[]
 | [],_,_,_=> .inr rfl
 | x::r,a,h,hb=>by
  rw[Up,List.pairwise_cons]at h
  have h0:=hb x (by simp)
  have:=up9 (l:=r) (a:=x) h.2 (fun y hy=>⟨h.1 y hy,(hb y (by simp[hy])).2⟩)
  left
  rcases this with h1 | rfl
  ·simp only[List.length_cons];omega
  ·simp;omega
theorem AmW {l:List Int} (h:Bc l=true):l.length≤9:=by
 have:=up9 (l:=l) (a:=0) (Ajp h) (fun x hx=>by have:=ArS h x hx;exact⟨by omega,by omega⟩)
 rcases this with h1 | rfl
 ·omega
 ·simp
end Go.Eng.T
namespace Go.Eng.T
set_option maxRecDepth 20000
set_option maxHeartbeats 1000000
theorem Axe {D:Dn} {c:Cf} {a:SC} {Q:Out→St→Prop} {s:St} (h:swp D c a (fun o s'=>match o with | .normal=>False | o=>Q o s') s):swp D c (.loop a) Q s:=⟨1,h⟩
def inB (t:Int):Bool:=decide (InR t 0 255)
def AcN (b:List Int) (t:Int):Bool:= !decide (t∈b)&&inB t
def TF (h x:Hello):List Int:=leftOf h.versions x.versions++((Ao h.exts).filter (AcN (Ao x.exts))).map (fun t=>1000+t)
theorem As6 (a b:List Int):(leftOf a b).filter inB=a.filter (AcN b):=by
 unfold leftOf
 rw[List.filter_filter]
 congr 1
 funext t
 unfold AcN
 cases inB t<;>cases decide (t∈b)<;>rfl
abbrev MR (R:Rel):Prop:=∀h x:Hello,hB h→hB x→R [arg (Cv h),arg (Cv x)] [] (.sl 0 1 (TF h x).length (ints (TF h x))) []
theorem Aj4 {p:Int→Bool} {a l:List Int} {j:Nat} (h:j<l.length):
 a++((l.take (j+1)).filter p).map (fun t=>1000+t)=(a++((l.take j).filter p).map (fun t=>1000+t))++(if p l[j]then [1000+l[j]]else []):=by
 rw[Ka h,List.map_append,List.append_assoc]
 split<;>simp
theorem AmN {p:Int→Bool} {a l:List Int} {j:Nat}:(a++((l.take j).filter p).map (fun t=>1000+t)).length≤a.length+j:=by
 have:=Ng (p:=p) (xs:=l) (j:=j)
 simp only[List.length_append,List.length_map];omega
theorem Ap6 (D:Dn) (hL:Ub (D Xc)) (hX:NN (D Qm)) (hI:WS (D EA)):MR (Body D Rb):=by
 intro h x hh hx
 have hxl:=hx.2.1
 have hhl:=hh.2.1
 have hvl:=hh.1
 simp -implicitDefEqProofs
 refine Aa (hL h.versions x.versions hh.1 hx.1) ?_
 have hal:=JQ h.versions x.versions
 have e:TF h x=leftOf h.versions x.versions++((Ao h.exts).filter (AcN (Ao x.exts))).map (fun t=>1000+t):=rfl
 rw[e]
 have hpd:∀t,AcN (Ao x.exts) t=(!decide (t∈Ao x.exts)&&inB t):=fun t=>rfl
 generalize leftOf h.versions x.versions=a at hal
 generalize AcN (Ao x.exts)=p at hpd
 have htl:(Ao h.exts).length=h.exts.length:=KC _
 have hte:∀j (hj:j<h.exts.length),(Ao h.exts)[j]'(by omega)=h.exts[j].tag:=fun j hj=>by simp[Ao]
 obtain⟨l,hl⟩:∃l,l=Ao h.exts:=⟨_,rfl⟩
 rw[←hl]at htl⊢
 simp -implicitDefEqProofs
 refine Ah (fun k s=>∃j o3 o4,j+k=h.exts.length∧s=⟨[.undef,.undef,.ptr 0 0,.ptr 1 0,.undef,.arr 5,I j,.undef,.undef],[.var ((Cv h).map (Be 1)),.var ((Cv x).map (Be 1)),.free,o3,o4,.arr 1 0 (a++((l.take j).filter p).map (fun t=>1000+t)).length (ints (a++((l.take j).filter p).map (fun t=>1000+t)))]⟩) ?_ (h.exts.length) _ ⟨0,.free,.free,by simp,by simp⟩
 intro k s ⟨j,o3,o4,hj,hs⟩
 subst hs
 by_cases hjn:j<h.exts.length
 ·have hw:IntKind.i64.wrap ((j:Int)+1)=(j+1:Nat):=by rw[Ae (by omega) (by omega)];simp
  have hjl:j<l.length:=by omega
  have hlt:l[j]=h.exts[j].tag:=by subst hl;exact hte j hjn
  have hst:=Aj4 (p:=p) (a:=a) hjl
  have hfl:=AmN (p:=p) (a:=a) (l:=l) (j:=j)
  have hb1:((a++((l.take j).filter p).map (fun t=>1000+t)).length+1)*8≤1099511627776:=by omega
  have hpt:=hpd l[j]
  rw[hlt]at hst hpt
  generalize a++((l.take j).filter p).map (fun t=>1000+t)=r at hst hfl hb1
  simp -implicitDefEqProofs [hjn]
  refine Aa (hX x.exts h.exts[j].tag (by unfold maxLen;omega)) ?_
  by_cases h1:h.exts[j].tag∈Ao x.exts
  ·have h3:¬p h.exts[j].tag=true:=by rw[hpt];simp[h1]
   have h1':¬HV x.exts h.exts[j].tag<0:=by rw[Ki];simpa using h1
   rw[if_neg h3,List.append_nil]at hst
   simp -implicitDefEqProofs [h1']
   have hsl:=congrArg List.length hst
   simp only[List.length_append,List.length_map]at hsl
   exact⟨k-1,by omega,j+1,by omega,by simp[hw],by omega,by rw[hst]⟩
  have h1':HV x.exts h.exts[j].tag<0:=by rw[Ki];exact h1
  simp -implicitDefEqProofs [h1',hjn]
  refine Aa (hI _ _ _) ?_
  by_cases h2:InR h.exts[j].tag 0 255
  ·have h3:p h.exts[j].tag=true:=by rw[hpt];simp[h1,inB,h2]
   rw[if_pos h3]at hst
   have hw2:IntKind.i64.wrap (1000+h.exts[j].tag)=1000+h.exts[j].tag:=Ae (by have:=h2.1;omega) (by have:=h2.2;omega)
   simp -implicitDefEqProofs [h2,hjn,hb1,hw2]
   have hsl:=congrArg List.length hst
   simp only[List.length_append,List.length_map,List.length_cons,List.length_nil]at hsl
   exact⟨k-1,by omega,j+1,by omega,by simp[hw],by omega,by rw[hst]⟩
  ·have h3:¬p h.exts[j].tag=true:=by rw[hpt];simp[h1,inB,h2]
   rw[if_neg h3,List.append_nil]at hst
   simp -implicitDefEqProofs [h2]
   have hsl:=congrArg List.length hst
   simp only[List.length_append,List.length_map]at hsl
   exact⟨k-1,by omega,j+1,by omega,by simp[hw],by omega,by rw[hst]⟩
 ·have e2:=Ky (p:=p) (xs:=l) (j:=j) (by omega)
  simp -implicitDefEqProofs [hjn,e2]
theorem Aqv (D:Dn) (hL:Ub (D MN)) (hT:JE (D OD)) (hI:WS (D CP)):MR (Body D QL):=by
 intro h x hh hx
 have hxl:=hx.2.1
 have hhl:=hh.2.1
 have hvl:=hh.1
 simp -implicitDefEqProofs
 refine Aa (hL h.versions x.versions hh.1 hx.1) ?_
 have hal:=JQ h.versions x.versions
 have e:TF h x=leftOf h.versions x.versions++((Ao h.exts).filter (AcN (Ao x.exts))).map (fun t=>1000+t):=rfl
 rw[e,←As6]
 generalize leftOf h.versions x.versions=a at hal
 simp -implicitDefEqProofs
 refine Aa (hT h.exts hh.2.1) ?_
 simp -implicitDefEqProofs
 refine Aa (hT x.exts hx.2.1) ?_
 simp -implicitDefEqProofs
 refine Aa (hL (Ao h.exts) (Ao x.exts) (by rw[KC];omega) (by rw[KC];omega)) ?_
 have hll:=JQ (Ao h.exts) (Ao x.exts)
 rw[KC]at hll
 generalize leftOf (Ao h.exts) (Ao x.exts)=l at hll
 generalize hpd:inB=p
 simp -implicitDefEqProofs
 refine Ah (fun k s=>∃j v6 o6 o7,j+k=l.length∧s=⟨[.undef,.undef,.undef,.undef,.undef,.arr 8,v6,.arr 5,I l.length,I j,.undef,.undef],[.var ((Cv h).map (Be 1)),.var ((Cv x).map (Be 1)),.free,.arr 1 0 (Ao h.exts).length (ints (Ao h.exts)),.arr 1 0 (Ao x.exts).length (ints (Ao x.exts)),.arr 1 0 l.length (ints l),o6,o7,.arr 1 0 (a++((l.take j).filter p).map (fun t=>1000+t)).length (ints (a++((l.take j).filter p).map (fun t=>1000+t)))]⟩) ?_ (l.length) _ ⟨0,.undef,.free,.free,by simp,by simp⟩
 intro k s ⟨j,v6,o6,o7,hj,hs⟩
 subst hs
 by_cases hjn:j<l.length
 ·have hw:IntKind.i64.wrap ((j:Int)+1)=(j+1:Nat):=by rw[Ae (by omega) (by omega)];simp
  have hst:=Aj4 (p:=p) (a:=a) hjn
  have hfl:=AmN (p:=p) (a:=a) (l:=l) (j:=j)
  have hb1:((a++((l.take j).filter p).map (fun t=>1000+t)).length+1)*8≤1099511627776:=by omega
  have hpt:p l[j]=inB l[j]:=by rw[hpd]
  generalize a++((l.take j).filter p).map (fun t=>1000+t)=r at hst hfl hb1
  simp -implicitDefEqProofs [hjn]
  refine Aa (hI _ _ _) ?_
  by_cases h2:InR l[j] 0 255
  ·have h3:p l[j]=true:=by rw[hpt];simp[inB,h2]
   rw[if_pos h3]at hst
   have hw2:IntKind.i64.wrap (1000+l[j])=1000+l[j]:=Ae (by have:=h2.1;omega) (by have:=h2.2;omega)
   simp -implicitDefEqProofs [h2,hjn,hb1,hw2]
   have hsl:=congrArg List.length hst
   simp only[List.length_append,List.length_map,List.length_cons,List.length_nil]at hsl
   exact⟨k-1,by omega,j+1,by omega,by simp[hw],by omega,by rw[hst]⟩
  ·have h3:¬p l[j]=true:=by rw[hpt];simp[inB,h2]
   rw[if_neg h3,List.append_nil]at hst
   simp -implicitDefEqProofs [h2]
   have hsl:=congrArg List.length hst
   simp only[List.length_append,List.length_map]at hsl
   exact⟨k-1,by omega,j+1,by omega,by simp[hw],by omega,by rw[hst]⟩
 ·have e2:=Ky (p:=p) (xs:=l) (j:=j) (by omega)
  simp -implicitDefEqProofs [hjn,e2]
def Fe:Uy:=⟨false,0,[]⟩
def AbM (h seen:Hello) (vs tags:List Int) (key:Int):Uy:=
 if(Ba vs tags seen).2&&(Ea h (Ba vs tags seen).1&&(!decide (CZ key [AX h,Ay (Ba vs tags seen).1] 1=0)&&
  decide (CZ key [AX h,Ay (Ba vs tags seen).1] 1=CZ key [AX seen,Ay (Ba vs tags seen).1] 1)))
 then⟨true,(Ba vs tags seen).1.version,Ao (Ba vs tags seen).1.exts⟩else Fe
theorem Ang (h:Hello):(AX h).length≤47:=by
 unfold AX
 have:=Kr h.exts
 split
 ·rename_i hc
  have:=AmW (AtA hc)
  simp only[List.length_append,List.length_cons];omega
 ·simp
theorem AlC (h:Hello) (a:P9):KI [AX h,Ay a]≤4194304:=by
 have h1:=Ang h
 have h2:=Adr a
 simp[KI,Bq]
 omega
theorem Ahm {vs tags:List Int} {h:Hello} (hh:hB h):Rf (Ba vs tags h).1.exts:=by
 unfold Ba
 split
 ·exact Sb (Sb hh.2 (fun t=>decide (t∈tags))) (fun t=> !Av t)
 ·exact Zi
def RB (h:Hello) (path:List Fx) (vs tags:List Int) (key:Int):Uy:=if(AV path h).2=true then AbM h (AV path h).1 vs tags key else Fe
abbrev Ko (R:Rel):Prop:=∀(h:Hello) (path:List Fx) (vs tags:List Int) (key:Int),hB h→lnS GY path→vs.length≤4194304→tags.length≤4194304→
 R [arg (Cv h),.sl 1 4 path.length (path.flatMap Ck),.sl 1 1 vs.length (ints vs),.sl 1 1 tags.length (ints tags),I key] [] (.agg (Ue (RB h path vs tags key))) []
theorem AoO (D:Dn) (hP:E8 (D K8)) (hC:Qf (D XW)) (hFi:Ih (D AdH)) (hHB:Gz (D AbV)) (hAB:F8 (D ZQ))
 (hF:OG (D AfB)) (hT:JE (D AaD)):Ko (Body D Ps):=by
 intro h path vs tags key hh hb hv ht
 simp -implicitDefEqProofs
 refine Aa (hP path h hb hh) ?_
 have hr:=M4 (path:=path) hh
 unfold RB
 generalize AV path h=r at hr
 by_cases g1:r.2=true
 rotate_left
 ·simp -implicitDefEqProofs [g1,Fe]
 obtain⟨seen,ok⟩:=r
 obtain rfl:ok=true:=g1
 dsimp only at hr⊢
 simp -implicitDefEqProofs
 refine Aa (hC vs tags seen hv ht hr) ?_
 have ha:=Ahm (vs:=vs) (tags:=tags) hr
 unfold AbM
 generalize Ba vs tags seen=q at ha
 obtain⟨a,fine⟩:=q
 dsimp only at ha⊢
 by_cases g2:fine=true
 rotate_left
 ·simp -implicitDefEqProofs [g2,Fe]
 simp -implicitDefEqProofs [g2]
 refine Aa (hFi h a hh ha) ?_
 by_cases g3:Ea h a=true
 rotate_left
 ·simp -implicitDefEqProofs [g3,Fe]
 simp -implicitDefEqProofs [g3]
 refine Aa (hHB h hh) ?_
 simp -implicitDefEqProofs
 refine Aa (hAB a ha) ?_
 simp -implicitDefEqProofs
 have hf:=hF key [AX h,Ay a] 1 (AlC h a)
 simp -implicitDefEqProofs [Kh,Pp]at hf
 refine Aa (hf) ?_
 generalize CZ key [AX h,Ay a] 1=m
 by_cases g4:m=0
 ·simp -implicitDefEqProofs [g4,Fe]
 simp -implicitDefEqProofs [g4]
 refine Aa (hHB seen hr) ?_
 simp -implicitDefEqProofs [g4]
 refine Aa (hAB a ha) ?_
 simp -implicitDefEqProofs [g4]
 have hf2:=hF key [AX seen,Ay a] 1 (AlC seen a)
 simp -implicitDefEqProofs [Kh,Pp]at hf2
 refine Aa (hf2) ?_
 generalize CZ key [AX seen,Ay a] 1=m2
 by_cases g5:m=m2
 rotate_left
 ·simp -implicitDefEqProofs [g4,g5,Fe]
 subst g5
 simp -implicitDefEqProofs [g4]
 refine Aa (hT a.exts ha.1) ?_
 simp -implicitDefEqProofs [g4]
abbrev Amc (R:Rel):Prop:=∀(h seen:Hello) (vs tags:List Int) (key:Int),hB h→hB seen→vs.length≤4194304→tags.length≤4194304→
 R [arg (Cv h),arg (Cv seen),.sl 1 1 vs.length (ints vs),.sl 1 1 tags.length (ints tags),I key,.sl 1 2 0 []] [] (.agg (Ue (AbM h seen vs tags key))) []
theorem AyL (D:Dn) (hC:Qf (D XT)) (hFi:Ih (D AdY)) (hHB:Gz (D Abl)) (hAB:F8 (D YH))
 (hF:OG (D UF)) (hK:TD (D AdQ)) (hT:JE (D OD)):Amc (Body D TP):=by
 intro h seen vs tags key hh hr hv ht
 simp -implicitDefEqProofs
 refine Aa (hC vs tags seen hv ht hr) ?_
 have ha:=Ahm (vs:=vs) (tags:=tags) hr
 unfold AbM
 generalize Ba vs tags seen=q at ha
 obtain⟨a,fine⟩:=q
 dsimp only at ha⊢
 have e:(!decide (CZ key [AX h,Ay a] 1=0)&&decide (CZ key [AX h,Ay a] 1=CZ key [AX seen,Ay a] 1))=
  OP key [AX h,Ay a] 1 (CZ key [AX seen,Ay a] 1):=by
  unfold OP
  by_cases e1:CZ key [AX h,Ay a] 1=CZ key [AX seen,Ay a] 1
  ·rw[e1]
  ·have e2:¬CZ key [AX seen,Ay a] 1=CZ key [AX h,Ay a] 1:=fun h=>e1 h.symm
   simp[e1,e2]
 rw[e]
 by_cases g2:fine=true
 rotate_left
 ·simp -implicitDefEqProofs [g2,Fe]
 simp -implicitDefEqProofs [g2]
 refine Axe ?_
 simp -implicitDefEqProofs
 refine Aa (hHB seen hr) ?_
 simp -implicitDefEqProofs
 refine Aa (hAB a ha) ?_
 simp -implicitDefEqProofs
 have hf2:=hF key [AX seen,Ay a] 1 (AlC seen a)
 simp -implicitDefEqProofs [Kh,Pp]at hf2
 refine Aa (hf2) ?_
 generalize CZ key [AX seen,Ay a] 1=m2
 simp -implicitDefEqProofs
 refine Aa (hFi h a hh ha) ?_
 by_cases g3:Ea h a=true
 rotate_left
 ·simp -implicitDefEqProofs [g3,Fe]
 simp -implicitDefEqProofs [g3]
 refine Aa (hHB h hh) ?_
 simp -implicitDefEqProofs
 refine Aa (hAB a ha) ?_
 simp -implicitDefEqProofs
 have hk:=hK key [AX h,Ay a] 1 m2 (AlC h a)
 simp -implicitDefEqProofs [Kh,Pp]at hk
 refine Aa (hk) ?_
 generalize OP key [AX h,Ay a] 1 m2=c
 by_cases g5:c=true
 rotate_left
 ·simp -implicitDefEqProofs [g5,Fe]
 simp -implicitDefEqProofs [g5]
 refine Aa (hT a.exts ha.1) ?_
 simp -implicitDefEqProofs
theorem Amw (D:Dn) (hP:E8 (D KW)) (hD:Amc (D AoD)):Ko (Body D P7):=by
 intro h path vs tags key hh hb hv ht
 simp -implicitDefEqProofs
 refine Aa (hP path h hb hh) ?_
 have hr:=M4 (path:=path) hh
 unfold RB
 generalize AV path h=r at hr
 by_cases g1:r.2=true
 rotate_left
 ·simp -implicitDefEqProofs [g1,Fe]
 simp -implicitDefEqProofs [g1]
 refine Aa (hD h r.1 vs tags key hh hr hv ht) ?_
 simp -implicitDefEqProofs
def Aob (h:Hello) (path:List Fx) (vs tags:List Int) (key:Int):BA:=
 if(Cb h path).2.2=true then⟨RB (Cb h path).1 path vs tags key,(Cb h path).2.1,TF h (Cb h path).1⟩else⟨Fe,(Cb h path).2.1,[]⟩
abbrev AcE (R:Rel):Prop:=∀(h:Hello) (path:List Fx) (vs tags:List Int) (key:Int),hB h→lnS GY path→vs.length≤4194304→tags.length≤4194304→
 R [arg (Cv h),.sl 1 4 path.length (path.flatMap Ck),.sl 1 1 vs.length (ints vs),.sl 1 1 tags.length (ints tags),I key] [] (.agg (Az (Aob h path vs tags key))) []
theorem Azl (D:Dn) (hH:Kl (D Af6)) (hO:Ko (D Afn)) (hG:MR (D Aib)):AcE (Body D XU):=by
 intro h path vs tags key hh hb hv ht
 simp -implicitDefEqProofs
 refine Aa (hH h path hh hb) ?_
 have hr:=Arn (path:=path) hh
 unfold Aob
 generalize Cb h path=r at hr
 obtain⟨x,n,ok⟩:=r
 dsimp only at hr⊢
 by_cases g1:ok=true
 rotate_left
 ·simp -implicitDefEqProofs [g1,Fe]
 simp -implicitDefEqProofs [g1]
 refine Aa (hO x path vs tags key hr hb hv ht) ?_
 simp -implicitDefEqProofs
 refine Aa (hG h x hh hr) ?_
 simp -implicitDefEqProofs [g1]
theorem Az6 (D:Dn) (hH:Kl (D Ag9)) (hO:Ko (D Agj)) (hG:MR (D Ai6)):AcE (Body D Xl):=by
 intro h path vs tags key hh hb hv ht
 simp -implicitDefEqProofs
 refine Aa (hH h path hh hb) ?_
 have hr:=Arn (path:=path) hh
 unfold Aob
 generalize Cb h path=r at hr
 obtain⟨x,n,ok⟩:=r
 dsimp only at hr⊢
 by_cases g1:ok=true
 rotate_left
 ·simp -implicitDefEqProofs [g1,Fe]
 simp -implicitDefEqProofs [g1]
 refine Aa (hO x path vs tags key hr hb hv ht) ?_
 simp -implicitDefEqProofs
 refine Aa (hG h x hh hr) ?_
 simp -implicitDefEqProofs [g1]
end Go.Eng.T
namespace Go.Eng.T
set_option maxRecDepth 20000
set_option maxHeartbeats 1000000
theorem Aof {l:List Ext} {k:Nat} (h:k≤l.length):part (I4 (l.flatMap Bl) 2 0 k) 2 k (l.length-k)=(l.drop k).flatMap Bl:=by
 have h0:(l.flatMap Bl).length=l.length*2:=OL l
 have e1:l.flatMap Bl=(l.take k).flatMap Bl++(l.drop k).flatMap Bl:=by rw[←List.flatMap_append,List.take_append_drop]
 have h1:((l.take k).flatMap Bl).length=k*2:=by rw[OL];simp;omega
 have h2:((l.drop k).flatMap Bl).length=(l.length-k)*2:=by rw[OL];simp
 unfold part I4
 rw[e1]
 simp only[Nat.zero_mul,List.take_zero,List.nil_append,Nat.zero_add]
 rw[List.drop_left' h1,List.drop_left' (by simp),List.take_of_length_le (by omega)]
theorem At4 {l:List Ext} {k:Nat} (h:k≤l.length):part (l.flatMap Bl) 2 0 k=(l.take k).flatMap Bl:=by
 have e1:l.flatMap Bl=(l.take k).flatMap Bl++(l.drop k).flatMap Bl:=by rw[←List.flatMap_append,List.take_append_drop]
 have h1:((l.take k).flatMap Bl).length=k*2:=by rw[OL];simp;omega
 unfold part
 rw[e1,Nat.zero_mul,List.drop_zero,List.take_left' h1]
def Afs (seed:Int):List Int:=List.replicate (pick seed 2 3).toNat (pick seed 3 256)
def Ajm (l:List Ext) (seed:Int):Nat:=(pick seed 1 (l.length+1)).toNat
def C9 (l:List Ext) (seed:Int):List Ext:=
 if Eg l&&(decide (l.length<6)&& !decide (Mr seed∈Ao l))then l.take (Ajm l seed)++⟨Mr seed,Afs seed⟩::l.drop (Ajm l seed)else l
theorem Arl (l:List Ext) (seed:Int) (h:l.length≤6):Ajm l seed≤l.length:=by
 have:=QA seed 1 (n:=l.length+1) ⟨by omega,by omega⟩
 unfold Ajm;omega
theorem Am0 (seed:Int):(Afs seed).length≤2:=by
 have:=QA seed 2 (n:=3) ⟨by omega,by omega⟩
 unfold Afs;simp;omega
abbrev Ip (R:Rel):Prop:=∀(l:List Ext) (seed:Int),Rf l→R [.sl 1 2 l.length (l.flatMap Bl),I seed] [] (.sl 0 2 (C9 l seed).length ((C9 l seed).flatMap Bl)) []
theorem AkB (D:Dn) (hG:Ig (D AcZ)) (hC:MO (D WM)) (hA:Fb (D Jz)) (hX:NN (D Qm)) (hP:WL (D AaE)):Ip (Body D NI):=by
 intro l seed hl
 have hll:=hl.1
 simp -implicitDefEqProofs
 refine Aa (hG seed) ?_
 obtain⟨t,ht⟩:∃t,t=Mr seed:=⟨_,rfl⟩
 rw[←ht]
 simp -implicitDefEqProofs
 refine Aa (hC l hl) ?_
 simp -implicitDefEqProofs
 refine Aa (hA l hl) ?_
 by_cases h1:Eg l=true
 rotate_left
 ·simp -implicitDefEqProofs [h1,C9]
 by_cases h2:l.length<6
 rotate_left
 ·have h2':(6:Int)≤l.length:=by omega
  simp -implicitDefEqProofs [h1,h2,h2',C9]
 have h2':¬(6:Int)≤l.length:=by omega
 simp -implicitDefEqProofs [h1,h2']
 refine Aa (hX l t (by unfold maxLen;omega)) ?_
 by_cases h3:t∈Ao l
 ·have h3':0≤HV l t:=by
   by_cases h:HV l t<0
   ·rw[Ki]at h;exact absurd h3 h
   ·omega
  simp -implicitDefEqProofs [h1,h2,h3',h3,C9,←ht]
 have h3':¬0≤HV l t:=by
  have:HV l t<0:=by rw[Ki];exact h3
  omega
 have e:C9 l seed=l.take (Ajm l seed)++⟨t,Afs seed⟩::l.drop (Ajm l seed):=by
  unfold C9
  rw[if_pos]
  ·rw[ht]
  ·simp[h1,h2,←ht,h3]
 have hgp:=Arl l seed (by omega)
 have hgb:=Am0 seed
 rw[e]
 simp -implicitDefEqProofs [h3']
 refine Aa (hP seed 2 3) ?_
 have hp2:=QA seed 2 (n:=3) ⟨by omega,by omega⟩
 have eb:Afs seed=List.replicate (pick seed 2 3).toNat (pick seed 3 256):=rfl
 obtain⟨n,hn⟩:∃n:Nat,pick seed 2 3=n:=⟨(pick seed 2 3).toNat,by omega⟩
 rw[hn]at eb hp2⊢
 rw[Int.toNat_natCast]at eb
 rw[eb]at hgb⊢
 generalize hv:pick seed 3 256=v at *
 simp -implicitDefEqProofs
 refine Ah (fun k s=>∃j o2 o3,j+k=n∧s=⟨[.sl 1 2 l.length (l.flatMap Bl),I seed,.undef,.undef,.arr 0,.ptr 1 0,I k,.undef,.undef,.undef],[.arr 2 0 l.length (l.flatMap Bl),.var [I t,.arr 9],o2,o3,.free,.free,.free,.free,.free,.arr 1 0 j (ints (List.replicate j v))]⟩) ?_ (n) _ ⟨0,.free,.free,by simp,by simp[ints]⟩
 intro k s ⟨j,o2,o3,hj,hs⟩
 subst hs
 by_cases hjn:j<n
 ·have hk0:0<k:=by omega
  have hb1:(j+1)*8≤1099511627776:=by omega
  have hwk:IntKind.i64.wrap ((k:Int)-1)=(k-1:Nat):=by rw[Ae (by omega) (by omega)];omega
  simp -implicitDefEqProofs [hk0]
  refine Aa (hP seed 3 256) ?_
  rw[hv]
  simp -implicitDefEqProofs [hb1]
  exact⟨k-1,by omega,j+1,by omega,by simp[hwk],by simp[ints,List.replicate_succ']⟩
 have hk0:k=0:=by omega
 obtain rfl:j=n:=by omega
 subst hk0
 have hwl:IntKind.i64.wrap ((l.length:Int)+1)=(l.length:Int)+1:=Ae (by omega) (by omega)
 simp -implicitDefEqProofs [hwl]
 refine Aa (hP seed 1 (l.length+1)) ?_
 have hp1:=QA seed 1 (n:=(l.length:Int)+1) ⟨by omega,by omega⟩
 have eg:Ajm l seed=(pick seed 1 (l.length+1)).toNat:=rfl
 generalize pick seed 1 (l.length+1)=k1 at hp1 eg
 obtain⟨kk,rfl⟩:∃kk:Nat,k1=kk:=⟨k1.toNat,by omega⟩
 rw[Int.toNat_natCast]at eg
 rw[eg]at hgp⊢
 have hk1:(kk:Int)≤l.length:=by omega
 have hb2:kk*32≤1099511627776:=by omega
 have hb3:(kk+1)*32≤1099511627776:=by omega
 have hb4:(kk+1+(l.length-kk))*32≤1099511627776:=by omega
 simp -implicitDefEqProofs [hk1,hgp,hb2,hb3,hb4,Aof hgp,At4 hgp]
 all_goals omega
theorem Apj {l:List Ext} (hl:Rf l) (h6:l.length≤4194303) (seed:Int):Rf (C9 l seed):=by
 unfold C9
 split
 ·refine⟨?_,?_⟩
  ·simp;omega
  ·intro x hx
   rcases List.mem_append.1 hx with h | h
   ·exact hl.2 x (List.mem_of_mem_take h)
   ·rcases List.mem_cons.1 h with h | h
    ·subst h;have:=Am0 seed;dsimp only;omega
    ·exact hl.2 x (List.mem_of_mem_drop h)
 ·exact hl
def bare (ts:List Int):List Ext:=ts.map fun t=>⟨t,[]⟩
theorem KA (ts:List Int):(bare ts).length=ts.length:=by simp[bare]
theorem Afi {ts:List Int} (h:ts.length≤4194304):Rf (bare ts):=⟨by rw[KA];exact h,fun x hx=>by
 obtain⟨t,_,rfl⟩:=List.mem_map.1 hx;simp⟩
theorem AjI {ts:List Int} {j:Nat} (h:j<ts.length):(bare (ts.take j)).flatMap Bl++ [.sc (.int .i64 ts[j]),.sl 0 1 0 []]=(bare (ts.take (j+1))).flatMap Bl:=by
 have e:ts.take (j+1)=ts.take j++ [ts[j]]:=by simp
 rw[e]
 unfold bare
 rw[List.map_append,List.flatMap_append]
 rfl
def F7 (e:AJ) (seed:Int):Hello:=if A7 e=true then⟨e.versions,C9 (bare e.tags) seed⟩else AL
abbrev MW (R:Rel):Prop:=∀(e:AJ) (seed:Int),Ad e≤4194304→R [arg (Ak e),I seed] [] (.agg (Cv (F7 e seed))) []
theorem TA {e:AJ} (h:A7 e=true):e.tags.length≤5:=by
 unfold A7 at h
 simp only[Bool.and_eq_true,decide_eq_true_eq]at h
 exact h.2.1
theorem Ago {e:AJ} (hsz:Ad e≤4194304) (seed:Int):hB (F7 e seed):=by
 unfold F7
 split
 ·rename_i h
  have:=TA h
  exact⟨AbW hsz,Apj (Afi (by omega)) (by rw[KA];omega) seed⟩
 ·exact AgS
theorem Aqm (D:Dn) (hE:Fu (D RV)) (hG:Ip (D Ad2)):MW (Body D QK):=by
 intro e seed hsz
 have hl:=Akv hsz
 have hv:=AbW hsz
 simp -implicitDefEqProofs
 refine Aa (hE e hl) ?_
 by_cases h1:A7 e=true
 rotate_left
 ·simp -implicitDefEqProofs [h1,F7,AL]
 have h5:=TA h1
 have he:F7 e seed=⟨e.versions,C9 (bare e.tags) seed⟩:=by unfold F7;rw[if_pos h1]
 rw[he]
 have hb2:e.versions.length*8≤1099511627776:=by omega
 simp -implicitDefEqProofs [h1]
 refine Ah (fun k s=>∃j o3 o4,j+k=e.tags.length∧s=⟨[.undef,I seed,.ptr 0 0,.ptr 1 0,.arr 8,I j,.undef,.undef],[.var ((Ak e).map (Be 1)),.var [.nil 1,.nil 2],.free,o3,o4,.free,.free,.free,.arr 2 0 j ((bare (e.tags.take j)).flatMap Bl)]⟩) ?_ (e.tags.length) _ ⟨0,.free,.free,by simp,by simp[bare]⟩
 intro k s ⟨j,o3,o4,hj,hs⟩
 subst hs
 by_cases hjn:j<e.tags.length
 ·have hw:IntKind.i64.wrap ((j:Int)+1)=(j+1:Nat):=by rw[Ae (by omega) (by omega)];simp
  have hst:=AjI hjn
  have hb1:(j+1)*32≤1099511627776:=by omega
  have hlen:(bare (e.tags.take j)).length=j:=by rw[KA];simp;omega
  have hlen2:(bare (e.tags.take (j+1))).length=j+1:=by rw[KA];simp;omega
  simp -implicitDefEqProofs [hjn,hb1]
  exact⟨k-1,by omega,j+1,by omega,by simp[hw],by rw[←hst];exact⟨rfl,rfl⟩⟩
 have e2:e.tags.take j=e.tags:=List.take_of_length_le (by omega)
 obtain rfl:j=e.tags.length:=by omega
 simp -implicitDefEqProofs [hjn,e2,hb2]
 have hq:=hG (bare e.tags) seed (Afi (by omega))
 rw[KA]at hq
 refine Aa (hq) ?_
 simp -implicitDefEqProofs
theorem ApH (D:Dn) (hE:Fu (D Rt)) (hG:Ip (D Aeo)):MW (Body D QW):=by
 intro e seed hsz
 have hl:=Akv hsz
 have hv:=AbW hsz
 simp -implicitDefEqProofs
 refine Aa (hE e hl) ?_
 by_cases h1:A7 e=true
 rotate_left
 ·simp -implicitDefEqProofs [h1,F7,AL]
 have h5:=TA h1
 have he:F7 e seed=⟨e.versions,C9 (bare e.tags) seed⟩:=by unfold F7;rw[if_pos h1]
 rw[he]
 have hb2:e.versions.length*8≤1099511627776:=by omega
 simp -implicitDefEqProofs [h1]
 refine Ah (fun k s=>∃j o3 o4,j+k=e.tags.length∧s=⟨[.undef,I seed,.ptr 0 0,.ptr 1 0,.arr 8,.undef,.undef,.sl 1 1 e.tags.length (ints e.tags),I e.tags.length,I j,.undef],[.var ((Ak e).map (Be 1)),.var [.nil 1,.nil 2],.free,o3,o4,.free,.free,.free,.arr 2 0 j ((bare (e.tags.take j)).flatMap Bl)]⟩) ?_ (e.tags.length) _ ⟨0,.free,.free,by simp,by simp[bare]⟩
 intro k s ⟨j,o3,o4,hj,hs⟩
 subst hs
 by_cases hjn:j<e.tags.length
 ·have hw:IntKind.i64.wrap ((j:Int)+1)=(j+1:Nat):=by rw[Ae (by omega) (by omega)];simp
  have hst:=AjI hjn
  have hb1:(j+1)*32≤1099511627776:=by omega
  have hlen:(bare (e.tags.take j)).length=j:=by rw[KA];simp;omega
  have hlen2:(bare (e.tags.take (j+1))).length=j+1:=by rw[KA];simp;omega
  simp -implicitDefEqProofs [hjn,hb1]
  exact⟨k-1,by omega,j+1,by omega,by simp[hw],by rw[←hst];exact⟨rfl,rfl⟩⟩
 have e2:e.tags.take j=e.tags:=List.take_of_length_le (by omega)
 obtain rfl:j=e.tags.length:=by omega
 simp -implicitDefEqProofs [hjn,e2,hb2]
 have hq:=hG (bare e.tags) seed (Afi (by omega))
 rw[KA]at hq
 refine Aa (hq) ?_
 simp -implicitDefEqProofs
def KM:BA:=⟨Fe,0,[]⟩
def JG (e:AJ) (vs tags:List Int) (key seed:Int):BA:=if A7 e=true then Aob (F7 e seed) e.path vs tags key else KM
abbrev Nc (R:Rel):Prop:=∀(e:AJ) (vs tags:List Int) (key seed:Int),Ad e≤4194304→vs.length≤4194304→tags.length≤4194304→
 R [arg (Ak e),.sl 1 1 vs.length (ints vs),.sl 1 1 tags.length (ints tags),I key,I seed] [] (.agg (Az (JG e vs tags key seed))) []
theorem Aqu (D:Dn) (hE:Fu (D RV)) (hH:MW (D AiI)) (hD:AcE (D Aqq)):Nc (Body D QM):=by
 intro e vs tags key seed hsz hv ht
 have hl:=Akv hsz
 simp -implicitDefEqProofs
 refine Aa (hE e hl) ?_
 by_cases h1:A7 e=true
 rotate_left
 ·simp -implicitDefEqProofs [h1,JG,KM,Fe]
 simp -implicitDefEqProofs [h1]
 refine Aa (hH e seed hsz) ?_
 have hh:=Ago hsz seed
 have he:JG e vs tags key seed=Aob (F7 e seed) e.path vs tags key:=by unfold JG;rw[if_pos h1]
 rw[he]
 generalize F7 e seed=h at hh
 simp -implicitDefEqProofs
 refine Aa (hD h e.path vs tags key hh hl.2.2 hv ht) ?_
 simp -implicitDefEqProofs
theorem Apo (D:Dn) (hE:Fu (D Rt)) (hH:MW (D Aid)) (hD:AcE (D Aqg)):Nc (Body D QH):=by
 intro e vs tags key seed hsz hv ht
 have hl:=Akv hsz
 simp -implicitDefEqProofs
 refine Aa (hE e hl) ?_
 by_cases h1:A7 e=true
 rotate_left
 ·simp -implicitDefEqProofs [h1,JG,KM,Fe]
 simp -implicitDefEqProofs [h1]
 refine Aa (hH e seed hsz) ?_
 have hh:=Ago hsz seed
 have he:JG e vs tags key seed=Aob (F7 e seed) e.path vs tags key:=by unfold JG;rw[if_pos h1]
 rw[he]
 generalize F7 e seed=h at hh
 simp -implicitDefEqProofs
 refine Aa (hD h e.path vs tags key hh hl.2.2 hv ht) ?_
 simp -implicitDefEqProofs
def clip (n:Int):Int:=max (-100000) (min 100000 n)
abbrev ArP (R:Rel):Prop:=∀n:Int,R [I n] [] (I (clip n)) []
theorem AsZ (D:Dn) (hM:Ar1 (D AsI)) (hN:Aq7 (D AtC)):ArP (Body D QG):=by
 intro n
 simp -implicitDefEqProofs
 refine Aa (hN _ _) ?_
 simp -implicitDefEqProofs
 refine Aa (hM _ _) ?_
 simp -implicitDefEqProofs [clip]
def Jk (w:World) (i:Int):BA:=if InQ i 0 ((w.ends.length:Int)-1)then(match w.ends[i.toNat]? with | some e=>JG e w.server w.tags w.key (16*clip w.now+i) | none=>KM)else KM
abbrev Qw (R:Rel):Prop:=∀(w:World) (i:Int),Br w≤4194304→R [arg (P5 w),I i] [] (.agg (Az (Jk w i))) []
theorem Ar7 (n:Int):-100000≤clip n∧clip n≤100000:=by unfold clip;omega
theorem AtY (D:Dn) (hI:WS (D EA)) (hC:ArP (D AhS)) (hB:Nc (D Ais)):Qw (Body D Tn):=by
 intro w i hsz
 have he:=Agm hsz
 have hw:IntKind.i64.wrap ((w.ends.length:Int)-1)=(w.ends.length:Int)-1:=Ae (by omega) (by omega)
 simp -implicitDefEqProofs [hw]
 refine Aa (hI _ _ _) ?_
 by_cases h1:InQ i 0 ((w.ends.length:Int)-1)
 rotate_left
 ·simp -implicitDefEqProofs [h1,Jk,KM,Fe]
 obtain⟨n,rfl⟩:∃n:Nat,i=n:=⟨i.toNat,by have:=h1.1;omega⟩
 have hn:n<w.ends.length:=by have:=h1.2;omega
 have hb:=AbJ hsz
 have hes:=Akb hsz hn
 have e:Jk w n=JG w.ends[n] w.server w.tags w.key (16*clip w.now+n):=by unfold Jk;rw[if_pos h1];simp[hn]
 rw[e]
 simp -implicitDefEqProofs [h1,hn]
 refine Aa (hC w.now) ?_
 have hcl:=Ar7 w.now
 generalize clip w.now=c at hcl
 have hw1:IntKind.i64.wrap (16*c)=16*c:=Ae (by omega) (by omega)
 have hw2:IntKind.i64.wrap (16*c+n)=16*c+n:=Ae (by omega) (by omega)
 simp -implicitDefEqProofs [hw1,hw2]
 refine Aa (hB w.ends[n] w.server w.tags w.key _ hes hb.1 hb.2.1) ?_
 simp -implicitDefEqProofs
theorem Atg (D:Dn) (hI:AeC (D AlN)) (hB:Nc (D Aje)):Qw (Body D TH):=by
 intro w i hsz
 have he:=Agm hsz
 simp -implicitDefEqProofs
 refine Aa (hI w i he) ?_
 by_cases h1:InQ i 0 ((w.ends.length:Int)-1)
 rotate_left
 ·simp -implicitDefEqProofs [h1,Jk,KM,Fe]
 obtain⟨n,rfl⟩:∃n:Nat,i=n:=⟨i.toNat,by have:=h1.1;omega⟩
 have hn:n<w.ends.length:=by have:=h1.2;omega
 have hb:=AbJ hsz
 have hes:=Akb hsz hn
 have e:Jk w n=JG w.ends[n] w.server w.tags w.key (16*clip w.now+n):=by unfold Jk;rw[if_pos h1];simp[hn]
 rw[e]
 simp -implicitDefEqProofs [h1,hn]
 have hc:(if(if 100000<w.now then 100000 else w.now)< -100000 then -100000 else if 100000<w.now then 100000 else w.now)=clip w.now:=by
  unfold clip
  split<;>split<;>omega
 rw[hc]
 have hcl:=Ar7 w.now
 generalize clip w.now=c at hcl
 have hw1:IntKind.i64.wrap (16*c)=16*c:=Ae (by omega) (by omega)
 have hw2:IntKind.i64.wrap (16*c+n)=16*c+n:=Ae (by omega) (by omega)
 rw[hw1,hw2]
 refine Aa (hB w.ends[n] w.server w.tags w.key _ hes hb.1 hb.2.1) ?_
 simp -implicitDefEqProofs
end Go.Eng.T
namespace Go.Eng.T
open Go.Eng.X
def Ac:Nat→Bz
 |0=>R 0 [x 0 (s 0),m f] [(2,0)] [0,3]
 |1=>R 1 [m (i 1048576)] [(4,0)] []
 |2=>R 2 [P 15 (s 2),m (s 4),C 7 [r (l 0),r (l 1)] [],m (l 2)] [(4,3)] []
 |3=>R 3 [m (s 4),y .lss (l 0) (i 0)] [(12,1)] [4]
 |4=>R 4 [m t] [(3,0)] [1,2]
 |5=>R 5 [P 15 (s 2),C 8 [r (l 0)] [1,2,3,4,5,6],m (s 1),C 142 [r (l 1),r (l 2)] [7,8],a 9 zD,W 5 (l 4) (l 3)] [(5,4)] []
 |6=>R 6 [P 15 (s 2),C 8 [r (l 0)] [10,11,12,13,14,15],a 16 zW,W 15 (l 2) (l 1)] [(6,2)] []
 |7=>R 7 [P 15 (s 6),m (s 1),C 173 [r (l 0),r (l 1)] [17,18],a 19 zD,W 5 (l 3) (l 2)] [(7,3)] []
 |8=>R 8 [P 5 (s 7),P 5 (s 5),C 135 [r (l 0),r (l 1)] [],n (l 2)] [(13,3)] []
 |9=>R 9 [m f] [(3,0)] [1,2,5,6,7]
 |10=>T 10 [D (P 15 (s 6)) [16] [],D (P 15 (s 2)) [0] [],D (C 8 [r (l 1)] [20,21,22,23,24,25]) [20,21,22,23,24,25] [20,21,22,23,24,25],D (C 11 [r (l 0),r (l 2)] []) [10,11,12,13,14,15,20,21,22,23,24,25] [],D (n (l 3)) [] []] [(14,4)] []
 |11=>R 11 [m f] [(3,0)] [1,2,5,6,7]
 |12=>R 12 [m (i 1)] [(8,0)] []
 |13=>R 13 [P 15 (s 6),m (s 8),C 12 [v (l 0),r (l 1)] [],m (l 2)] [(8,3)] [6]
 |14=>R 14 [m (s 8),y .lss (l 0) (i 0),m (l 1),G 2 (P 5 (s 7)),G 2 (P 5 (s 5)),G 2 (C 135 [r (l 3),r (l 4)] []),G 2 (n (l 5)),k (l 2) t (l 6)] [(15,7)] [8]
 |15=>R 15 [m f] [(3,0)] [1,2,5,7]
 |16=>R 16 [m (i 1)] [(9,0)] []
 |17=>R 17 [P 5 (s 7),m (s 9),C 513 [v (l 0),r (l 1)] [],m (l 2)] [(9,3)] []
 |18=>R 18 [m (i 1)] [(10,0)] []
 |19=>R 19 [P 5 (s 7),m (s 10),C 514 [r (l 0),r (l 1)] [],m (l 2)] [(10,3)] []
 |20=>R 20 [m (s 10),y .lss (l 0) (i 0)] [(16,1)] []
 |21=>R 21 [m f] [(3,0)] [1,2,5,7,9,10]
 |22=>R 22 [m (s 10),m (s 9),y .neq (l 0) (l 1)] [(17,2)] [10]
 |23=>R 23 [m f] [(3,0)] [1,2,5,7,9]
 |24=>R 24 [P 15 (s 2),C 8 [r (l 0)] [26,27,28,29,30,31],m (s 1),C 173 [r (l 1),r (l 2)] [32,33],a 34 zD,W 5 (l 4) (l 3)] [(11,4)] [1,2]
 |25=>R 25 [P 5 (s 11),P 5 (s 5),C 135 [r (l 0),r (l 1)] [],n (l 2)] [(18,3)] [5,11]
 |26=>R 26 [m f] [(3,0)] [7,9]
 |27=>R 27 [m (i 1)] [(10,0)] []
 |28=>R 28 [P 5 (s 7),m (s 10),C 514 [r (l 0),r (l 1)] [],m (l 2)] [(10,3)] [7]
 |29=>R 29 [m (s 10),y .lss (l 0) (i 0)] [(19,1)] []
 |30=>R 30 [m f] [(3,0)] [9,10]
 |31=>R 31 [m (s 10),m (s 9),y .neq (l 0) (l 1)] [(20,2)] [9,10]
 |32=>R 32 [m f] [(3,0)] []
 |_=>R 33 [m t] [(3,0)] []
def Jb:BD:=⟨21,35,[0,1],0,false,[],j (d (Ac 0)) (j (d (Ac 1)) (j (d (Ac 2)) (j (j (d (Ac 3)) (h 12 (j (d (Ac 4)) (.ret)) (.skip))) (j (d (Ac 5)) (j (d (Ac 6)) (j (d (Ac 7)) (j (j (d (Ac 8)) (h 13 (j (d (Ac 9)) (.ret)) (.skip))) (j (j (d (Ac 10)) (h 14 (j (d (Ac 11)) (.ret)) (.skip))) (j (d (Ac 12)) (j (d (Ac 13)) (j (j (d (Ac 14)) (h 15 (j (d (Ac 15)) (.ret)) (.skip))) (j (d (Ac 16)) (j (d (Ac 17)) (j (d (Ac 18)) (j (d (Ac 19)) (j (j (d (Ac 20)) (h 16 (j (d (Ac 21)) (.ret)) (.skip))) (j (j (d (Ac 22)) (h 17 (j (d (Ac 23)) (.ret)) (.skip))) (j (d (Ac 24)) (j (j (d (Ac 25)) (h 18 (j (d (Ac 26)) (.ret)) (.skip))) (j (d (Ac 27)) (j (d (Ac 28)) (j (j (d (Ac 29)) (h 19 (j (d (Ac 30)) (.ret)) (.skip))) (j (j (d (Ac 31)) (h 20 (j (d (Ac 32)) (.ret)) (.skip))) (j (d (Ac 33)) (.ret))))))))))))))))))))))))),[.slot 3]⟩
def Ur:List Tmp:=[0,1,2,4,5,6,7,8,9,10,11,12,17,30,35,46,54,57,65,70,73]
def FP:Nat→Bz
 |0=>R 0 [x 2 (s 0),m (i 0)] [(2,0)] [0,3]
 |1=>R 1 [F (s 2) 0,P 3 (l 0),m (s 1),C 516 [v (l 1),r (l 2)] [],m (l 3)] [(1,4)] []
 |2=>R 2 [F (s 2) 4,L (l 0),m (s 1),C 52 [v (l 1),r (l 2)] [],m (l 3)] [(1,4)] [2]
 |_=>R 3 [m (s 1),m (l 0)] [(3,1)] [1]
def Mt:BD:=⟨4,3,[0,1],2,false,[],j (d (FP 0)) (j (d (FP 1)) (j (d (FP 2)) (j (d (FP 3)) (.ret)))),[.slot 3]⟩
def Yi:List Tmp:=[0,1,2,4]
def Cz:Nat→Bz
 |0=>R 0 [x 0 (s 0),m (i 0)] [(2,0)] [0,3]
 |1=>R 1 [F (s 2) 0,P 3 (l 0),m (s 1),C 517 [r (l 1),r (l 2)] [],m (l 3)] [(1,4)] []
 |2=>R 2 [m (s 1),y .lss (l 0) (i 0)] [(4,1)] []
 |3=>R 3 [m (i (-1))] [(3,0)] [1,2]
 |4=>R 4 [F (s 2) 4,L (l 0),m (s 1),C 57 [r (l 1),r (l 2)] [],m (l 3)] [(1,4)] [2]
 |5=>R 5 [m (s 1),y .lss (l 0) (i 0)] [(5,1)] []
 |6=>R 6 [m (i (-1))] [(3,0)] [1]
 |_=>R 7 [m (s 1),m (l 0)] [(3,1)] [1]
def L6:BD:=⟨6,1,[0,1],0,false,[],j (d (Cz 0)) (j (d (Cz 1)) (j (j (d (Cz 2)) (h 4 (j (d (Cz 3)) (.ret)) (.skip))) (j (d (Cz 4)) (j (j (d (Cz 5)) (h 5 (j (d (Cz 6)) (.ret)) (.skip))) (j (d (Cz 7)) (.ret)))))),[.slot 3]⟩
def X7:List Tmp:=[0,1,2,4,10,16]
def IV:Nat→Bz
 |0=>R 0 [x 1 (s 0),m (i 0)] [(2,0)] [0,3]
 |1=>R 1 [F (s 2) 2,L (l 0),m (s 1),C 52 [v (l 1),r (l 2)] [],m (l 3)] [(1,4)] [2]
 |_=>R 2 [m (s 1),m (l 0)] [(3,1)] [1]
def Pt:BD:=⟨4,2,[0,1],1,false,[],j (d (IV 0)) (j (d (IV 1)) (j (d (IV 2)) (.ret))),[.slot 3]⟩
def AbY:List Tmp:=[0,1,2,4]
def FL:Nat→Bz
 |0=>R 0 [x 0 (s 0),m (i 0)] [(2,0)] [0,3]
 |1=>R 1 [F (s 2) 2,L (l 0),m (s 1),C 57 [r (l 1),r (l 2)] [],m (l 3)] [(1,4)] [2]
 |2=>R 2 [m (s 1),y .lss (l 0) (i 0)] [(4,1)] []
 |3=>R 3 [m (i (-1))] [(3,0)] [1]
 |_=>R 4 [m (s 1),m (l 0)] [(3,1)] [1]
def O1:BD:=⟨5,1,[0,1],0,false,[],j (d (FL 0)) (j (d (FL 1)) (j (j (d (FL 2)) (h 4 (j (d (FL 3)) (.ret)) (.skip))) (j (d (FL 4)) (.ret)))),[.slot 3]⟩
def Ab4:List Tmp:=[0,1,2,4,10]
def D8:Nat→Bz
 |0=>R 0 [m (z 2)] [] [2]
 |1=>R 1 [m (s 0),C 318 [r (l 0)] [0],m (s 1),C 319 [r (l 2)] [],m (l 1),m (l 3)] [(3,4),(4,5)] []
 |2=>R 2 [m (s 0),C 320 [r (l 0)] [],n (l 1),m (l 2),G 3 (m (s 0)),G 3 (e (l 4)),G 3 (y .eql (l 5) (i 6)),k (l 3) t (l 6),m (l 7),G 8 (m (s 0)),G 8 (m (s 4)),G 8 (C 321 [r (l 9),r (l 10)] []),G 8 (y .geq (l 11) (i 0)),k (l 8) t (l 12)] [(6,13)] []
 |3=>R 3 [m (s 3),m (l 0)] [(2,1)] [0,1,3,4]
 |4=>R 4 [m (s 1),C 322 [r (l 0),r (i 3),r (i 256)] [],M 1 1 1 [l 1],m (s 1),C 322 [r (l 3),r (i 2),r (i 3)] [],C 323 [r (l 2),r (l 4)] [2],m (l 5)] [(5,6)] []
 |_=>R 5 [m (s 3),m (s 1),m (s 0),e (l 2),y .add (l 3) (i 1),C 322 [r (l 1),r (i 1),r (l 4)] [],m (s 4),m (s 5),b [o,N 1] [(0,1,l 6),(1,1,l 7)],M 3 2 1 [l 8],C 324 [v (l 0),r (l 5),v (l 9)] [4],m (l 10)] [(2,11)] [0,1,3,4,5]
def Md:BD:=⟨7,5,[0,1],0,false,[],j (d (D8 0)) (j (d (D8 1)) (j (j (d (D8 2)) (h 6 (j (d (D8 3)) (.ret)) (.skip))) (j (d (D8 4)) (j (d (D8 5)) (.ret))))),[.slot 2]⟩
def Xk:List Tmp:=[0,1,4,5,6,7,25]
def Aj:Nat→Bz
 |0=>R 0 [m (z 1)] [] [1]
 |1=>R 1 [m (i 0)] [(2,0)] []
 |2=>R 2 [m (s 0),e (l 0),m (i 0)] [(6,0),(7,1),(8,2)] []
 |3=>R 3 [y .lss (s 8) (s 7)] [(9,0)] []
 |4=>R 4 [A 1 (s 6) (s 8),L (l 0),m (l 1)] [(3,2)] []
 |5=>R 5 [m (s 2),m (s 3),e (l 1),y .add (l 0) (l 2),m (l 3)] [(2,4)] [3]
 |6=>R 6 [m (s 2),y .lss (l 0) (i 0)] [(10,1)] []
 |7=>R 8 [y .add (s 8) (i 1),m (l 0)] [(8,1)] []
 |8=>Q 9 [m (s 2),C 419 [r (.con (.sc (.slice none 0 0))),r (l 0)] [0],m (l 1)] [(4,2)] [2,6,7,8] [] [w 0 2]
 |9=>R 10 [m (s 0),e (l 0),m (i 0)] [(11,0),(12,1),(13,2)] [0]
 |10=>R 11 [y .lss (s 13) (s 12)] [(14,0)] []
 |11=>R 12 [A 1 (s 11) (s 13),L (l 0),m (l 1)] [(5,2)] []
 |12=>Q 13 [m (s 4),m (s 5),q 1 1 8 (l 0) (l 1),m (l 2)] [(4,3)] [5] [1] [w 1 2]
 |13=>R 14 [y .add (s 13) (i 1),m (l 0)] [(13,1)] []
 |_=>R 15 [m (s 4),m (l 0)] [(1,1)] [4,11,12,13]
def FQ:BD:=⟨15,3,[0],0,false,[],j (d (Aj 0)) (j (d (Aj 1)) (j (j (d (Aj 2)) (.block 0 (.loop (j (d (Aj 3)) (j (h 9 (.skip) (.exit 0)) (j (.block 1 (j (d (Aj 4)) (j (d (Aj 5)) (j (d (Aj 6)) (h 10 (.stuck) (.skip)))))) (d (Aj 7)))))))) (j (d (Aj 8)) (j (j (d (Aj 9)) (.block 2 (.loop (j (d (Aj 10)) (j (h 14 (.skip) (.exit 2)) (j (.block 3 (j (d (Aj 11)) (d (Aj 12)))) (d (Aj 13)))))))) (j (d (Aj 14)) (.ret)))))),[.slot 1]⟩
def NT:List Tmp:=[0,2,3,5,6,8,9,10,11,12,20,25,26,27,28]
attribute [simp] Ac Jb FP Mt Cz L6 IV Pt FL O1 D8 Md Aj FQ
end Go.Eng.T
namespace Go.Eng.T
set_option maxRecDepth 20000
set_option maxHeartbeats 2000000
abbrev Awf (R:Rel):Prop:=∀n:Nat,n≤16777216→R [.sc (.slice none 0 0),I n] [] (.sl 0 1 0 []) []
def R9 (ls:List (List Int)):List Int:=ls.flatten
abbrev Zt (R:Rel):Prop:=∀ls:List (List Int),KI ls≤8388608→R [Kh ls] [] (.sl 0 1 (R9 ls).length (ints (R9 ls))) []
theorem Ajw {ls:List (List Int)} {j:Nat} (h:j<ls.length):R9 (ls.take (j+1))=R9 (ls.take j)++ls[j]:=by
 have e:ls.take (j+1)=ls.take j++ [ls[j]]:=by simp
 unfold R9
 rw[e,List.flatten_append];simp
theorem Ak9 (ls:List (List Int)) (j:Nat):(R9 (ls.take j)).length≤KI ls:=by
 unfold R9
 have h1:(ls.take j).flatten.length≤ls.flatten.length:=by
  conv=>rhs;rw[←List.take_append_drop j ls,List.flatten_append,List.length_append]
  omega
 have h2:ls.flatten.length≤KI ls:=by
  unfold KI Bq
  rw[List.length_flatten]
  omega
 omega
theorem Axu (D:Dn) (hG:Awf (D RG)):Zt (Body D FQ):=by
 intro ls hl
 have hll:=UA (xs:=ls)
 simp -implicitDefEqProofs
 refine Ah (fun k s=>∃j,j+k=ls.length∧s=⟨[Kh ls,.undef,I ((R9 (ls.take j)).length:Nat),.undef,.undef,.undef,Kh ls,I ls.length,I j,.undef,.undef,.undef,.undef,.undef,.undef],[.free,.free,.free]⟩) ?_ (ls.length) _ ⟨0,by simp,by simp[R9]⟩
 intro k s ⟨j,hj,hs⟩
 subst hs
 by_cases hjn:j<ls.length
 ·have hw:IntKind.i64.wrap ((j:Int)+1)=(j+1:Nat):=by rw[Ae (by omega) (by omega)];simp
  have hst:=congrArg List.length (Ajw hjn)
  rw[List.length_append]at hst
  have hle:=Ak9 ls (j+1)
  obtain⟨n2,hn2⟩:∃n2,n2=(R9 (ls.take (j+1))).length:=⟨_,rfl⟩
  obtain⟨n1,hn1⟩:∃n1,n1=(R9 (ls.take j)).length:=⟨_,rfl⟩
  rw[←hn2]at hst hle
  rw[←hn1]at hst⊢
  have hw2:IntKind.i64.wrap ((n1:Int)+(ls[j].length:Nat))=(n2:Int):=by rw[hst,Ae (by omega) (by omega)];omega
  have hneg:¬(n2:Int)<0:=by omega
  simp -implicitDefEqProofs [hjn,hw2,hneg]
  exact⟨k-1,by omega,j+1,by omega,by simp[hw,hn2]⟩
 ·have e:ls.take j=ls:=List.take_of_length_le (by omega)
  have hle:=Ak9 ls j
  simp -implicitDefEqProofs [hjn,e]
  rw[e]at hle
  refine Aa (hG (R9 ls).length (by omega)) ?_
  simp -implicitDefEqProofs
  refine Ah (fun k s=>∃j o1,j+k=ls.length∧s=⟨[.undef,.undef,.undef,.undef,.arr 2,.undef,.undef,.undef,.undef,.undef,.undef,Kh ls,I ls.length,I j,.undef],[.free,o1,.arr 1 0 (R9 (ls.take j)).length (ints (R9 (ls.take j)))]⟩) ?_ (ls.length) _ ⟨0,.free,by simp,by simp[R9]⟩
  intro k s ⟨j,o1,hj,hs⟩
  subst hs
  clear hjn e
  by_cases hjn:j<ls.length
  ·have hw:IntKind.i64.wrap ((j:Int)+1)=(j+1:Nat):=by rw[Ae (by omega) (by omega)];simp
   have hst:=Ajw hjn
   have hle2:=Ak9 ls (j+1)
   have hsl:=congrArg List.length hst
   rw[List.length_append]at hsl
   generalize(R9 (ls.take j))=r1 at *
   have hb1:(r1.length+ls[j].length)*8≤1099511627776:=by omega
   simp -implicitDefEqProofs [hjn,hb1]
   exact⟨k-1,by omega,j+1,by omega,by simp[hw],by rw[hst];simp[ints]⟩
  ·have e:ls.take j=ls:=List.take_of_length_le (by omega)
   simp -implicitDefEqProofs [hjn,e]
theorem Axd (D:Dn) (hC:Zt (D IY)) (hH:Ua (D XD)):U2 (Body D Nn):=by
 intro k xs hl
 simp -implicitDefEqProofs
 have hc:=hC [[k],xs,[k]] (by simp[KI,Bq];omega)
 simp -implicitDefEqProofs [Kh,Pp,ints]at hc
 simp -implicitDefEqProofs [ints]
 refine Aa (hc) ?_
 have ek:R9 [[k],xs,[k]]=k::xs++ [k]:=by simp[R9]
 rw[ek]
 have hlen:(k::xs++ [k]).length=xs.length+1+1:=by simp
 have hh:=hH (k::xs++ [k]) (by unfold maxLen;omega)
 rw[hlen]at hh
 simp -implicitDefEqProofs [ints]at hh
 simp -implicitDefEqProofs [ints]
 refine Aa (hh) ?_
 simp -implicitDefEqProofs [keyed]
theorem Aik (D:Dn) (hI:DL (D Gc)) (hE:FI (D Ru)) (hC:Zt (D IY)):Gz (Body D ML):=by
 intro h hh
 have hv:=hh.1
 simp -implicitDefEqProofs
 refine Aa (hI h hh) ?_
 by_cases h1:Co h=true
 rotate_left
 ·simp -implicitDefEqProofs [h1,AX]
 have hl:=Kr h.exts
 have e:AX h=((h.versions.length:Int)::h.versions)++(Ej h.exts).1:=by unfold AX;rw[if_pos h1]
 rw[e]
 simp -implicitDefEqProofs [h1]
 refine Aa (hE h.exts hh.2) ?_
 generalize(Ej h.exts).1=r at hl
 simp -implicitDefEqProofs [ints]
 have hc:=hC [[(h.versions.length:Int)],h.versions,r] (by simp[KI,Bq];omega)
 simp -implicitDefEqProofs [Kh,Pp,ints]at hc
 refine Aa (hc) ?_
 have ek:R9 [[(h.versions.length:Int)],h.versions,r]=((h.versions.length:Int)::h.versions)++r:=by simp[R9]
 rw[ek]
 simp -implicitDefEqProofs [ints]
abbrev AlU (R:Rel):Prop:=∀(v:Int) (n:Nat),n≤2→R [.sl 1 1 1 (ints [v]),I n] [] (.sl 0 1 n (ints (List.replicate n v))) []
abbrev Al4 (R:Rel):Prop:=∀(l:List Ext) (i:Nat) (x:Ext),l.length≤4194304→i≤l.length→
 R [.arr 0,I i,.arr 1] [.arr 2 0 l.length (l.flatMap Bl),.arr 2 0 1 (Bl x)] (.sl 0 2 (l.length+1) ((l.take i++x::l.drop i).flatMap Bl)) [.dead,.dead]
theorem AkX (D:Dn) (hC:MO (D Vq)) (hG:Ig (D AdM)) (hA:Fb (D Jl)) (hX:NN (D AcV)) (hP:WL (D YR))
 (hR:AlU (D Qd)) (hI:Al4 (D Jy)):Ip (Body D Md):=by
 intro l seed hl
 have hll:=hl.1
 simp -implicitDefEqProofs
 refine Aa (hC l hl) ?_
 simp -implicitDefEqProofs
 refine Aa (hG seed) ?_
 obtain⟨t,ht⟩:∃t,t=Mr seed:=⟨_,rfl⟩
 rw[←ht]
 simp -implicitDefEqProofs
 refine Aa (hA l hl) ?_
 by_cases h1:Eg l=true
 rotate_left
 ·simp -implicitDefEqProofs [h1,C9]
 have h6:l.length≤6:=VD h1
 by_cases h2:l.length=6
 ·have h2':((l.length:Nat):Int)=6:=by omega
  simp -implicitDefEqProofs [h1,h2',C9,h2]
 have h2':¬((l.length:Nat):Int)=6:=by omega
 have h2l:l.length<6:=by omega
 simp -implicitDefEqProofs [h1,h2',h2]
 refine Aa (hX l t (by unfold maxLen;omega)) ?_
 by_cases h3:t∈Ao l
 ·have h3':0≤HV l t:=by
   by_cases h:HV l t<0
   ·rw[Ki]at h;exact absurd h3 h
   ·omega
  simp -implicitDefEqProofs [h1,h2l,h2',h2,h3',h3,C9,←ht]
 have h3':¬0≤HV l t:=by
  have:HV l t<0:=by rw[Ki];exact h3
  omega
 have e:C9 l seed=l.take (Ajm l seed)++⟨t,Afs seed⟩::l.drop (Ajm l seed):=by
  unfold C9
  rw[if_pos]
  ·rw[ht]
  ·simp[h1,h2l,←ht,h3]
 have hgp:=Arl l seed h6
 rw[e]
 simp -implicitDefEqProofs [h3',h2',h2]
 refine Aa (hP seed 3 256) ?_
 simp -implicitDefEqProofs
 refine Aa (hP seed 2 3) ?_
 have hp2:=QA seed 2 (n:=3) ⟨by omega,by omega⟩
 have eb:Afs seed=List.replicate (pick seed 2 3).toNat (pick seed 3 256):=rfl
 obtain⟨n,hn⟩:∃n:Nat,pick seed 2 3=n:=⟨(pick seed 2 3).toNat,by omega⟩
 rw[hn]at eb hp2⊢
 rw[Int.toNat_natCast]at eb
 rw[eb]
 generalize pick seed 3 256=v at *
 simp -implicitDefEqProofs [ints]
 have hr:=hR v n (by omega)
 simp -implicitDefEqProofs [ints]at hr
 refine Aa (hr) ?_
 have hwl:IntKind.i64.wrap ((l.length:Int)+1)=(l.length:Int)+1:=Ae (by omega) (by omega)
 simp -implicitDefEqProofs [hwl]
 refine Aa (hP seed 1 (l.length+1)) ?_
 have hp1:=QA seed 1 (n:=(l.length:Int)+1) ⟨by omega,by omega⟩
 have eg:Ajm l seed=(pick seed 1 (l.length+1)).toNat:=rfl
 generalize pick seed 1 (l.length+1)=k1 at hp1 eg
 obtain⟨kk,rfl⟩:∃kk:Nat,k1=kk:=⟨k1.toNat,by omega⟩
 rw[Int.toNat_natCast]at eg
 rw[eg]at hgp⊢
 simp -implicitDefEqProofs
 have hi:=hI l kk ⟨t,List.replicate n v⟩ (by omega) hgp
 simp -implicitDefEqProofs [Bl,ints]at hi
 refine Aa (hi) ?_
 have hlen:(l.take kk++(⟨t,List.replicate n v⟩:Ext)::l.drop kk).length=l.length+1:=by simp;omega
 simp -implicitDefEqProofs [hlen,Bl,ints]
 omega
end Go.Eng.T
namespace Go.Eng.T
abbrev Akj:Nat:=511
abbrev AoU:Nat:=512
abbrev Aa2:Nat:=513
abbrev Aa9:Nat:=514
abbrev Amr:Nat:=515
abbrev AfZ:Nat:=516
abbrev AfK:Nat:=517
abbrev Av7:Nat:=518
abbrev Ao3:Nat:=519
abbrev Anq:Nat:=520
abbrev AAj:Nat:=521
abbrev Ao1:Nat:=522
abbrev AxK:Nat:=523
abbrev ApY:Nat:=524
abbrev AoS:Nat:=525
abbrev Ans:Nat:=526
abbrev AnH:Nat:=527
abbrev Ar4:Nat:=528
abbrev AqB:Nat:=529
abbrev Ao9:Nat:=530
abbrev Ao0:Nat:=531
abbrev Aws:Nat:=532
abbrev AuS:Nat:=533
abbrev ACv:Nat:=534
abbrev Amz:Nat:=535
abbrev AtM:Nat:=536
abbrev AuE:Nat:=537
abbrev Aq6:Nat:=538
abbrev AvH:Nat:=539
abbrev Ap3:Nat:=540
abbrev Axo:Nat:=541
end Go.Eng.T
namespace Go.Eng.T
set_option maxRecDepth 20000
abbrev VS (R:Rel):Prop:=∀(x:Uy) (k:Int),0≤k→k+EN x≤4611686018427387904→R [.agg [.sc (.bool x.ok),.sc (.int .i64 x.version),.arr 0],I k] [.arr 1 0 x.tags.length (ints (x.tags))] (I (k+EN x)) [.arr 1 0 x.tags.length (ints ((I5 x k).tags))]
theorem ApW (D:Dn) (hmarkIntS:Gr (D ES)):VS (Body D Pt):=by
 intro x k hk hl
 simp only[EN]at hl
 simp -implicitDefEqProofs
 refine Aa (hmarkIntS x.tags _ (by omega) (by omega)) ?_
 simp -implicitDefEqProofs [Da,Cx,EN,I5]
 simp[I5,EN,Ael,Int.add_assoc,show List.range 6=[0,1,2,3,4,5]from rfl,show List.range 2=[0,1]from rfl,show List.range 3=[0,1,2]from rfl]
abbrev VU (R:Rel):Prop:=∀(x:Uy) (k:Int),0≤k→k+EN x≤4611686018427387904→R [arg (Ue (I5 x k)),I k] [] (I (k+EN x)) []
theorem Aq1 (D:Dn) (hheldIntS:Ry (D UH)):VU (Body D O1):=by
 intro x k hk hl
 simp only[EN]at hl
 have hn2:¬k+((x.tags.length:Nat):Int)<0:=by omega
 simp -implicitDefEqProofs [I5,Da,EN,hn2]
 refine Aa (hheldIntS x.tags.length _ (by omega) (by omega)) ?_
 simp -implicitDefEqProofs [I5,Da,EN,hn2]
 try simp[EN,Int.add_assoc]
abbrev Qu (R:Rel):Prop:=∀(x:BA) (k:Int),0≤k→k+FX x≤4611686018427387904→R [.agg [.sc (.bool x.deal.ok),.sc (.int .i64 x.deal.version),.arr 0,.sc (.int .i64 x.tries),.arr 1],I k] [.arr 1 0 x.deal.tags.length (ints (x.deal.tags)),.arr 1 0 x.up.length (ints (x.up))] (I (k+FX x)) [.arr 1 0 x.deal.tags.length (ints ((EK x k).deal.tags)),.arr 1 0 x.up.length (ints ((EK x k).up))]
theorem Alf (D:Dn) (hmarkDeal:VS (D AfZ)) (hmarkIntS:Gr (D ES)):Qu (Body D Mt):=by
 intro x k hk hl
 simp only[FX]at hl
 simp -implicitDefEqProofs
 refine Aa (hmarkDeal x.deal _ (by omega) (by simp only[EN];omega)) ?_
 simp -implicitDefEqProofs [Da,Cx,EN,I5]
 refine Aa (hmarkIntS x.up _ (by omega) (by omega)) ?_
 simp -implicitDefEqProofs [Da,Cx,EN,I5]
 simp[EK,FX,Ael,Int.add_assoc,show List.range 6=[0,1,2,3,4,5]from rfl,show List.range 2=[0,1]from rfl,show List.range 3=[0,1,2]from rfl]
abbrev Qx (R:Rel):Prop:=∀(x:BA) (k:Int),0≤k→k+FX x≤4611686018427387904→R [arg (Az (EK x k)),I k] [] (I (k+FX x)) []
theorem Ak4 (D:Dn) (hheldDeal:VU (D AfK)) (hheldIntS:Ry (D UH)):Qx (Body D L6):=by
 intro x k hk hl
 simp only[FX]at hl
 have hn0:¬k+((x.deal.tags.length:Nat):Int)<0:=by omega
 have hn2:¬k+((x.deal.tags.length:Nat):Int)+((x.up.length:Nat):Int)<0:=by omega
 simp -implicitDefEqProofs [EK,Da,EN,hn0,hn2]
 have hr:=hheldDeal x.deal (k) (by omega) (by simp only[EN];omega)
 simp[I5,EN]at hr
 refine Aa hr ?_
 simp -implicitDefEqProofs [EK,Da,EN,hn0,hn2]
 refine Aa (hheldIntS x.up.length _ (by omega) (by omega)) ?_
 simp -implicitDefEqProofs [EK,Da,EN,hn0,hn2]
 try simp[FX,Int.add_assoc]
end Go.Eng.T
namespace Go.Eng.T
set_option maxRecDepth 20000
set_option maxHeartbeats 4000000
end Go.Eng.T
namespace Go.Eng.T
set_option maxRecDepth 20000
set_option maxHeartbeats 2000000
theorem AeI (p:Int→Bool) (l:List Ext):(kept p l).length≤l.length:=List.length_filter_le _ _
theorem AqI (b:Fx) (h:Hello):(BI b h).1.exts.length≤h.exts.length:=by
 unfold BI
 split
 ·exact AeI _ _
 ·simp[AL]
theorem AjE:∀(path:List Fx) (h:Hello),(GK path h).1.exts.length≤h.exts.length
 | [],h=>by simp[GK]
 | b::r,h=>by
  have h1:=AqI b h
  have h2:=AjE r (BI b h).1
  unfold GK
  split
  ·omega
  ·simp[AL]
theorem Aor (path:List Fx) (h:Hello):(AV path h).1.exts.length≤h.exts.length:=by
 unfold AV
 split
 ·exact AjE _ _
 ·simp[AL]
theorem AyR (h:Hello) (a b:List Int):(EG h a b).1.exts.length≤h.exts.length:=by
 unfold EG
 split
 ·exact AeI (fun t=> !decide (t∈b)) h.exts
 ·simp[AL]
theorem AyG (h:Hello) (path:List Fx):(Cb h path).1.exts.length≤h.exts.length:=by
 unfold Cb fallback
 have:=AyR h (Bd path h.versions) (Ey path (leftOf h.versions (Bd path h.versions)) h.exts)
 repeat' split
 all_goals simp[AL]<;>omega
theorem Att (h seen:Hello) (vs tags:List Int) (key:Int):(AbM h seen vs tags key).tags.length≤seen.exts.length:=by
 unfold AbM
 split
 ·have:(Ba vs tags seen).1.exts.length≤seen.exts.length:=by
   unfold Ba
   split
   ·exact Nat.le_trans (AeI (fun t=> !Av t) (JF seen.exts tags)) (AeI (fun t=>decide (t∈tags)) seen.exts)
   ·simp
  simpa[Ao]using this
 ·simp[Fe]
theorem Ayx (h:Hello) (path:List Fx) (vs tags:List Int) (key:Int):Ai (Aob h path vs tags key)≤2*h.exts.length+h.versions.length:=by
 unfold Aob
 split
 ·have h1:=AyG h path
  have h2:=Aor path (Cb h path).1
  have h3:(RB (Cb h path).1 path vs tags key).tags.length≤h.exts.length:=by
   unfold RB
   split
   ·have:=Att (Cb h path).1 (AV path (Cb h path).1).1 vs tags key;omega
   ·simp[Fe]
  have h4:(TF h (Cb h path).1).length≤h.exts.length+h.versions.length:=by
   unfold TF leftOf
   have a1:=List.length_filter_le (fun v=> !decide (v∈(Cb h path).1.versions)) h.versions
   have a2:=List.length_filter_le (AcN (Ao (Cb h path).1.exts)) (Ao h.exts)
   have a3:(Ao h.exts).length=h.exts.length:=KC _
   simp only[List.length_append,List.length_map]
   omega
  simp only[Ai,D7]
  omega
 ·simp[Ai,D7,Fe]
theorem Ato (l:List Ext) (seed:Int) (h:l.length≤5):(C9 l seed).length≤6:=by
 unfold C9
 split
 ·simp;omega
 ·omega
theorem Apg (e:AJ) (vs tags:List Int) (key seed:Int):Ai (JG e vs tags key seed)≤21:=by
 unfold JG
 split
 ·rename_i h1
  have h5:=TA h1
  have e1:F7 e seed=⟨e.versions,C9 (bare e.tags) seed⟩:=by unfold F7;rw[if_pos h1]
  have h2:=Ayx (F7 e seed) e.path vs tags key
  have h3:=Ato (bare e.tags) seed (by rw[KA];exact h5)
  have h4:e.versions.length≤9:=by
   unfold A7 at h1
   simp only[Bool.and_eq_true,decide_eq_true_eq]at h1
   exact AmW h1.1
  rw[e1]at h2⊢
  dsimp only at h2⊢
  omega
 ·simp[Ai,D7,KM,Fe]
theorem AjL (w:World) (i:Int):Ai (Jk w i)≤21:=by
 unfold Jk
 repeat' split
 all_goals first | exact Apg _ _ _ _ _ | simp[Ai,D7,KM,Fe]
def Ary (w:World) (i:Int) (d:BA) (on:Bool):World:=
 {w with log:=w.log++ [⟨i,w.now,on,d⟩],stage:=(if on=true then w.stage++ [d]else w.stage),hurt:=(if(on&&ADq w.rollout.version d)=true then IntKind.i64.wrap (w.hurt+1)else w.hurt)}
def Arf (w:World) (i:Int):Bool:=decide (InQ i 0 ((w.ends.length:Int)-1))&&(decide (w.log.length<60)&&decide (w.stage.length<60))
def Rp (w:World) (i:Int):World×Bool:=if Arf w i=true then(Ary w i (Jk w i) (AzQ w i),true)else(w,false)
theorem Aln (w:World) (i:Int):Br (Rp w i).1+(60-(Rp w i).1.log.length)*50≤Br w+(60-w.log.length)*50∧(Rp w i).1.ends=w.ends∧(Rp w i).1.rollout=w.rollout:=by
 unfold Rp
 split
 ·rename_i h
  unfold Arf at h
  simp only[Bool.and_eq_true,decide_eq_true_eq]at h
  have hd:=AjL w i
  refine⟨?_,rfl,rfl⟩
  unfold Ary
  simp only[Br,Bq,List.length_append,List.length_cons,List.length_nil,List.map_append,List.map_cons,List.map_nil,List.sum_append,List.sum_cons,List.sum_nil,Aw]
  split
  ·simp only[List.length_append,List.length_cons,List.length_nil,List.map_append,List.map_cons,List.map_nil,List.sum_append,List.sum_cons,List.sum_nil];omega
  ·omega
 ·exact⟨Nat.le_refl _,rfl,rfl⟩
def Arv (w:World):Nat→World
 | 0=>w
 | n+1=>(Rp (Arv w n) n).1
theorem AtT (w:World):∀n,Br (Arv w n)+(60-(Arv w n).log.length)*50≤Br w+(60-w.log.length)*50
 | 0=>Nat.le_refl _
 | n+1=>Nat.le_trans (Aln (Arv w n) n).1 (AtT w n)
end Go.Eng.T
namespace Go.Eng.T
set_option maxRecDepth 20000
set_option maxHeartbeats 2000000
def apart (w:World) (j:Nat):Bool:=match w.ends[j]? with
 | some e=>Aov e.path&&(!(Jk w j).deal.ok|| !decide ((Jk w j).deal.version=CX w.server e.versions))
 | none=>false
end Go.Eng.T
namespace Go.Eng.T
set_option maxRecDepth 20000
set_option maxHeartbeats 2000000
abbrev OV (R:Rel):Prop:=∀(aW:World) (aI:Int),Zk aW→Ak0 aW→rgI aI→R [arg (P5 aW),I aI] [] (B true) []
theorem Ac6 (D:Dn) (hs:Qw (D Ali)) (hi:Qw (D AkG)) (hszWorld:AaC (D AiD)) (htoWorld:YI (D AiP)) (heqDialed:OO (D Ahl)) (heqWorld:Zn (D Ah0)) (hmarkWorld:SQ (D Aec)) (hmarkDialed:Qu (D Aa2)) (hheldDialed:Qx (D Aa9)):OV (Body D Jb):=by
 intro aW aI l_aW w_aW w_aI
 simp -implicitDefEqProofs []
 refine Aa (hszWorld aW ((1048576:Int)) (by omega) (by omega) l_aW) ?_
 by_cases g1:(1048576:Int)<((Br aW:Nat):Int)
 ·simp -implicitDefEqProofs [ABC g1]
 have p1:¬(1048576:Int)-((Br aW:Nat):Int)<0:=by omega
 simp -implicitDefEqProofs [Jc g1,p1]
 have hs':=hs aW aI (by omega)
 have hi':=hi aW aI (by omega)
 obtain⟨b0,c0⟩:Ai (Jk aW aI)≤1099511627776∧FX (Jk aW aI)≤1099511627776:=(by have a1:=AjL aW aI;have a2:=AmE (Jk aW aI);omega)
 generalize Jk aW aI=r0 at hs' hi' b0 c0
 refine Aa (htoWorld aW (by omega)) ?_
 simp -implicitDefEqProofs [Jc g1,p1]
 refine Aa (hs') ?_
 simp -implicitDefEqProofs [Jc g1,p1]
 refine Aa (htoWorld aW (by omega)) ?_
 simp -implicitDefEqProofs [Jc g1,p1]
 refine Aa (hi') ?_
 simp -implicitDefEqProofs [Jc g1,p1]
 refine Aa (heqDialed r0 r0 (by omega) (by omega)) ?_
 simp -implicitDefEqProofs [Jc g1,p1]
 refine Aa (htoWorld aW (by omega)) ?_
 simp -implicitDefEqProofs [Jc g1,p1]
 refine Aa (heqWorld aW aW (by omega) (by omega)) ?_
 simp -implicitDefEqProofs [Jc g1,p1]
 have qaW:=Aq2 aW
 have pkaW:¬1+((TK aW:Nat):Int)<0:=by omega
 refine Aa (hmarkWorld aW (1) (by omega) (by omega)) ?_
 simp -implicitDefEqProofs [Jc g1,p1,pkaW,GN,Cx]
 refine Aa (heqDialed r0 r0 (by omega) (by omega)) ?_
 simp -implicitDefEqProofs [Jc g1,p1,pkaW,GN,Cx]
 refine Aa (hmarkDialed r0 (1) (by omega) (by omega)) ?_
 simp -implicitDefEqProofs [Jc g1,p1,pkaW,GN,Cx,EK]
 have pq0:¬1+((FX r0:Nat):Int)<0:=by omega
 have hr:=hheldDialed r0 (1) (by omega) (by omega)
 simp -implicitDefEqProofs [EK,Cx]at hr
 refine Aa (hr) ?_
 simp -implicitDefEqProofs [Jc g1,p1,pkaW,GN,Cx,EK,pq0]
 refine Aa (htoWorld aW (by omega)) ?_
 simp -implicitDefEqProofs [Jc g1,p1,pkaW,GN,Cx,EK,pq0]
 refine Aa (hi') ?_
 simp -implicitDefEqProofs [Jc g1,p1,pkaW,GN,Cx,EK,pq0]
 refine Aa (heqDialed r0 r0 (by omega) (by omega)) ?_
 simp -implicitDefEqProofs [Jc g1,p1,pkaW,GN,Cx,EK,pq0]
 have hr:=hheldDialed r0 (1) (by omega) (by omega)
 simp -implicitDefEqProofs [EK,Cx]at hr
 refine Aa (hr) ?_
 simp -implicitDefEqProofs [Jc g1,p1,pkaW,GN,Cx,EK,pq0]
end Go.Eng.T
namespace Go.Eng
open Go.Lib Go.RowKit
inductive XB (Af:Nat→Option FuncId) (w:World):List V→List Value→Prop where
 | nil:XB Af w [] []
 | sc {v:Value} {azs:List V} {xs:List Value} (h:XB Af w azs xs):XB Af w (.sc v::azs) (v::xs)
 | sl {e len:Nat} {cells:List V} {x:Value} {azs:List V} {xs:List Value} (h1:Rd Af w (· <w.heap.size) (.sl 1 e len cells) x) (h:XB Af w azs xs):XB Af w (.sl 1 e len cells::azs) (x::xs)
def ApN:V→Prop
 | .sc _=>True
 | .sl 1 _ _ _=>True
 | _=>False
theorem Abe {F:Fr} {w:World} {β:Nat→Base} {own:Nat→Option (Nat×List Nat)} {H:Hp} (hw:w=F.w0):∀ {azs:List V} {xs:List Value},(∀a,a∈azs→ApN a)→Pw (VR F β own H w) azs xs→XB F.Af w azs xs
 | [],xs,_,h=>by rw[h.Oe];exact .nil
 | a::azs,xs,hp,h=>by
  obtain⟨x,r,rfl,h1,h2⟩:=h.Ii
  have ih:=Abe hw (fun a ha=>hp a (List.mem_cons_of_mem _ ha)) h2
  have ha:=hp a (by simp)
  cases h1 with
  | sc h=>exact .sc ih
  | @rd fl e len cells _ h3 h=>
   match fl,ha,h with
   | 1,_,h=>exact .sl (Rd.move h (fun b hb=>by rw[hw];exact hb.1) (fun _ _=>rfl)) ih
  | _=>exact absurd ha (by simp[ApN])
theorem Awu {P:Program} {Af:Nat→Option FuncId} {G:Gl} {g:Nat} {args:List V} {v:Value} (hv:v.oneCell' =true) (hp':∀a,a∈args→ApN a)
 (h:∀id,Af g=some id→∀w:World,(∀b,G b→b<w.heap.size∧w.heap[b]? =G.is b)→∀xs,XB Af w args xs→Calls P id xs.toArray w fun e w'=>e= .returned v∧Below w.heap.size w w'):Den P Af G g args [] (.sc v) []:=by
 intro id hid F hF hG hb ht hn inv xs hx
 have hr:=Abe (F:=F) rfl hp' hx
 rw[hF]at hr
 refine(h id hid F.w0 (fun b hb=> ?_) xs hr).mono fun e w' ⟨he,hw⟩=> ?_
 ·have:=inv.glob b (by rw[hG];exact hb)
  exact⟨this.1,by rw[←hG];exact this.2.2⟩
 ·subst he
  refine⟨F.own0,⟨hw.size,hw.os,hw.tape,hw.output,fun b hb _=>hw.block b hb,fun b p hb=>⟨Nat.lt_of_lt_of_le (inv.ownb b p hb).1 hw.size,fun _=> ?_⟩,.sc hv,hn.symm,fun i o hi=> ?_⟩⟩
  ·rw[hb];simp
  ·simp at hi
end Go.Eng
namespace Go.Eng
open Go.Lib Go.RowKit Go.Sort
def iv (l:List Int):List Value:=l.map (Value.int .i64)
@[simp] theorem ABG (l:List Int):(iv l).length=l.length:=by simp[iv]
theorem Ae1 (l:List Int):EM (iv l):=by
 intro v hv
 simp only[iv,List.mem_map]at hv
 obtain⟨x,_,rfl⟩:=hv
 rfl
structure Kept (F:Fr) (w':World):Prop where
 size:F.w0.heap.size≤w'.heap.size
 os:w'.os=F.w0.os
 tape:w'.tape=F.w0.tape
 output:w'.output=F.w0.output
 keep:∀b,b<F.w0.heap.size→F.own0 b=none→w'.heap[b]? =F.w0.heap[b]?
theorem Kept.refl (F:Fr):Kept F F.w0:=⟨Nat.le_refl _,rfl,rfl,rfl,fun _ _ _=>rfl⟩
theorem Ack {P:Program} {Af:Nat→Option FuncId} {G:Gl} {g:Nat} {args:List V} {given:List O} {l':List Int}
 (h:∀id,Af g=some id→∀F:Fr,F.Af=Af→Inv F F.β0 F.own0 (hp given) F.w0→∀xs,Pw (VR F F.β0 F.own0 (hp given) F.w0) args xs→
  Calls P id xs.toArray F.w0 fun e w'=>∃a cap,e= .returned (.slice a l'.length cap)∧(l'.length≤cap∧cap≤9223372036854775807)∧(cap=0∨∃b o,a=some ⟨b,o,none⟩∧Has w' b o (iv l') cap∧(b<F.w0.heap.size→F.own0 b≠none))∧Kept F w'):
 Den P Af G g args given (.sl 0 1 l'.length (T.ints l')) (given.map fun _=> .dead):=by
 intro id hid F hF hG hb ht hn inv xs hx
 refine(h id hid F hF inv xs hx).mono fun e w' ⟨a,cap,he,hl,hm,hk⟩=> ?_
 subst he
 have hcs:∀own (i:Nat) (v:V) (x:Value),(T.ints l')[i]? =some v→(iv l')[i]? =some x→Ow F.Af w' own (fun _ b=>F.G b) 0 F.ngiven ([]++ [i]) v x:=by
  intro own i v x h1 h2
  by_cases hi:i<l'.length
  ·rw[T.ints_at hi]at h1
   simp only[iv,List.getElem?_map,hi,List.getElem?_eq_getElem,Option.map_some,Option.some.injEq]at h1 h2
   subst h1 h2
   exact .sc rfl
  ·rw[List.getElem?_eq_none (by simp;omega)]at h1;cases h1
 rcases hm with hm | ⟨b,o,rfl,hhas,hown⟩
 ·refine⟨fun _=>none,⟨hk.size,hk.os,hk.tape,hk.output,hk.keep,fun b p h=>(by cases h),.own hl (by simp) (by simp) (.inl (by omega)) (hcs _),by simp[hn],fun i o hi=> ?_⟩⟩
  simp only[List.getElem?_map,Option.map_eq_some_iff]at hi
  obtain⟨_,_,rfl⟩:=hi
  trivial
 ·refine⟨fun b'=>if b' =b then some (F.ngiven,[])else none,⟨hk.size,hk.os,hk.tape,hk.output,hk.keep,fun b' p h=> ?_,.own hl (by simp) (by simp) (.inr ⟨b,o,rfl,if_pos rfl,by rw[Nat.mul_one];exact hhas⟩) (hcs _),by simp[hn],fun i o' hi=> ?_⟩⟩
  ·by_cases e:b' =b
   ·subst e;exact⟨Rj hhas,hown⟩
   ·rw[if_neg e]at h;cases h
  ·simp only[List.getElem?_map,Option.map_eq_some_iff]at hi
   obtain⟨_,_,rfl⟩:=hi
   trivial
end Go.Eng
namespace Go.Eng.T
open Go.Lib Go.RowKit
theorem Ala {Af:Nat→Option FuncId} {w:Go.World} {P:Nat→Prop} {l:List Int} {x:Value} (h:Rd Af w P (.sl 1 1 l.length (ints l)) x):
 ∃a cap,x= .slice a l.length cap∧l.length≤cap∧(l=[]∨∃b o,a=some ⟨b,o,none⟩∧P b∧∀j,j<l.length→w.cell? ⟨b,o+j,none⟩=some (.int .i64 (l.getD j 0))):=by
 cases h with
 | @sl _ _ _ _ a cap vs hle hwd hvl hm hcs=>
  refine⟨a,cap,rfl,hle,?_⟩
  rcases hm with hm | ⟨b,o,rfl,hbk,hr⟩
  ·left
   cases l with
   | nil=>rfl
   | cons x r=>simp[ints]at hm
  ·right
   have hvlen:vs.length=l.length:=by rw[hvl];simp
   refine⟨b,o,rfl,hbk,fun j hj=> ?_⟩
   rw[hr.2 j (by omega)]
   have hv:vs[j]? =some vs[j]:=by simp
   rw[hv]
   have hrd:=hcs j (.sc (.int .i64 l[j])) vs[j] (by simp[ints,hj]) hv
   generalize vs[j]=y at hrd⊢
   cases hrd with
   | sc _=>simp[hj]
theorem Azc {P:Program} {Af:Nat→Option FuncId} {G:Gl} {g k:Nat} (hid:Af g=some k)
 (hc:∀(b off n c:Nat) (zs:List Int) (w:Go.World),0<n→n≤zs.length→n≤9223372036854775807→(∀j,j<zs.length→w.cell? ⟨b,off+j,none⟩=some (.int .i64 (zs.getD j 0)))→
  Calls P k #[.slice (some ⟨b,off,none⟩) n c] w fun e w'=>e= .returned (.int .i64 (Lib.maxOf (zs.take n)))∧w' =w):ABg (Den P Af G g):=by
 intro xs h1 h2
 refine Awu (v:= .int .i64 (AyD xs)) rfl (fun a ha=> ?_) ?_
 ·simp only[List.mem_singleton]at ha;subst ha;trivial
 intro id hi w hw ys hx
 rw[hid]at hi
 cases hi
 cases hx with
 | sl h3 h4=>
  cases h4
  obtain⟨a,cap,rfl,hle,hm⟩:=Ala h3
  rcases hm with rfl | ⟨b,o,rfl,hb,hcell⟩
  ·simp at h1
  ·refine(hc b o xs.length cap xs w h1 (Nat.le_refl _) (by omega) hcell).mono fun e w' ⟨he,hw'⟩=>⟨?_,by rw[hw'];exact Below.refl _ _⟩
   rw[he,List.take_length];rfl
theorem Apd {w:Go.World} {base:Nat} {t:TypeId} {v:Value} {l:List Int} (h:w.ownsRow base t 1 v l.length (iv l)):
 ∃a cap,v= .slice a l.length cap∧(l.length≤cap∧cap≤9223372036854775807)∧(cap=0∨∃b o,a=some ⟨b,o,none⟩∧Has w b o (iv l) cap∧base≤b):=by
 obtain⟨_,h | ⟨g,cap,cur,rfl,h1,h2,h3,h4,h5,h6⟩⟩:=h
 ·obtain⟨rfl,h⟩:=h
  exact⟨none,0,by rw[h],⟨by omega,by omega⟩,.inl rfl⟩
 ·refine⟨_,cap,rfl,⟨h3,by unfold maxLen at h4;omega⟩,.inr ⟨g,0,rfl,⟨Ae1 l,cur,t,h2,by omega,by simpa using h3,fun i hi=> ?_⟩,h1⟩⟩
  rw[Nat.zero_add,←h6,Nat.mul_one]
  simp only[ABG]at hi
  rw[List.getElem?_take,if_pos hi,Array.getElem?_toList]
theorem Aqd {F:Fr} {w':Go.World} (h:Below F.w0.heap.size F.w0 w'):Kept F w':=⟨h.size,h.os,h.tape,h.output,fun b hb _=>h.block b hb⟩
theorem Atv {P:Program} {Af:Nat→Option FuncId} {G:Gl} {g k:Nat} {t:TypeId} (hid:Af g=some k)
 (hn:∀(n c:Nat) (w:Go.World),Calls P k #[.slice none n c] w fun e w'=>e= .returned (.slice none 0 0)∧w' =w)
 (hz:∀(a:Addr) (c:Nat) (w:Go.World),Calls P k #[.slice (some a) 0 c] w fun e w'=>∃v',e= .returned v'∧w'.ownsRow w.heap.size t 1 v' 0 []∧v'≠ .slice none 0 0∧Below w.heap.size w w')
 (hc:∀(b off n c:Nat) (zs:List Int) (w:Go.World),n≤zs.length→n*8≤140737488355328→(∀j,j<zs.length→w.cell? ⟨b,off+j,none⟩=some (.int .i64 (zs.getD j 0)))→
  Calls P k #[.slice (some ⟨b,off,none⟩) n c] w fun e w'=>∃v',e= .returned v'∧w'.ownsRow w.heap.size t 1 v' n ((zs.take n).map (Value.int .i64))∧v'≠ .slice none 0 0∧Below w.heap.size w w'):Aqw (Den P Af G g):=by
 intro l hl
 refine Ack (given:=[]) (l':=l) fun id hi F hF inv xs hx=> ?_
 rw[hid]at hi
 cases hi
 have hr:=Abe (F:=F) rfl (fun a ha=>by simp only[List.mem_singleton]at ha;subst ha;trivial) hx
 cases hr with
 | sl h3 h4=>
  cases h4
  obtain⟨a,cap,rfl,hle,hm⟩:=Ala h3
  have fin:∀ {v':Value} {w':Go.World},w'.ownsRow F.w0.heap.size t 1 v' l.length (iv l)→Below F.w0.heap.size F.w0 w'→
   ∃a cap,Ending.returned v' = .returned (.slice a l.length cap)∧(l.length≤cap∧cap≤9223372036854775807)∧(cap=0∨∃b o,a=some ⟨b,o,none⟩∧Has w' b o (iv l) cap∧(b<F.w0.heap.size→F.own0 b≠none))∧Kept F w':=by
   intro v' w' ho hb
   obtain⟨a,cap,rfl,h5,h6⟩:=Apd ho
   refine⟨a,cap,rfl,h5,?_,Aqd hb⟩
   rcases h6 with h6 | ⟨b,o,h7,h8,h9⟩
   ·exact .inl h6
   ·exact .inr ⟨b,o,h7,h8,fun h=>absurd h (by omega)⟩
  rcases hm with rfl | ⟨b,o,rfl,hb,hcell⟩
  ·cases a with
   | none=>exact(hn _ _ _).mono fun e w' ⟨he,hw⟩=>⟨none,0,he,⟨by simp,by omega⟩,.inl rfl,by rw[hw];exact Kept.refl F⟩
   | some a=>exact(hz a cap F.w0).mono fun e w' ⟨v',he,hown,_,hbel⟩=>by subst he;exact fin hown hbel
  ·exact(hc b o l.length cap l F.w0 (Nat.le_refl _) (by omega) hcell).mono fun e w' ⟨v',he,hown,_,hbel⟩=>by
    subst he
    rw[List.take_length]at hown
    exact fin hown hbel
end Go.Eng.T
namespace Go.Eng
open Go.Lib Go.RowKit Go.Sort
theorem Xx (w:World) (b:Nat) (f:Array Value→Array Value):(mapBlock w b f).heap[b]? =(w.heap[b]?).map (onCells f):=by
 simp[mapBlock,Array.getElem?_modify]
theorem YU (w:World) {b k:Nat} (f:Array Value→Array Value) (h:k≠b):(mapBlock w b f).heap[k]? =w.heap[k]? :=by
 simp[mapBlock,Array.getElem?_modify,Ne.symm h]
theorem P6 (w:World) (b:Nat) (f:Array Value→Array Value):(mapBlock w b f).heap.size=w.heap.size:=by simp[mapBlock]
theorem Aq8 {w w':World} {b o n:Nat} {vs vs':List Value} {f:Array Value→Array Value} (h:Has w b o vs n) (hw:w'.heap[b]? =(w.heap[b]?).map (onCells f)) (hs:∀c,(f c).size=c.size)
 (hf:∀c:Array Value,o+n≤c.size→(∀i,i<vs.length→c[o+i]? =vs[i]?)→∀i,i<vs'.length→(f c)[o+i]? =vs'[i]?) (ho:EM vs') (hl:vs'.length≤n):Has w' b o vs' n:=by
 obtain⟨_,c,et,hb,h2,h3,h4⟩:=h
 exact⟨ho,f c,et,by rw[hw,hb];rfl,by rw[hs];exact h2,hl,hf c h2 h4⟩
end Go.Eng
namespace Go.Eng
open Go.Lib Go.RowKit Go.Sort
def JA:Nat→List Value→Array Value→Array Value
 | _,[],c=>c
 | o,v::r,c=>JA (o+1) r (c.setIfInBounds o v)
theorem E9:∀(vs:List Value) (o:Nat) (c:Array Value),(JA o vs c).size=c.size
 | [],_,_=>rfl
 | v::r,o,c=>by rw[JA,E9 r];simp
theorem Gq:∀(vs:List Value) (o k:Nat) (c:Array Value),k<o∨o+vs.length≤k→(JA o vs c)[k]? =c[k]?
 | [],_,_,_,_=>rfl
 | v::r,o,k,c,h=>by
  simp only[List.length_cons]at h
  rw[JA,Gq r (o+1) k _ (by omega),Array.getElem?_setIfInBounds,if_neg (by omega)]
theorem Ph:∀(vs:List Value) (o i:Nat) (c:Array Value),i<vs.length→o+vs.length≤c.size→(JA o vs c)[o+i]? =vs[i]?
 | v::r,o,0,c,_,hc=>by
  simp only[List.length_cons]at hc
  rw[JA,Gq r (o+1) (o+0) _ (by omega),Array.getElem?_setIfInBounds,if_pos (by omega),if_pos (by omega)]
  rfl
 | v::r,o,i+1,c,hi,hc=>by
  simp only[List.length_cons]at hc hi
  rw[JA,show o+(i+1)=o+1+i by omega,Ph r (o+1) i _ (by omega) (by simp;omega)]
  simp
theorem DW (b:Nat):∀(vs:List Value) (o:Nat) (w:World),w.setCells b o vs=mapBlock w b (JA o vs)
 | [],o,w=>(mapBlock_id w b _ fun _ _ _ _=>rfl).symm
 | v::r,o,w=>by
  rw[World.setCells,DW b r,setCell_eq,mapBlock_mapBlock]
  rfl
def Azr (l:List Int) (i:Nat) (v:Int):List Int:=l.take i++v::l.drop i
theorem Axg {l:List Int} {i j:Nat} {v:Int} (hi:i≤l.length):(Azr l i v)[j]? =if j<i then l[j]? else if j=i then some v else l[j-1]? :=by
 unfold Azr
 have hm:min i l.length=i:=by omega
 rw[List.getElem?_append]
 simp only[List.length_take,hm]
 split
 ·rename_i h;rw[List.getElem?_take,if_pos h]
 ·split
  ·rename_i h1 h2;subst h2;simp
  ·rename_i h1 h2
   obtain⟨d,rfl⟩:∃d,j=i+(d+1):=⟨j-i-1,by omega⟩
   rw[show i+(d+1)-i=d+1 by omega,List.getElem?_cons_succ,List.getElem?_drop]
   congr 1
theorem AqX {l:List Int} {j:Nat}:(iv l)[j]? =(l[j]?).map (Value.int .i64):=by simp[iv]
theorem AAS {l:List Int} {i j:Nat} {v:Int} (hi:i≤l.length):(iv (Azr l i v))[j]? =if j<i then(iv l)[j]? else if j=i then some (.int .i64 v)else(iv l)[j-1]? :=by
 rw[AqX,Axg hi]
 split
 ·rw[AqX]
 ·split
  ·rfl
  ·rw[AqX]
theorem AnC {w:World} {b o n:Nat} {vs:List Value} (h:Has w b o vs n) {j:Nat} {v:Value} (hj:vs[j]? =some v):w.cell? ⟨b,o+j,none⟩=some v:=by
 have hl:=(List.getElem?_eq_some_iff.1 hj).1
 rw[(DF h).2 j hl,hj]
theorem An6 {w:World} {b o n:Nat} {vs:List Value} (h:Has w b o vs n) {j:Nat} (hj:j<n):(w.cell? ⟨b,o+j,none⟩).isSome=true:=by
 obtain⟨_,c,et,hb,h2,_,_⟩:=h
 unfold World.cell?
 simp only[hb]
 have:o+j<c.size:=by omega
 simp[this]
theorem ZK {w:World} {b o n:Nat} {vs:List Value} (h:Has w b o vs n) (x:Nat):w.frozen? ⟨b,x,none⟩=false:=by
 obtain⟨_,c,et,hb,_⟩:=h
 unfold World.frozen?
 simp only[hb]
 simp
theorem Aj9 {w:World} {b o n:Nat} {vs:List Value} (h:Has w b o vs n):∃t k,w.shape? b=some (t,k)∧o+n≤k:=by
 obtain⟨_,c,et,hb,h2,_⟩:=h
 exact⟨et,c.size,by unfold World.shape?;simp only[hb],h2⟩
theorem alloc_at (w:World) (o:Obj):(w.alloc o).heap[w.heap.size]? =some o:=by
 show(w.heap.push o)[w.heap.size]? =some o
 rw[Array.getElem?_push,if_pos rfl]
theorem R3 (w:World) (o:Obj) {k:Nat} (h:k<w.heap.size):(w.alloc o).heap[k]? =w.heap[k]? :=by
 show(w.heap.push o)[k]? =w.heap[k]?
 rw[Array.getElem?_push,if_neg (by omega)]
theorem Mj (w:World) (o:Obj):(w.alloc o).heap.size=w.heap.size+1:=Array.size_push _
theorem Aa4 {l:List Int} {off i n:Nat} {v:Int} (hi:i≤l.length) (hn:l.length+1≤n) (c:Array Value) (hc:off+n≤c.size) (hl:∀j,j<i→c[off+j]? =(iv l)[j]?) (j:Nat) (hj:j<l.length+1):
 (JA (off+i) (iv [v]) (JA (off+(i+1)) ((iv l).drop i) c))[off+j]? =(iv (Azr l i v))[j]? :=by
 rw[AAS hi]
 by_cases h1:j<i
 ·rw[if_pos h1,Gq _ _ _ _ (.inl (by omega)),Gq _ _ _ _ (.inl (by omega)),hl j h1]
 ·rw[if_neg h1]
  by_cases h2:j=i
  ·subst h2
   rw[if_pos rfl]
   have:=Ph (iv [v]) (off+j) 0 (JA (off+(j+1)) ((iv l).drop j) c) (by simp) (by rw[E9];simp;omega)
   simp only[Nat.add_zero]at this
   rw[this];rfl
  ·rw[if_neg h2,Gq _ _ _ _ (.inr (by simp;omega))]
   have:=Ph ((iv l).drop i) (off+(i+1)) (j-(i+1)) c (by simp;omega) (by simp;omega)
   rw[show off+(i+1)+(j-(i+1))=off+j by omega]at this
   rw[this,List.getElem?_drop]
   congr 1;omega
end Go.Eng
namespace Go.Eng
open Go.Lib Go.RowKit Go.Sort
theorem ArR {F:Fr} {given:List O} {k e len:Nat} {cs:List V} {x:Value} (inv:Inv F F.β0 F.own0 (hp given) F.w0) (hk:hp given k= .arr e 0 len cs) (h:VR F F.β0 F.own0 (hp given) F.w0 (.arr k) x):
 ∃a cap vs,x= .slice a len cap∧(len≤cap∧cap≤9223372036854775807)∧vs.length=cs.length∧cs.length=len*e∧
  (cap*e=0∨∃b o,a=some ⟨b,o,none⟩∧F.own0 b=some (k,[])∧Has F.w0 b o vs (cap*e))∧
  ∀(i:Nat) (v:V) (x:Value),cs[i]? =some v→vs[i]? =some x→Ow F.Af F.w0 F.own0 (F.S F.w0 F.own0) 0 k [i] v x:=by
 have ho:=inv.objs k
 rw[hk]at ho
 obtain⟨vs,h1,h2,h3,h4,h5⟩:=ho
 cases h with
 | @arr _ e' t len' cs' he=>
  rw[hk]at he
  simp only[Ag,Option.some.injEq,Prod.mk.injEq]at he
  obtain⟨rfl,rfl,rfl,rfl⟩:=he
  exact⟨_,_,vs,rfl,h3,h1,h2,h4,h5⟩
 | goneA hd=>rw[hk]at hd;cases hd
def ABn (P:Program) (k:Nat):Prop:=∀(a:Option Addr) (n cap i vb vo vc:Nat) (vs ds:List Value) (w:World),i≤n→n≤4194304→(n≤cap∧cap≤9223372036854775807)→vs.length=n*2→ds.length=2→
 (cap=0∨∃b o,a=some ⟨b,o,none⟩∧Has w b o vs (cap*2)∧b≠vb)→Has w vb vo ds (vc*2)→1≤vc→
 Calls P k #[.slice a n cap,.int .i64 i,.slice (some ⟨vb,vo,none⟩) 1 vc] w fun e w'=>∃b' o' cap',e= .returned (.slice (some ⟨b',o',none⟩) (n+1) cap')∧(n+1≤cap'∧cap'≤9223372036854775807)∧
  Has w' b' o' (vs.take (i*2)++ds++vs.drop (i*2)) (cap'*2)∧(w.heap.size≤b'∨∃o,a=some ⟨b',o,none⟩∧cap≠0)∧
  w.heap.size≤w'.heap.size∧w'.os=w.os∧w'.tape=w.tape∧w'.output=w.output∧∀b,b<w.heap.size→b≠b'→w'.heap[b]? =w.heap[b]?
def Vg (own:Nat→Option (Nat×List Nat)) (b' i:Nat):Nat→Option (Nat×List Nat):=fun b=>
 if b=b' then some (2,[])else match own b with
 | some (0,j::q)=>some (2,(if j<i*2 then j else j+2)::q)
 | some (1,j::q)=>some (2,(i*2+j)::q)
 | _=>none
theorem Av2 {P:Program} {Af:Nat→Option FuncId} {G:Gl} {g k:Nat} (hid:Af g=some k) (hC:ABn P k) {cs ds:List V} {n i:Nat} (hn:n≤4194304) (hi:i≤n) (hcs:cs.length=n*2) (hds:ds.length=2):
 Den P Af G g [.arr 0,.sc (.int .i64 i),.arr 1] [.arr 2 0 n cs,.arr 2 0 1 ds] (.sl 0 2 (n+1) (cs.take (i*2)++ds++cs.drop (i*2))) [.dead,.dead]:=by
 intro id hid' F hF hG hb ht hgn inv xs hx
 rw[hid]at hid'
 cases hid'
 obtain⟨x0,r0,rfl,h1,h2⟩:=hx.Ii
 obtain⟨x1,r1,rfl,h3,h4⟩:=h2.Ii
 obtain⟨x2,r2,rfl,h5,h6⟩:=h4.Ii
 obtain rfl:=h6.Oe
 obtain⟨a,cap,vs,rfl,hcap,hv1,_,hm,hel⟩:=ArR (k:=0) inv rfl h1
 obtain⟨a2,cap2,ws,rfl,hcap2,hw1,_,hm2,hel2⟩:=ArR (k:=1) inv rfl h5
 cases h3
 obtain⟨vb,vo,rfl,hvown,hvhas⟩:∃vb vo,a2=some ⟨vb,vo,none⟩∧F.own0 vb=some (1,[])∧Has F.w0 vb vo ws (cap2*2):=by
  rcases hm2 with h | h
  ·omega
  ·exact h
 have hm':cap=0∨∃b o,a=some ⟨b,o,none⟩∧Has F.w0 b o vs (cap*2)∧b≠vb:=by
  rcases hm with h | ⟨b,o,e1,e2,e3⟩
  ·exact .inl (by omega)
  ·exact .inr ⟨b,o,e1,e3,fun e=>by rw[e,hvown]at e2;cases e2⟩
 refine(hC a n cap i vb vo cap2 vs ws F.w0 hi hn hcap (by omega) (by omega) hm' hvhas hcap2.1).mono fun e w' ⟨b',o',cap',he,hcap',hhas,hpl,hsz,hos,htp,hou,hkeep⟩=> ?_
 subst he
 have hb':b' <F.w0.heap.size→F.own0 b' =some (0,[]):=by
  intro hlt
  rcases hpl with h | ⟨o,e1,e0⟩
  ·omega
  ·rcases hm with h | ⟨b,o2,e2,e3,_⟩
   ·omega
   ·rw[e2]at e1;cases e1;exact e3
 have hne:∀b k j q,F.own0 b=some (k,j::q)→b≠b'∧b<F.w0.heap.size:=by
  intro b k j q h
  have hlt:=(inv.ownb b _ h).1
  refine⟨fun e=> ?_,hlt⟩
  subst e
  rw[hb' hlt]at h
  cases h
 refine⟨Vg F.own0 b' i,⟨hsz,hos,htp,hou,fun b h1 h2=> ?_,fun b p h=> ?_,?_,by rw[hgn];rfl,fun j o hj=> ?_⟩⟩
 ·refine hkeep b h1 (fun e=> ?_)
  subst e
  rw[hb' h1]at h2;cases h2
 ·unfold Vg at h
  split at h
  ·rename_i e;subst e
   exact⟨Rj hhas,fun hlt=>by rw[hb' hlt];simp⟩
  ·split at h
   ·rename_i j q e;exact⟨Nat.lt_of_lt_of_le (inv.ownb b _ e).1 hsz,fun _=>by rw[e];simp⟩
   ·rename_i j q e;exact⟨Nat.lt_of_lt_of_le (inv.ownb b _ e).1 hsz,fun _=>by rw[e];simp⟩
   ·cases h
 ·have hng:F.ngiven=2:=by rw[hgn];rfl
  rw[hng]
  refine .own hcap' ?_ ?_ (.inr ⟨b',o',rfl,by unfold Vg;rw[if_pos rfl],hhas⟩) ?_
  ·simp[hcs,hds];omega
  ·simp[hcs,hds,hv1,hw1]
  ·intro j v x hv hx
   simp only[List.nil_append]
   have mv:∀(k j0:Nat),Ow F.Af F.w0 F.own0 (F.S F.w0 F.own0) 0 k [j0] v x→(∀b q,F.own0 b=some (k,j0::q)→Vg F.own0 b' i b=some (2,j::q))→
    Ow F.Af w' (Vg F.own0 b' i) (fun _ b=>F.G b) 0 2 [j] v x:=by
    intro k j0 h hl
    refine h.move (Nat.le_refl 0) (fun fl b h1 h2 h3=> ?_) (fun fl b h1 h2 h3=> ?_) (fun b q hb=> ?_)
    ·have:fl=3:=by
      match fl,h1,h2 with
      | 1,_,h2=>simp[lv]at h2
      | 2,_,h2=>simp[lv]at h2
      | 3,_,_=>rfl
      | m+4,_,h2=>simp[lv]at h2
     subst this
     exact h3
    ·have:fl=3:=by
      match fl,h1,h2 with
      | 1,_,h2=>simp[lv]at h2
      | 2,_,h2=>simp[lv]at h2
      | 3,_,_=>rfl
      | m+4,_,h2=>simp[lv]at h2
     subst this
     have hg:=inv.glob b h3
     refine hkeep b hg.1 (fun e=> ?_)
     subst e
     rw[hb' hg.1]at hg;cases hg.2.1
    ·have hb2:F.own0 b=some (k,j0::q):=hb
     have hn:=hne b k j0 q hb2
     exact⟨hl b q hb2,hkeep b hn.2 hn.1⟩
   have hlen1:(cs.take (i*2)).length=i*2:=by simp[hcs];omega
   have hlen2:(vs.take (i*2)).length=i*2:=by simp[hv1,hcs];omega
   by_cases g1:j<i*2
   ·rw[List.append_assoc,List.getElem?_append_left (by omega),List.getElem?_take,if_pos g1]at hv hx
    refine mv 0 j (hel j v x hv hx) (fun b q hb=> ?_)
    unfold Vg
    rw[if_neg (hne b _ _ q hb).1,hb]
    simp[g1]
   ·by_cases g2:j<i*2+2
    ·rw[List.append_assoc,List.getElem?_append_right (by omega),List.getElem?_append_left (by omega)]at hv hx
     rw[hlen1]at hv
     rw[hlen2]at hx
     refine mv 1 (j-i*2) (hel2 _ v x hv hx) (fun b q hb=> ?_)
     unfold Vg
     rw[if_neg (hne b _ _ q hb).1,hb]
     simp;omega
    ·rw[List.append_assoc,List.getElem?_append_right (by omega),List.getElem?_append_right (by omega),List.getElem?_drop]at hv hx
     rw[hlen1,hds]at hv
     rw[hlen2,hw1,hds]at hx
     have e:i*2+(j-i*2-2)=j-2:=by omega
     rw[e]at hv hx
     refine mv 0 (j-2) (hel _ v x hv hx) (fun b q hb=> ?_)
     unfold Vg
     rw[if_neg (hne b _ _ q hb).1,hb]
     have:¬j-2<i*2:=by omega
     simp[this];omega
 ·match j,hj with
  | 0,hj=>simp only[List.getElem?_cons_zero,Option.some.injEq]at hj;subst hj;trivial
  | 1,hj=>simp only[List.getElem?_cons_succ,List.getElem?_cons_zero,Option.some.injEq]at hj;subst hj;trivial
  | j+2,hj=>simp at hj
end Go.Eng
namespace Go.Eng.T
open Go.Lib Go.RowKit Go.Sort
theorem AmQ {P:Program} {Af:Nat→Option FuncId} {G:Gl} {g k:Nat} (hid:Af g=some k) (hC:ABn P k):Al4 (Den P Af G g):=by
 intro l i x hl hi
 have h:=Av2 (G:=G) (g:=g) hid hC (cs:=l.flatMap Bl) (ds:=Bl x) (n:=l.length) (i:=i) hl hi (OL l) rfl
 have e1:l.flatMap Bl=(l.take i).flatMap Bl++(l.drop i).flatMap Bl:=by rw[←List.flatMap_append,List.take_append_drop]
 have h1:((l.take i).flatMap Bl).length=i*2:=by rw[OL];simp;omega
 have e2:(l.flatMap Bl).take (i*2)=(l.take i).flatMap Bl:=by rw[e1,List.take_left' h1]
 have e3:(l.flatMap Bl).drop (i*2)=(l.drop i).flatMap Bl:=by rw[e1,List.drop_left' h1]
 rw[e2,e3]at h
 have e4:(l.take i++x::l.drop i).flatMap Bl=(l.take i).flatMap Bl++Bl x++(l.drop i).flatMap Bl:=by simp
 rw[e4]
 exact h
theorem Asz {P:Program} {Af:Nat→Option FuncId} {G:Gl} {g k:Nat} {t:TypeId} (hid:Af g=some k)
 (h0:∀w,Calls P k #[.slice none 0 0,.int .i64 0] w fun e w'=>e= .returned (.slice none 0 0)∧w' =w)
 (h1:∀(n:Nat) (w:Go.World),0<n→n≤16777216→Calls P k #[.slice none 0 0,.int .i64 n] w fun e w'=>e= .returned (.slice (some ⟨w.heap.size,0,none⟩) 0 (grownCap w n 0 t))∧
  w' =w.drew.alloc (.cells (([]:List Value).toArray++Builtin.zeroCells #[.int .i64 0] n++Builtin.zeroCells #[.int .i64 0] (grownCap w n 0 t-n)) t)):Awf (Den P Af G g):=by
 intro n hn
 refine Ack (given:=[]) (l':=[]) fun id hi F hF inv xs hx=> ?_
 rw[hid]at hi
 cases hi
 obtain⟨x0,r0,rfl,g1,g2⟩:=hx.Ii
 obtain⟨x1,r1,rfl,g3,g4⟩:=g2.Ii
 obtain rfl:=g4.Oe
 cases g1
 cases g3
 by_cases hz:n=0
 ·subst hz
  refine(h0 F.w0).mono fun e w' ⟨he,hw⟩=>⟨none,0,he,⟨by simp,by omega⟩,.inl rfl,?_⟩
  rw[hw];exact Kept.refl F
 ·refine(h1 n F.w0 (by omega) hn).mono fun e w' ⟨he,hw⟩=> ?_
  have hgc:=UO F.w0 n 0 t
  have hgb:=TQ F.w0 n 0 t (by omega)
  subst hw
  refine⟨_,_,he,⟨by simp,hgb⟩,.inr ⟨_,_,rfl,⟨Ae1 [],_,t,alloc_at F.w0.drew _,?_,by simp,fun i hi=>by simp at hi⟩,fun h=>absurd h (by omega)⟩,?_⟩
  ·simp[Builtin.zeroCells];omega
  ·exact⟨by rw[Mj];simp,rfl,rfl,rfl,fun b hb _=>R3 F.w0.drew _ hb⟩
theorem AgH {F:Fr} {w':Go.World} (h1:w'.heap.size=F.w0.heap.size+1) (h2:w'.os=F.w0.os) (h3:w'.tape=F.w0.tape) (h4:w'.output=F.w0.output) (h5:∀b,b<F.w0.heap.size→w'.heap[b]? =F.w0.heap[b]?):Kept F w':=
 ⟨by omega,h2,h3,h4,fun b hb _=>h5 b hb⟩
theorem Aok {P:Program} {Af:Nat→Option FuncId} {G:Gl} {g k:Nat} {t:TypeId} (hid:Af g=some k)
 (h0:∀(b o cap:Nat) (w:Go.World),Calls P k #[.slice (some ⟨b,o,none⟩) 1 cap,.int .i64 0] w fun e w'=>e= .returned (.slice (some ⟨w.heap.size,0,none⟩) 0 0)∧w' =w.alloc (.cells #[] t))
 (h1:∀(b o cap:Nat) (v:Int) (w:Go.World),w.cell? ⟨b,o,none⟩=some (.int .i64 v)→Calls P k #[.slice (some ⟨b,o,none⟩) 1 cap,.int .i64 1] w fun e w'=>e= .returned (.slice (some ⟨w.heap.size,0,none⟩) 1 1)∧w' =(w.alloc (.cells #[.int .i64 0] t)).setCells w.heap.size 0 [.int .i64 v])
 (h2:∀(b o cap:Nat) (v:Int) (w:Go.World),w.cell? ⟨b,o,none⟩=some (.int .i64 v)→Calls P k #[.slice (some ⟨b,o,none⟩) 1 cap,.int .i64 2] w fun e w'=>e= .returned (.slice (some ⟨w.heap.size,0,none⟩) 2 2)∧
  w' =(((w.alloc (.cells #[.int .i64 0,.int .i64 0] t)).setCells w.heap.size 0 [.int .i64 v]).drew).setCells w.heap.size 1 [.int .i64 v]):AlU (Den P Af G g):=by
 intro v n hn
 have hll:(List.replicate n v).length=n:=List.length_replicate
 have key:Den P Af G g [.sl 1 1 1 (ints [v]),I n] [] (.sl 0 1 (List.replicate n v).length (ints (List.replicate n v))) []:=by
  refine Ack (given:=[]) (l':=List.replicate n v) fun id hi F hF inv xs hx=> ?_
  rw[hid]at hi
  cases hi
  obtain⟨x0,r0,rfl,g1,g2⟩:=hx.Ii
  obtain⟨x1,r1,rfl,g3,g4⟩:=g2.Ii
  obtain rfl:=g4.Oe
  cases g3
  cases g1 with
  | rd _ g1=>
  obtain⟨a,cap,rfl,hle,hm⟩:=Ala (l:=[v]) g1
  rcases hm with hm | ⟨b,o,rfl,hb,hcell⟩
  ·cases hm
  have hc:=hcell 0 (by simp)
  simp only[Nat.add_zero,List.getD_cons_zero]at hc
  have off:∀(f:Array Value→Array Value) (W:Go.World) (ob:Obj),W.heap=(F.w0.alloc ob).heap→∀b,b<F.w0.heap.size→(mapBlock W F.w0.heap.size f).heap[b]? =F.w0.heap[b]? :=fun f W ob hW b hb=>by rw[YU _ _ (by omega),hW];exact R3 F.w0 ob hb
  match n,hn with
  | 0,_=>
   refine(h0 b o cap F.w0).mono fun e w' ⟨he,hw⟩=>⟨_,0,he,⟨by simp,by omega⟩,.inl rfl,?_⟩
   rw[hw]
   exact AgH (Mj _ _) rfl rfl rfl (fun b hb=>R3 _ _ hb)
  | 1,_=>
   refine(h1 b o cap v F.w0 hc).mono fun e w' ⟨he,hw⟩=>⟨_,1,he,⟨by simp,by omega⟩,.inr ⟨_,_,rfl,?_,fun h=>absurd h (by omega)⟩,?_⟩
   ·rw[hw,DW]
    refine⟨Ae1 _,JA 0 [Value.int .i64 v] #[Value.int .i64 0],t,?_,?_,by simp,fun i hi=> ?_⟩
    ·rw[Xx,alloc_at];rfl
    ·rw[E9];simp
    ·simp at hi;subst hi;rfl
   ·rw[hw,DW]
    exact AgH (by rw[P6,Mj]) rfl rfl rfl (fun b hb=>off _ _ _ rfl b hb)
  | 2,_=>
   refine(h2 b o cap v F.w0 hc).mono fun e w' ⟨he,hw⟩=>⟨_,2,he,⟨by simp,by omega⟩,.inr ⟨_,_,rfl,?_,fun h=>absurd h (by omega)⟩,?_⟩
   ·rw[hw,DW,DW]
    refine⟨Ae1 _,JA 1 [Value.int .i64 v] (JA 0 [Value.int .i64 v] #[Value.int .i64 0,Value.int .i64 0]),t,?_,?_,by simp,fun i hi=> ?_⟩
    ·rw[Xx]
     simp only[World.drew]
     rw[Xx,alloc_at];rfl
    ·rw[E9,E9];simp
    ·simp at hi
     match i,hi with
     | 0,_=>rfl
     | 1,_=>rfl
   ·rw[hw,DW,DW]
    refine AgH ?_ rfl rfl rfl (fun b hb=> ?_)
    ·rw[P6];simp only[World.drew];rw[P6,Mj]
    ·rw[YU _ _ (by omega)]
     simp only[World.drew]
     exact off _ _ _ rfl b hb
 rw[hll]at key
 exact key
end Go.Eng.T
namespace Go.Proofs
open Go.Shelf
def Tryz.Anr:Go.Shelf.Ren:=⟨fun | 113=>278 | n=>n,fun | 28=>24 | 3=>3 | 4=>4 | 9=>9 | 20=>20 | 0=>0 | n=>n,fun | n=>n⟩
theorem Tryz.Ayv:Go.Proofs.Lays.n113 Tryz.prog Tryz.Anr:={
 mixed:=by kernel_rfl
 f113:=Tryz.func278.trans (congrArg some (by kernel_rfl))
 t0:=Tryz.underlying0
 a0:=Tryz.isAgg0
 z0:=Tryz.sizeOf0
 v0:=Tryz.zeroValue0
 t3:=Tryz.underlying3
 a3:=Tryz.isAgg3
 z3:=Tryz.sizeOf3
 v3:=Tryz.zeroValue3
 t4:=Tryz.underlying4
 a4:=Tryz.isAgg4
 z4:=Tryz.sizeOf4
 v4:=Tryz.zeroValue4
 t9:=Tryz.underlying9
 a9:=Tryz.isAgg9
 z9:=Tryz.sizeOf9
 v9:=Tryz.zeroValue9
 t20:=Tryz.underlying20
 a20:=Tryz.isAgg20
 z20:=Tryz.sizeOf20
 v20:=Tryz.zeroValue20
 t28:=Tryz.underlying24
 a28:=Tryz.isAgg24
 z28:=Tryz.sizeOf24
 v28:=Tryz.zeroValue24}
open Go.Lib in
theorem Tryz.slices_Max_int (b off n c:Nat) (zs:List Int) (w:World) (hn:0<n) (hz:n≤zs.length) (hbig:n≤9223372036854775807) (hc:∀j,j<zs.length→w.cell? ⟨b,off+j,none⟩=some (.int .i64 (zs.getD j 0))):
 Calls Tryz.prog 278 #[.slice (some ⟨b,off,none⟩) n c] w fun e w'=>e= .returned (.int .i64 (Lib.maxOf (zs.take n)))∧w' =w:=Any.slices_Max_int Tryz.Ayv b off n c zs w hn hz hbig hc
def Tryz.AiA:Go.Shelf.Ren:=⟨fun | 15=>234 | n=>n,fun | 22=>24 | 3=>3 | 4=>4 | n=>n,fun | n=>n⟩
theorem Tryz.Abf:Go.Proofs.Lays2.n15 Tryz.prog Tryz.AiA:={
 mixed:=by kernel_rfl
 f15:=Tryz.func234.trans (congrArg some (by kernel_rfl))
 t3:=Tryz.underlying3
 a3:=Tryz.isAgg3
 z3:=Tryz.sizeOf3
 v3:=Tryz.zeroValue3
 t4:=Tryz.underlying4
 a4:=Tryz.isAgg4
 z4:=Tryz.sizeOf4
 v4:=Tryz.zeroValue4
 t22:=Tryz.underlying24
 a22:=Tryz.isAgg24
 z22:=Tryz.sizeOf24
 v22:=Tryz.zeroValue24
 i3:=by kernel_rfl}
open Go.RowKit Go.Lib in
theorem Tryz.slices_Clone_int (b off n c:Nat) (zs:List Int) (w:World) (hz:n≤zs.length) (hbig:n*8≤140737488355328) (hc:∀j,j<zs.length→w.cell? ⟨b,off+j,none⟩=some (.int .i64 (zs.getD j 0))):
 Calls Tryz.prog 234 #[.slice (some ⟨b,off,none⟩) n c] w fun e w'=>∃v',e= .returned v'∧w'.ownsRow w.heap.size 3 1 v' n ((zs.take n).map (Value.int .i64))∧v'≠ .slice none 0 0∧Below w.heap.size w w':=Any.slices_Clone_int Tryz.Abf b off n c zs w hz hbig hc
open Go.RowKit Go.Lib in
theorem Tryz.slices_Clone_int_nil (n c:Nat) (w:World):
 Calls Tryz.prog 234 #[.slice none n c] w fun e w'=>e= .returned (.slice none 0 0)∧w' =w:=Any.slices_Clone_int_nil Tryz.Abf n c w
open Go.RowKit Go.Lib in
theorem Tryz.slices_Clone_int_zero (a:Addr) (c:Nat) (w:World):
 Calls Tryz.prog 234 #[.slice (some a) 0 c] w fun e w'=>∃v',e= .returned v'∧w'.ownsRow w.heap.size 3 1 v' 0 []∧v'≠ .slice none 0 0∧Below w.heap.size w w':=Any.slices_Clone_int_zero Tryz.Abf a c w
end Go.Proofs
namespace Go.Eng.Ins
open Go Go.Proofs Go.Shelf Go.RowKit Go.Lib Go.Sort Go.Eng
set_option maxRecDepth 100000
theorem inf:∃i:TypeInfo,Tryz.prog.info? 178=some i∧i.size=2∧i.bytes=32∧i.zero=some (.agg #[.int .i64 0,.slice none 0 0]):=by
 have h:(Tryz.prog.info? 178).isSome=true:=by kernel_rfl
 obtain⟨i,hi⟩:=Option.isSome_iff_exists.1 h
 have h1:(Tryz.prog.info? 178).map (·.size)=some 2:=by kernel_rfl
 have h2:(Tryz.prog.info? 178).map (·.bytes)=some 32:=by kernel_rfl
 have h3:(Tryz.prog.info? 178).bind (·.zero)=some (.agg #[.int .i64 0,.slice none 0 0]):=by kernel_rfl
 rw[hi]at h1 h2 h3
 simp only[Option.map_some,Option.some.injEq,Option.bind_some]at h1 h2 h3
 exact⟨i,hi,h1,h2,h3⟩
theorem Fv {P:Program} (w:World) (dT sT ty elem:TypeId) (s:Nat) (b o dLen dCap:Nat) (a:Addr) (sLen sCap:Nat) (cs:List Value)
 (hu:P.underlying dT=some (.slice elem)) (hs:(P.info? elem).map (·.size)=some s) (hn:cs.length=Nat.min sLen dLen*s)
 (hsrc:∀j v,cs[j]? =some v→w.cell? (a.add j)=some v) (hc:∀j,j<cs.length→(w.cell? ⟨b,o+j,none⟩).isSome=true) (hf:∀j,j<cs.length→w.frozen? ⟨b,o+j,none⟩=false) (h1:∀v∈cs,v.oneCell' =true):
 (Builtin.copy_ #[dT,sT] ty #[.slice (some ⟨b,o,none⟩) dLen dCap,.slice (some a) sLen sCap]).run P w= .ok (goInt (Nat.min sLen dLen)) (w.setCells b o cs):=by
 have hl:=run_loadCells_list (P:=P) w a cs hsrc
 have hst:=run_storeCells_cells (P:=P) b o cs 0 w (by simpa using hc) (by simpa using hf) h1
 cases hq:P.info? elem with
 | none=>simp[hq]at hs
 | some i=>
  have hi:i.size=s:=by simpa[hq]using hs
  rw[hn]at hl
  simp[Builtin.copy_,run_underlying hu,Builtin.lenOf,Builtin.firstCells,sizeOf,typeInfo,hq,hi,hl,hst]
set_option maxHeartbeats 4000000 in
theorem At2 (b off n c i vb voff vc:Nat) (cs vs:List Value) (w:World) (hi:i<n) (hroom:n+1≤c) (hc63:c≤9223372036854775807) (hvb:vb≠b)
 (hcl:cs.length=n*2) (hvl:vs.length=2)
 (hcs:∀j v,cs[j]? =some v→w.cell? ⟨b,off+j,none⟩=some v) (hsp:∀j,j<(n+1)*2→(w.cell? ⟨b,off+j,none⟩).isSome=true) (hfz:∀j,j<(n+1)*2→w.frozen? ⟨b,off+j,none⟩=false)
 (hvs:∀j v,vs[j]? =some v→w.cell? ⟨vb,voff+j,none⟩=some v) (h1c:∀v∈cs,v.oneCell' =true) (h1v:∀v∈vs,v.oneCell' =true)
 (tA tB:TypeId) (kA kB:Nat) (hsa:w.shape? vb=some (tA,kA)) (hsb:w.shape? b=some (tB,kB)) (hkB:kB≠0) (hfa:w.frozen? ⟨vb,voff,none⟩=false) (hfe:w.frozen? ⟨vb,kA,none⟩=false):
 Calls Tryz.prog 248 #[.slice (some ⟨b,off,none⟩) n c,.int .i64 i,.slice (some ⟨vb,voff,none⟩) 1 vc] w fun e w'=>
  e= .returned (.slice (some ⟨b,off,none⟩) (n+1) c)∧w' =(w.drew.setCells b (off+(i+1)*2) (cs.drop (i*2))).setCells b (off+i*2) vs:=by
 have hz1:¬((1:Int)=0):=by omega
 have hz2:¬((i:Int)=(n:Int)):=by omega
 obtain⟨i0,hi0,hs0,hb0,hz0⟩:=inf
 have hsz:(Tryz.prog.info? 178).map (·.size)=some 2:=by rw[hi0];simp[hs0]
 have hso:∀w,(Go.sizeOf 178).run Tryz.prog w= .ok 2 w:=fun w=>by simp[Go.sizeOf,typeInfo,hi0,hs0]
 have hov:∀lb cb,(callFunc 297 #[.slice (some ⟨vb,voff,none⟩) 1 vc,.slice (some ⟨b,off+(i+1)*2,none⟩) lb cb]).run Tryz.prog w= .ok (.value (.bool false)) w:=fun lb cb=>by
  rw[run_callFunc_extern Tryz.func297 (by kernel_rfl) (by kernel_rfl) (by kernel_rfl) (e:=Extern.SlicesOverlaps.overlaps #[142,142] #[4]) (by kernel_rfl),
   Lib.run_overlaps_apart w 142 4 178 Tryz.underlying142 2 hso ⟨vb,voff,none⟩ ⟨b,off+(i+1)*2,none⟩ 1 vc lb cb hvb tA tB kA kB hsa hsb hkB hfa hfe]
  rfl
 have hdl:(cs.drop (i*2)).length=(n-i)*2:=by rw[List.length_drop,hcl];omega
 have hw1:IntKind.i64.wrap ((i:Int)+1)=(i:Int)+1:=by rw[IntKind.wrap_i64];omega
 have hb1:(0:Int)≤(i:Int)+1:=by omega
 have hin:i≤n:=by omega
 have htn:((i:Int)+1).toNat=i+1:=by omega
 have hb2:¬(c=i+1):=by omega
 have hb3:(i:Int)≤(n:Int)+1:=by omega
 have hb4:¬(c=i):=by omega
 have hb5:(i:Int)≤((n+1:Nat):Int):=by omega
 have mixed:Tryz.prog.follows .mixedOrders=true:=by kernel_rfl
 have hcp1:∀ty dc sc,(Builtin.copy_ #[142,142] ty #[.slice (some ⟨b,off+(i+1)*2,none⟩) (n-i) dc,.slice (some ⟨b,off+i*2,none⟩) (n+1-i) sc]).run Tryz.prog w.drew= .ok (goInt ((n-i:Nat):Int)) (w.drew.setCells b (off+(i+1)*2) (cs.drop (i*2))):=fun ty dc sc=>by
  have hmin:Nat.min (n+1-i) (n-i)=n-i:=by simp only[Nat.min_def];split<;>omega
  have:=Fv (P:=Tryz.prog) w.drew 142 142 ty 178 2 b (off+(i+1)*2) (n-i) dc ⟨b,off+i*2,none⟩ (n+1-i) sc (cs.drop (i*2)) Tryz.underlying142 hsz (by rw[hdl,hmin])
   (fun j v hj=>by rw[Addr.add_lit,Nat.add_assoc];exact hcs (i*2+j) v (by rwa [List.getElem?_drop]at hj))
   (fun j hj=>by rw[Nat.add_assoc];exact hsp _ (by omega)) (fun j hj=>by rw[Nat.add_assoc];exact hfz _ (by omega)) (fun v hv=>h1c v (List.mem_of_mem_drop hv))
  rw[hmin]at this
  exact this
 obtain⟨W1,hW1⟩:∃W1,W1=w.drew.setCells b (off+(i+1)*2) (cs.drop (i*2)):=⟨_,rfl⟩
 have hsp1:∀k,k<(n+1)*2→(W1.cell? ⟨b,off+k,none⟩).isSome=true:=fun k hk=>by
  rw[hW1]
  exact isSome_setCells b _ _ _ (fun j hj=>by rw[Nat.add_assoc];exact hsp _ (by omega)) _ (hsp k hk)
 have hcp2:∀(W:World),(∀x,W.cell? x=W1.cell? x)→(∀x,W.frozen? x=W1.frozen? x)→∀ty dc,(Builtin.copy_ #[142,142] ty #[.slice (some ⟨b,off+i*2,none⟩) (n+1-i) dc,.slice (some ⟨vb,voff,none⟩) 1 vc]).run Tryz.prog W= .ok (goInt 1) (W.setCells b (off+i*2) vs):=fun W hWc hWf ty dc=>by
  have hmin:Nat.min 1 (n+1-i)=1:=by simp only[Nat.min_def];split<;>omega
  have:=Fv (P:=Tryz.prog) W 142 142 ty 178 2 b (off+i*2) (n+1-i) dc ⟨vb,voff,none⟩ 1 vc vs Tryz.underlying142 hsz (by rw[hvl,hmin])
   (fun j v hj=>by
    rw[Addr.add_lit,hWc,hW1,World.cell?_setCells_out b _ _ _ _ (fun h _=>absurd h hvb)]
    exact hvs j v hj)
   (fun j hj=>by rw[hWc,Nat.add_assoc];exact hsp1 _ (by omega)) (fun j hj=>by rw[hWf,hW1,World.frozen?_setCells,Nat.add_assoc];exact hfz _ (by omega)) h1v
  rw[hmin]at this
  exact this
 rw[←hW1]at hcp1
 go_enter Tryz.func248,Tryz.ntmps248
 go_wp2_with (simp only[hov])
 go_region_law_o (refine step_copy_runI rfl _ _ 142 142 rfl _ _ (by simp[Act.eval,Act.put]) (by simp[Act.eval,Act.put]) (hcp1 _ _ _) ?_)
 go_wp2_with (at_builtin;refine wpList_copy_runI _ rfl _ _ 142 142 rfl _ _ rfl rfl (hcp2 _ (fun _=>rfl) (fun _=>rfl) _ _) ?_)
 go_ret
 first | exact⟨rfl,rfl⟩ | exact⟨rfl,by rw[hW1]⟩
set_option maxHeartbeats 4000000 in
theorem AlV (b off n c vb voff vc:Nat) (vs:List Value) (w:World) (hroom:n+1≤c) (hc63:c≤9223372036854775807) (hvl:vs.length=2)
 (hsp:∀j,j<2→(w.cell? ⟨b,off+n*2+j,none⟩).isSome=true) (hfz:∀j,j<2→w.frozen? ⟨b,off+n*2+j,none⟩=false)
 (hvs:∀j v,vs[j]? =some v→w.cell? ⟨vb,voff+j,none⟩=some v) (h1v:∀v∈vs,v.oneCell' =true):
 Calls Tryz.prog 248 #[.slice (some ⟨b,off,none⟩) n c,.int .i64 n,.slice (some ⟨vb,voff,none⟩) 1 vc] w fun e w'=>
  e= .returned (.slice (some ⟨b,off,none⟩) (n+1) c)∧w' =w.setCells b (off+n*2) vs:=by
 have hz1:¬((1:Int)=0):=by omega
 obtain⟨i0,hi0,hs0,hb0,hz0⟩:=inf
 have mixed:Tryz.prog.follows .mixedOrders=true:=by kernel_rfl
 have hsrc:Go.Src Tryz.prog i0.size 142 (.slice (some ⟨vb,voff,none⟩) 1 vc) 1 vs w:=Go.Src.ofSlice w Tryz.underlying142 ⟨vb,voff,none⟩ 1 vc vs (by omega) (fun j u hj=>by rw[Addr.add_lit];exact hvs j u hj) h1v
 have hrun:∀ty,(Builtin.append_ #[142,142] ty #[.slice (some ⟨b,off,none⟩) n c,.slice (some ⟨vb,voff,none⟩) 1 vc]).run Tryz.prog w= .ok (.slice (some ⟨b,off,none⟩) (n+1) c) (w.setCells b (off+n*2) vs):=fun ty=>by
  have:=run_append_room_src w 142 142 ty 178 i0 Tryz.underlying142 hi0 b off n c (.slice (some ⟨vb,voff,none⟩) 1 vc) 1 vs hsrc hroom (fun j hj=>by rw[hs0];exact hsp j (by omega)) (fun j hj=>by rw[hs0];exact hfz j (by omega))
  rw[hs0]at this
  exact this
 go_enter Tryz.func248,Tryz.ntmps248
 go_wp2_with (at_builtin;refine Lib.wpList_append_run _ rfl _ _ _ _ rfl _ _ rfl rfl _ _ (hrun _) ?_)
 go_ret
 exact⟨rfl,rfl⟩
set_option maxHeartbeats 4000000 in
theorem Als (base:Option Addr) (n c vb voff vc:Nat) (cs vs:List Value) (w:World) (hnc:n≤c) (hroom:c<n+1) (hbig:(n+1)*32≤140737488355328)
 (hcl:cs.length=n*2) (hvl:vs.length=2) (hnil:base=none→n=0)
 (hcs:∀a,base=some a→∀j v,cs[j]? =some v→w.cell? (a.add j)=some v)
 (hvs:∀j v,vs[j]? =some v→w.cell? ⟨vb,voff+j,none⟩=some v) (h1v:∀v∈vs,v.oneCell' =true):
 Calls Tryz.prog 248 #[.slice base n c,.int .i64 n,.slice (some ⟨vb,voff,none⟩) 1 vc] w fun e w'=>
  e= .returned (.slice (some ⟨w.heap.size,0,none⟩) (n+1) (grownCap w (n+1) c 178))∧
  w' =w.drew.alloc (.cells ((cs++vs).toArray++Builtin.zeroCells #[.int .i64 0,.slice none 0 0] (grownCap w (n+1) c 178-(n+1))) 178):=by
 have hz1:¬((1:Int)=0):=by omega
 obtain⟨i0,hi0,hs0,hb0,hz0⟩:=inf
 have mixed:Tryz.prog.follows .mixedOrders=true:=by kernel_rfl
 have hsrc:Go.Src Tryz.prog i0.size 142 (.slice (some ⟨vb,voff,none⟩) 1 vc) 1 vs w:=Go.Src.ofSlice w Tryz.underlying142 ⟨vb,voff,none⟩ 1 vc vs (by omega) (fun j u hj=>by rw[Addr.add_lit];exact hvs j u hj) h1v
 have hold:(Builtin.firstCells i0.size n (.slice base n c)).run Tryz.prog w.drew= .ok cs.toArray w.drew:=by
  rw[hs0]
  cases base with
  | none=>
   have h0:=hnil rfl
   subst h0
   have hc0:cs=[]:=List.length_eq_zero_iff.1 (by simpa using hcl)
   rw[hc0]
   exact run_firstCells_none w.drew 2 0 0 c
  | some a=>exact run_firstCells_some w.drew 2 n a n c cs (by omega) (fun j v hj=>hcs a rfl j v hj)
 have hrun:∀ty,(Builtin.append_ #[142,142] ty #[.slice base n c,.slice (some ⟨vb,voff,none⟩) 1 vc]).run Tryz.prog w=
  .ok (.slice (some ⟨w.heap.size,0,none⟩) (n+1) (grownCap w (n+1) c 178)) (w.drew.alloc (.cells ((cs++vs).toArray++Builtin.zeroCells #[.int .i64 0,.slice none 0 0] (grownCap w (n+1) c 178-(n+1))) 178)):=fun ty=>
  run_append_grow_src w 142 142 ty 178 i0 _ Tryz.underlying142 hi0 hz0 base n c cs hold _ 1 vs hsrc hroom (by omega) (by rw[hb0];exact growslice_fits hroom hbig)
 go_enter Tryz.func248,Tryz.ntmps248
 cases base with
 | none=>
  have h0:=hnil rfl
  subst h0
  go_wp2_with (at_builtin;refine Lib.wpList_append_run _ rfl _ _ _ _ rfl _ _ rfl rfl _ _ (hrun _) ?_)
  go_ret
  exact⟨rfl,rfl⟩
 | some a=>
  obtain⟨ab,ao,asp⟩:=a
  go_wp2_with (at_builtin;refine Lib.wpList_append_run _ rfl _ _ _ _ rfl _ _ rfl rfl _ _ (hrun _) ?_)
  all_goals (go_ret;exact⟨rfl,rfl⟩)
set_option maxHeartbeats 4000000 in
theorem Axa (b off n c i vb voff vc:Nat) (cs vs:List Value) (w:World) (hi:i<n) (hnc:n≤c) (hroom:c<n+1) (hbig:(n+1)*32≤140737488355328)
 (hcl:cs.length=n*2) (hvl:vs.length=2)
 (hcs:∀j v,cs[j]? =some v→w.cell? ⟨b,off+j,none⟩=some v)
 (hvs:∀j v,vs[j]? =some v→w.cell? ⟨vb,voff+j,none⟩=some v) (h1c:∀v∈cs,v.oneCell' =true) (h1v:∀v∈vs,v.oneCell' =true):
 Calls Tryz.prog 248 #[.slice (some ⟨b,off,none⟩) n c,.int .i64 i,.slice (some ⟨vb,voff,none⟩) 1 vc] w fun e w'=>
  e= .returned (.slice (some ⟨w.heap.size,0,none⟩) (n+1) (grownCap w (n+1) c 178))∧
  w' =(((w.alloc (.cells ((cs.take (i*2)).toArray++Builtin.zeroCells #[.int .i64 0,.slice none 0 0] (n+1-i)++Builtin.zeroCells #[.int .i64 0,.slice none 0 0] (grownCap w (n+1) c 178-(n+1))) 178)).drew.setCells w.heap.size (i*2) vs).drew).setCells w.heap.size ((i+1)*2) (cs.drop (i*2)):=by
 have hz1:¬((1:Int)=0):=by omega
 have hz2:¬((i:Int)=(n:Int)):=by omega
 have hz3:(c:Int)<(n:Int)+1:=by omega
 obtain⟨i0,hi0,hs0,hb0,hz0⟩:=inf
 have mixed:Tryz.prog.follows .mixedOrders=true:=by kernel_rfl
 have hsz:(Tryz.prog.info? 178).map (·.size)=some 2:=by rw[hi0];simp[hs0]
 have hbw:b<w.heap.size:=block_lt_of_cell (hcs 0 _ (List.getElem?_eq_getElem (by omega)))
 have hvw:vb<w.heap.size:=block_lt_of_cell (hvs 0 _ (List.getElem?_eq_getElem (by omega)))
 have hkk:(n:Int)+1-(i:Int)=((n+1-i:Nat):Int):=by omega
 have hik:i+(n+1-i)=n+1:=by omega
 have hold:(Builtin.firstCells i0.size i (.slice (some ⟨b,off,none⟩) i c)).run Tryz.prog w.drew= .ok (cs.take (i*2)).toArray w.drew:=by
  rw[hs0]
  exact run_firstCells_some w.drew 2 i ⟨b,off,none⟩ i c (cs.take (i*2)) (by rw[List.length_take];omega) (fun j v hj=>by
   rw[Addr.add_lit]
   rw[List.getElem?_take]at hj
   split at hj
   ·exact hcs j v hj
   ·cases hj)
 have hrz:∀ty,(Builtin.append_ #[142,3] ty #[.slice (some ⟨b,off,none⟩) i c,.int .i64 ((n:Int)+1-(i:Int))]).run Tryz.prog w=
  .ok (.slice (some ⟨w.heap.size,0,none⟩) (n+1) (grownCap w (n+1) c 178)) (w.drew.alloc (.cells ((cs.take (i*2)).toArray++Builtin.zeroCells #[.int .i64 0,.slice none 0 0] (n+1-i)++Builtin.zeroCells #[.int .i64 0,.slice none 0 0] (grownCap w (n+1) c 178-(n+1))) 178)):=fun ty=>by
  have h:=Lib.run_append_grow_zeros w 142 3 ty 178 i0 _ .i64 .i64 Tryz.underlying142 Tryz.underlying3 hi0 hz0 (some ⟨b,off,none⟩) i c (cs.take (i*2)) hold (n+1-i) (by omega) (by omega) (by omega) (by omega) (by rw[hb0];omega) (by rw[hb0,hik];exact growslice_fits hroom hbig)
  rw[hik]at h
  rw[hkk]
  exact h
 obtain⟨G,hG⟩:∃G,G=grownCap w (n+1) c 178:=⟨_,rfl⟩
 obtain⟨ROW,hROW⟩:∃ROW:Array Value,ROW=(cs.take (i*2)).toArray++Builtin.zeroCells #[.int .i64 0,.slice none 0 0] (n+1-i)++Builtin.zeroCells #[.int .i64 0,.slice none 0 0] (G-(n+1)):=⟨_,rfl⟩
 rw[←hG]at hrz⊢
 rw[←hROW]at hrz⊢
 have hRl:(n+1)*2≤ROW.size:=by
  rw[hROW]
  simp[Builtin.zeroCells]
  omega
 obtain⟨W1,hW1⟩:∃W1,W1=w.drew.alloc (.cells ROW 178):=⟨_,rfl⟩
 rw[←hW1]at hrz
 have hN:∀j,j<(n+1)*2→(W1.cell? ⟨w.heap.size,j,none⟩).isSome=true:=fun j hj=>by
  rw[hW1,World.cell?_alloc_at (w:=w.drew) ROW _ w.heap.size j rfl,Array.getElem?_eq_getElem (by omega)];rfl
 have hNf:∀j,W1.frozen? ⟨w.heap.size,j,none⟩=false:=fun j=>by rw[hW1];exact World.frozen?_alloc_at (w:=w.drew) ROW _ w.heap.size j rfl
 have hOb:∀j v,w.cell? ⟨b,j,none⟩=some v→W1.cell? ⟨b,j,none⟩=some v:=fun j v h=>by rw[hW1,World.cell?_alloc_past (w:=w.drew) _ b j hbw];exact h
 have hOv:∀j v,w.cell? ⟨vb,j,none⟩=some v→W1.cell? ⟨vb,j,none⟩=some v:=fun j v h=>by rw[hW1,World.cell?_alloc_past (w:=w.drew) _ vb j hvw];exact h
 have hcpA:∀(W:World),(∀x,W.cell? x=W1.cell? x)→(∀x,W.frozen? x=W1.frozen? x)→∀ty dc,(Builtin.copy_ #[142,142] ty #[.slice (some ⟨w.heap.size,i*2,none⟩) (n+1-i) dc,.slice (some ⟨vb,voff,none⟩) 1 vc]).run Tryz.prog W= .ok (goInt 1) (W.setCells w.heap.size (i*2) vs):=fun W hWc hWf ty dc=>by
  have hmin:Nat.min 1 (n+1-i)=1:=by simp only[Nat.min_def];split<;>omega
  have:=Fv (P:=Tryz.prog) W 142 142 ty 178 2 w.heap.size (i*2) (n+1-i) dc ⟨vb,voff,none⟩ 1 vc vs Tryz.underlying142 hsz (by rw[hvl,hmin])
   (fun j v hj=>by rw[Addr.add_lit,hWc];exact hOv _ v (hvs j v hj))
   (fun j hj=>by rw[hWc];exact hN _ (by omega)) (fun j hj=>by rw[hWf];exact hNf _) h1v
  rw[hmin]at this
  exact this
 have hGn:n+1≤G:=by rw[hG];exact grownCap_ge w _ _ _
 have hG63:G≤9223372036854775807:=by
  have:=grownCap_le_maxLen w (n+1) c 178 (by unfold maxLen;omega)
  rw[←hG]at this
  unfold maxLen at this
  omega
 have hGi:¬(G=i):=by omega
 have hGim:¬(G=i+1):=by omega
 have hci:¬(c=i):=by omega
 have hbN:b≠w.heap.size:=by omega
 have hdl:(cs.drop (i*2)).length=(n-i)*2:=by rw[List.length_drop,hcl];omega
 have hcpB:∀(W:World),(∀x,W.cell? x=(W1.setCells w.heap.size (i*2) vs).cell? x)→(∀x,W.frozen? x=(W1.setCells w.heap.size (i*2) vs).frozen? x)→∀ty dc sc,(Builtin.copy_ #[142,142] ty #[.slice (some ⟨w.heap.size,(i+1)*2,none⟩) (n-i) dc,.slice (some ⟨b,off+i*2,none⟩) (n-i) sc]).run Tryz.prog W= .ok (goInt ((n-i:Nat):Int)) (W.setCells w.heap.size ((i+1)*2) (cs.drop (i*2))):=fun W hWc hWf ty dc sc=>by
  have hmin:Nat.min (n-i) (n-i)=n-i:=by simp only[Nat.min_def];split<;>omega
  have:=Fv (P:=Tryz.prog) W 142 142 ty 178 2 w.heap.size ((i+1)*2) (n-i) dc ⟨b,off+i*2,none⟩ (n-i) sc (cs.drop (i*2)) Tryz.underlying142 hsz (by rw[hdl,hmin])
   (fun j v hj=>by
    rw[Addr.add_lit,hWc,World.cell?_setCells_out _ _ _ _ _ (fun h _=>absurd h hbN),Nat.add_assoc]
    exact hOb _ v (hcs (i*2+j) v (by rwa [List.getElem?_drop]at hj)))
   (fun j hj=>by rw[hWc];exact isSome_setCells _ _ _ _ (fun t ht=>hN _ (by omega)) _ (hN _ (by omega)))
   (fun j hj=>by rw[hWf,World.frozen?_setCells];exact hNf _) (fun v hv=>h1c v (List.mem_of_mem_drop hv))
  rw[hmin]at this
  exact this
 subst hW1
 have hE1:∀x,((w.alloc (.cells ROW 178)).drew).cell? x=(w.drew.alloc (.cells ROW 178)).cell? x:=fun x=>rfl
 have hE2:∀x,((w.alloc (.cells ROW 178)).drew).frozen? x=(w.drew.alloc (.cells ROW 178)).frozen? x:=fun x=>rfl
 have hF1:∀x,(((w.alloc (.cells ROW 178)).drew.setCells w.heap.size (i*2) vs).drew).cell? x=((w.drew.alloc (.cells ROW 178)).setCells w.heap.size (i*2) vs).cell? x:=fun x=>rfl
 have hF2:∀x,(((w.alloc (.cells ROW 178)).drew.setCells w.heap.size (i*2) vs).drew).frozen? x=((w.drew.alloc (.cells ROW 178)).setCells w.heap.size (i*2) vs).frozen? x:=fun x=>rfl
 have hw1:IntKind.i64.wrap ((i:Int)+1)=(i:Int)+1:=by rw[IntKind.wrap_i64];omega
 have hb1:(0:Int)≤(i:Int)+1:=by omega
 have hin:i≤n:=by omega
 have htn:((i:Int)+1).toNat=i+1:=by omega
 have hb3:(i:Int)≤(n:Int):=by omega
 clear hkk hik hold hROW hG hRl
 go_enter Tryz.func248,Tryz.ntmps248
 go_wp2_with (first
  | (at_builtin;refine Lib.wpList_append_run _ rfl _ _ _ _ rfl _ _ rfl rfl _ _ (hrz _) ?_)
  | (at_builtin;refine wpList_copy_runI _ rfl _ _ 142 142 rfl _ _ rfl rfl (hcpA _ hE1 hE2 _ _) ?_)
  | (at_builtin;refine wpList_copy_runI _ rfl _ _ 142 142 rfl _ _ rfl rfl (hcpB _ (fun _=>rfl) (fun _=>rfl) _ _ _) ?_))
 go_region_law_o (refine step_copy_runI rfl _ _ 142 142 rfl (.slice (some ⟨w.heap.size,(i+1)*2,none⟩) (n-i) (G-(i+1))) (.slice (some ⟨b,off+i*2,none⟩) (n-i) (c-i)) (by simp[Act.eval,Act.put]) (by simp[Act.eval,Act.put]) (hcpB _ hF1 hF2 3 (G-(i+1)) (c-i)) ?_)
 go_wp2
 go_ret
 exact⟨rfl,rfl⟩
theorem Aa4 {l d:List Value} {off i n:Nat} (hi:i≤l.length) (hn:l.length+d.length≤n) (c:Array Value) (hc:off+n≤c.size) (hl:∀j,j<i→c[off+j]? =l[j]?) (j:Nat) (hj:j<l.length+d.length):
 (JA (off+i) d (JA (off+i+d.length) (l.drop i) c))[off+j]? =(l.take i++d++l.drop i)[j]? :=by
 have ht:(l.take i).length=i:=by simp;omega
 by_cases h1:j<i
 ·rw[Gq _ _ _ _ (.inl (by omega)),Gq _ _ _ _ (.inl (by omega)),hl j h1,List.append_assoc,List.getElem?_append_left (by omega),List.getElem?_take,if_pos h1]
 ·by_cases h2:j<i+d.length
  ·have:=Ph d (off+i) (j-i) (JA (off+i+d.length) (l.drop i) c) (by omega) (by rw[E9];omega)
   rw[show off+i+(j-i)=off+j by omega]at this
   rw[this,List.append_assoc,List.getElem?_append_right (by omega),List.getElem?_append_left (by omega),ht]
  ·rw[Gq _ _ _ _ (.inr (by omega))]
   have:=Ph (l.drop i) (off+i+d.length) (j-i-d.length) c (by simp;omega) (by simp;omega)
   rw[show off+i+d.length+(j-i-d.length)=off+j by omega]at this
   rw[this,List.append_assoc,List.getElem?_append_right (by omega),List.getElem?_append_right (by omega),ht]
theorem Zy {l d:List Value} {i:Nat} (h1:EM l) (h2:EM d):EM (l.take i++d++l.drop i):=by
 intro v hv
 rcases List.mem_append.1 hv with hv | hv
 ·rcases List.mem_append.1 hv with hv | hv
  ·exact h1 v (List.mem_of_mem_take hv)
  ·exact h2 v hv
 ·exact h1 v (List.mem_of_mem_drop hv)
theorem ADk:ABn Tryz.prog 248:=by
 intro a n cap i vb vo vc vs ds w hi hn hcap hvl hdl hm hV hvc
 have hds:∀j x,ds[j]? =some x→w.cell? ⟨vb,vo+j,none⟩=some x:=fun j x hj=>AnC hV hj
 have hdo:EM ds:=hV.1
 have hgc:=UO w (n+1) cap 178
 have hgb:=TQ w (n+1) cap 178 (by omega)
 have hlen:(vs.take (i*2)++ds++vs.drop (i*2)).length=(n+1)*2:=by simp[hvl,hdl];omega
 have zc:∀k,(Builtin.zeroCells #[Value.int .i64 0,.slice none 0 0] k).size=k*2:=fun k=>by simp[Builtin.zeroCells]
 have endGrow:cap<n+1→i=n→EM vs→(∀a0,a=some a0→∀j x,vs[j]? =some x→w.cell? (a0.add j)=some x)→(a=none→n=0)→_:=fun hc hin ho hcells hnil=>
  (Als a n cap vb vo vc vs ds w hcap.1 hc (by omega) hvl hdl hnil hcells hds hdo).mono
   (R':=fun e w'=>∃b' o' cap',e= .returned (.slice (some ⟨b',o',none⟩) (n+1) cap')∧(n+1≤cap'∧cap'≤9223372036854775807)∧
    Has w' b' o' (vs.take (i*2)++ds++vs.drop (i*2)) (cap'*2)∧(w.heap.size≤b'∨∃o,a=some ⟨b',o,none⟩∧cap≠0)∧
    w.heap.size≤w'.heap.size∧w'.os=w.os∧w'.tape=w.tape∧w'.output=w.output∧∀b,b<w.heap.size→b≠b'→w'.heap[b]? =w.heap[b]?)
   fun e w' ⟨he,hw⟩=>by
    subst hw
    refine⟨_,_,_,he,⟨hgc,hgb⟩,⟨Zy ho hdo,_,178,alloc_at w.drew _,?_,by rw[hlen];exact Nat.mul_le_mul_right _ hgc,fun j hj=> ?_⟩,.inl (Nat.le_refl _),by rw[Mj];simp,rfl,rfl,rfl,fun b hb _=>R3 w.drew _ hb⟩
    ·simp[zc,hvl,hdl];omega
    ·rw[hlen]at hj
     have e1:vs.take (i*2)=vs:=List.take_of_length_le (by omega)
     have e2:vs.drop (i*2)=[]:=List.drop_eq_nil_of_le (by omega)
     rw[Nat.zero_add,e1,e2,List.append_nil,Array.getElem?_append,if_pos (by simp[hvl,hdl];omega)]
     simp
 rcases hm with hm | ⟨b,o,rfl,hhas,hbne⟩
 ·subst hm
  obtain rfl:n=0:=by omega
  obtain rfl:i=0:=by omega
  have hv0:vs=[]:=List.length_eq_zero_iff.1 (by omega)
  subst hv0
  exact endGrow (by omega) rfl (fun v hv=>by cases hv) (fun a0 _ j x hj=>by simp at hj) (fun _=>rfl)
 ·have ho:EM vs:=hhas.1
  have hcs:∀j x,vs[j]? =some x→w.cell? ⟨b,o+j,none⟩=some x:=fun j x hj=>AnC hhas hj
  have hbl:=Rj hhas
  have keep:∀(f:Array Value→Array Value) (W:World),W.heap=w.heap→∀b2,b2<w.heap.size→b2≠b→(mapBlock W b f).heap[b2]? =w.heap[b2]? :=fun f W hW b2 _ h2=>by rw[YU _ _ h2,hW]
  by_cases hroom:n+1≤cap
  ·by_cases hin:i=n
   ·subst hin
    refine(AlV b o i cap vb vo vc ds w hroom hcap.2 hdl (fun j hj=> ?_) (fun j _=>ZK hhas _) hds hdo).mono fun e w' ⟨he,hw⟩=> ?_
    ·have:=An6 hhas (j:=i*2+j) (by omega)
     rwa [←Nat.add_assoc]at this
    ·rw[DW]at hw
     subst hw
     refine⟨b,o,cap,he,⟨hroom,hcap.2⟩,?_,.inr ⟨o,rfl,by omega⟩,by rw[P6];exact Nat.le_refl _,rfl,rfl,rfl,fun b2 h1 h2=>keep _ w rfl b2 h1 h2⟩
     refine Aq8 hhas (Xx _ _ _) (E9 _ _) (fun c h1 h2 j hj=> ?_) (Zy ho hdo) (by rw[hlen];omega)
     have:=Aa4 (l:=vs) (d:=ds) (off:=o) (i:=i*2) (n:=cap*2) (by omega) (by omega) c h1 (fun j hj=>h2 j (by omega)) j (by rw[hlen]at hj;omega)
     have e2:vs.drop (i*2)=[]:=List.drop_eq_nil_of_le (by omega)
     rw[e2]at this⊢
     exact this
   ·obtain⟨tA,kA,hsa,_⟩:=Aj9 hV
    obtain⟨tB,kB,hsb,hkB⟩:=Aj9 hhas
    refine(At2 b o n cap i vb vo vc vs ds w (by omega) hroom hcap.2 (Ne.symm hbne) hvl hdl hcs (fun j hj=>An6 hhas (by omega)) (fun j _=>ZK hhas _) hds ho hdo tA tB kA kB hsa hsb (by omega) (ZK hV _) (ZK hV _)).mono fun e w' ⟨he,hw⟩=> ?_
    rw[DW,DW,mapBlock_mapBlock]at hw
    subst hw
    refine⟨b,o,cap,he,⟨hroom,hcap.2⟩,?_,.inr ⟨o,rfl,by omega⟩,by rw[P6];exact Nat.le_refl _,rfl,rfl,rfl,fun b2 h1 h2=>keep _ w.drew rfl b2 h1 h2⟩
    refine Aq8 hhas (Xx _ _ _) (fun c=>by rw[E9,E9]) (fun c h1 h2 j hj=> ?_) (Zy ho hdo) (by rw[hlen];omega)
    have:=Aa4 (l:=vs) (d:=ds) (off:=o) (i:=i*2) (n:=cap*2) (by omega) (by omega) c h1 (fun j hj=>h2 j (by omega)) j (by rw[hlen]at hj;omega)
    rw[hdl,show o+i*2+2=o+(i+1)*2 by omega]at this
    exact this
  ·by_cases hin:i=n
   ·rw[hin]
    rw[hin]at endGrow
    refine endGrow (by omega) rfl ho (fun a0 ha j x hj=> ?_) (fun h=>by cases h)
    cases ha
    rw[Addr.add_lit]
    exact hcs j x hj
   ·refine(Axa b o n cap i vb vo vc vs ds w (by omega) hcap.1 (by omega) (by omega) hvl hdl hcs hds ho hdo).mono fun e w' ⟨he,hw⟩=> ?_
    rw[DW,DW]at hw
    have hsz:w'.heap.size=w.heap.size+1:=by
     rw[hw,P6];simp only[World.drew];rw[P6,Mj]
    have hoff:∀b',b' <w.heap.size→w'.heap[b']? =w.heap[b']? :=by
     intro b' hb'
     rw[hw,YU _ _ (by omega)]
     simp only[World.drew]
     rw[YU _ _ (by omega)]
     exact R3 w _ hb'
    refine⟨w.heap.size,0,_,he,⟨hgc,hgb⟩,?_,.inl (Nat.le_refl _),by omega,by rw[hw];rfl,by rw[hw];rfl,by rw[hw];rfl,fun b' hb' _=>hoff b' hb'⟩
    obtain⟨R0,hR0⟩:∃R0:Array Value,R0=(vs.take (i*2)).toArray++Builtin.zeroCells #[.int .i64 0,.slice none 0 0] (n+1-i)++Builtin.zeroCells #[.int .i64 0,.slice none 0 0] (grownCap w (n+1) cap 178-(n+1)):=⟨_,rfl⟩
    have hR0s:R0.size=grownCap w (n+1) cap 178*2:=by rw[hR0];simp[zc,hvl];omega
    have hat:w'.heap[w.heap.size]? =some (.cells (JA ((i+1)*2) (vs.drop (i*2)) (JA (i*2) ds R0)) 178 (0,0)):=by
     rw[hw,Xx]
     simp only[World.drew]
     rw[Xx]
     simp only[]
     rw[alloc_at,←hR0]
     rfl
    refine⟨Zy ho hdo,_,178,hat,?_,by rw[hlen];exact Nat.mul_le_mul_right _ hgc,fun j hj=> ?_⟩
    ·rw[E9,E9,hR0s];omega
    ·rw[hlen]at hj
     have hg2:(n+1)*2≤grownCap w (n+1) cap 178*2:=Nat.mul_le_mul_right _ hgc
     have ht:(vs.take (i*2)).length=i*2:=by simp;omega
     rw[Nat.zero_add]
     by_cases q1:j<i*2
     ·rw[Gq _ _ _ _ (.inl (by omega)),Gq _ _ _ _ (.inl q1),hR0,List.append_assoc,List.getElem?_append_left (by omega),Array.getElem?_append,if_pos (by simp[zc,hvl];omega),Array.getElem?_append,if_pos (by simp;omega)]
      simp
     ·by_cases q2:j<i*2+2
      ·rw[Gq _ _ _ _ (.inl (by omega))]
       have:=Ph ds (i*2) (j-i*2) R0 (by omega) (by omega)
       rw[show i*2+(j-i*2)=j by omega]at this
       rw[this,List.append_assoc,List.getElem?_append_right (by omega),List.getElem?_append_left (by omega),ht]
      ·have:=Ph (vs.drop (i*2)) ((i+1)*2) (j-(i+1)*2) (JA (i*2) ds R0) (by simp;omega) (by rw[E9];simp;omega)
       rw[show(i+1)*2+(j-(i+1)*2)=j by omega]at this
       rw[this,List.append_assoc,List.getElem?_append_right (by omega),List.getElem?_append_right (by omega),ht,hdl]
       congr 1;omega
end Go.Eng.Ins
namespace Go.Eng.Ins
open Go Go.Proofs Go.Shelf Go.RowKit Go.Lib Go.Sort Go.Eng
set_option maxRecDepth 100000
theorem mk2 (w:World):(Instr.makeSlice 24 (.int .i64 2) (.int .i64 2)).run Tryz.prog w= .ok (.slice (some ⟨w.heap.size,0,none⟩) 2 2) (w.alloc (.cells #[.int .i64 0,.int .i64 0] 3)):=by kernel_rfl
theorem mk1 (w:World):(Instr.makeSlice 24 (.int .i64 1) (.int .i64 1)).run Tryz.prog w= .ok (.slice (some ⟨w.heap.size,0,none⟩) 1 1) (w.alloc (.cells #[.int .i64 0] 3)):=by kernel_rfl
theorem mk0 (w:World):(Instr.makeSlice 24 (.int .i64 0) (.int .i64 0)).run Tryz.prog w= .ok (.slice (some ⟨w.heap.size,0,none⟩) 0 0) (w.alloc (.cells #[] 3)):=by kernel_rfl
theorem siz:(Tryz.prog.info? 3).map (·.size)=some 1:=by kernel_rfl
set_option maxHeartbeats 4000000 in
theorem ADl (b o cap:Nat) (v:Int) (w:World) (hv:w.cell? ⟨b,o,none⟩=some (.int .i64 v)):
 Calls Tryz.prog 246 #[.slice (some ⟨b,o,none⟩) 1 cap,.int .i64 2] w fun e w'=>e= .returned (.slice (some ⟨w.heap.size,0,none⟩) 2 2)∧w' =(((w.alloc (.cells #[.int .i64 0,.int .i64 0] 3)).setCells w.heap.size 0 [.int .i64 v]).drew).setCells w.heap.size 1 [.int .i64 v]:=by
 have mixed:Tryz.prog.follows .mixedOrders=true:=by kernel_rfl
 have hbw:b<w.heap.size:=block_lt_of_cell hv
 obtain⟨W1,hW1⟩:∃W1,W1=w.alloc (.cells #[.int .i64 0,.int .i64 0] 3):=⟨_,rfl⟩
 have hN:∀j,j<2→(W1.cell? ⟨w.heap.size,j,none⟩).isSome=true:=fun j hj=>by
  rw[hW1,World.cell?_alloc_at (w:=w) _ _ w.heap.size j rfl,Array.getElem?_eq_getElem (by simpa using hj)];rfl
 have hNf:∀j,W1.frozen? ⟨w.heap.size,j,none⟩=false:=fun j=>by rw[hW1];exact World.frozen?_alloc_at (w:=w) _ _ w.heap.size j rfl
 have hOv:W1.cell? ⟨b,o,none⟩=some (.int .i64 v):=by rw[hW1,World.cell?_alloc_past (w:=w) _ b o hbw];exact hv
 have hcA:∀ty,(Builtin.copy_ #[24,24] ty #[.slice (some ⟨w.heap.size,0,none⟩) 2 2,.slice (some ⟨b,o,none⟩) 1 cap]).run Tryz.prog W1= .ok (goInt 1) (W1.setCells w.heap.size 0 [.int .i64 v]):=fun ty=>by
  have:=Fv (P:=Tryz.prog) W1 24 24 ty 3 1 w.heap.size 0 2 2 ⟨b,o,none⟩ 1 cap [.int .i64 v] Tryz.underlying24 siz rfl
   (fun j x hj=>by
    match j,hj with
    | 0,hj=>simp at hj;subst hj;rw[Addr.add_lit];exact hOv
    | j+1,hj=>simp at hj)
   (fun j hj=>by rw[Nat.zero_add];simp at hj;exact hN j (by omega)) (fun j hj=>by rw[Nat.zero_add];exact hNf j) (by simp[Value.oneCell'])
  exact this
 obtain⟨W2,hW2⟩:∃W2,W2=W1.setCells w.heap.size 0 [.int .i64 v]:=⟨_,rfl⟩
 rw[←hW2]at hcA
 have hcB:∀ty dc sc,(Builtin.copy_ #[24,24] ty #[.slice (some ⟨w.heap.size,1,none⟩) 1 dc,.slice (some ⟨w.heap.size,0,none⟩) 1 sc]).run Tryz.prog W2.drew= .ok (goInt 1) (W2.drew.setCells w.heap.size 1 [.int .i64 v]):=fun ty dc sc=>by
  have:=Fv (P:=Tryz.prog) W2.drew 24 24 ty 3 1 w.heap.size 1 1 dc ⟨w.heap.size,0,none⟩ 1 sc [.int .i64 v] Tryz.underlying24 siz rfl
   (fun j x hj=>by
    match j,hj with
    | 0,hj=>
     simp at hj;subst hj;rw[Addr.add_lit]
     have:=World.cell?_setCells_in w.heap.size [Value.int .i64 v] 0 W1 (fun j hj=>by rw[Nat.zero_add];simp at hj;exact hN j (by omega)) 0 (by simp)
     rw[←hW2]at this
     simpa using this
    | j+1,hj=>simp at hj)
   (fun j hj=>by
    simp at hj;subst hj
    show(W2.cell? _).isSome=true
    rw[hW2]
    exact isSome_setCells _ _ _ _ (fun j hj=>by rw[Nat.zero_add];simp at hj;exact hN j (by omega)) _ (hN 1 (by omega))) (fun j hj=>by
    show W2.frozen? _=false
    rw[hW2,World.frozen?_setCells];exact hNf _) (by simp[Value.oneCell'])
  exact this
 subst hW2
 subst hW1
 clear hN hNf hOv
 go_enter Tryz.func246,Tryz.ntmps246
 go_wp2_with (first
  | go_in
  | (simp only[mk2])
  | (at_builtin;refine wpList_copy_runI _ rfl _ _ 24 24 rfl _ _ rfl rfl (hcA _) ?_))
 refine wp_loop_rounds 2 ?_
 simp only[Code.rounds]
 go_wp2
 go_region_law_o (refine step_copy_runI rfl _ _ 24 24 rfl _ _ (by simp[Act.eval,Act.put]) (by simp[Act.eval,Act.put]) (hcB _ _ _) ?_)
 go_wp2
 go_ret
 exact⟨rfl,rfl⟩
set_option maxHeartbeats 4000000 in
theorem ADr (b o cap:Nat) (v:Int) (w:World) (hv:w.cell? ⟨b,o,none⟩=some (.int .i64 v)):
 Calls Tryz.prog 246 #[.slice (some ⟨b,o,none⟩) 1 cap,.int .i64 1] w fun e w'=>e= .returned (.slice (some ⟨w.heap.size,0,none⟩) 1 1)∧w' =(w.alloc (.cells #[.int .i64 0] 3)).setCells w.heap.size 0 [.int .i64 v]:=by
 have mixed:Tryz.prog.follows .mixedOrders=true:=by kernel_rfl
 have hbw:b<w.heap.size:=block_lt_of_cell hv
 have hcA:∀ty,(Builtin.copy_ #[24,24] ty #[.slice (some ⟨w.heap.size,0,none⟩) 1 1,.slice (some ⟨b,o,none⟩) 1 cap]).run Tryz.prog (w.alloc (.cells #[.int .i64 0] 3))= .ok (goInt 1) ((w.alloc (.cells #[.int .i64 0] 3)).setCells w.heap.size 0 [.int .i64 v]):=fun ty=>by
  have:=Fv (P:=Tryz.prog) (w.alloc (.cells #[.int .i64 0] 3)) 24 24 ty 3 1 w.heap.size 0 1 1 ⟨b,o,none⟩ 1 cap [.int .i64 v] Tryz.underlying24 siz rfl
   (fun j x hj=>by
    match j,hj with
    | 0,hj=>simp at hj;subst hj;rw[Addr.add_lit,World.cell?_alloc_past (w:=w) _ b _ hbw];exact hv
    | j+1,hj=>simp at hj)
   (fun j hj=>by rw[Nat.zero_add];simp at hj;subst hj;rw[World.cell?_alloc_at (w:=w) _ _ w.heap.size 0 rfl];rfl) (fun j hj=>by exact World.frozen?_alloc_at (w:=w) _ _ w.heap.size _ rfl) (by simp[Value.oneCell'])
  exact this
 go_enter Tryz.func246,Tryz.ntmps246
 go_wp2_with (first
  | go_in
  | (simp only[mk1])
  | (at_builtin;refine wpList_copy_runI _ rfl _ _ 24 24 rfl _ _ rfl rfl (hcA _) ?_))
 refine wp_loop_rounds 1 ?_
 simp only[Code.rounds]
 go_wp2
 go_ret
 exact⟨rfl,rfl⟩
set_option maxHeartbeats 4000000 in
theorem ADp (b o cap:Nat) (w:World):
 Calls Tryz.prog 246 #[.slice (some ⟨b,o,none⟩) 1 cap,.int .i64 0] w fun e w'=>e= .returned (.slice (some ⟨w.heap.size,0,none⟩) 0 0)∧w' =w.alloc (.cells #[] 3):=by
 have mixed:Tryz.prog.follows .mixedOrders=true:=by kernel_rfl
 have hcA:∀ty,(Builtin.copy_ #[24,24] ty #[.slice (some ⟨w.heap.size,0,none⟩) 0 0,.slice (some ⟨b,o,none⟩) 1 cap]).run Tryz.prog (w.alloc (.cells #[] 3))= .ok (goInt 0) (w.alloc (.cells #[] 3)):=fun ty=>by
  have:=Fv (P:=Tryz.prog) (w.alloc (.cells #[] 3)) 24 24 ty 3 1 w.heap.size 0 0 0 ⟨b,o,none⟩ 1 cap [] Tryz.underlying24 siz rfl
   (fun j x hj=>by simp at hj) (fun j hj=>by simp at hj) (fun j hj=>by simp at hj) (by simp)
  exact this
 go_enter Tryz.func246,Tryz.ntmps246
 go_wp2_with (first
  | go_in
  | (simp only[mk0])
  | (at_builtin;refine wpList_copy_runI _ rfl _ _ 24 24 rfl _ _ rfl rfl (hcA _) ?_))
 refine wp_loop_rounds 1 ?_
 simp only[Code.rounds]
 go_wp2
 go_ret
 exact⟨rfl,rfl⟩
theorem ADo:∃i:TypeInfo,Tryz.prog.info? 3=some i∧i.size=1∧i.bytes=8∧i.zero=some (.int .i64 0):=by
 have h:(Tryz.prog.info? 3).isSome=true:=by kernel_rfl
 obtain⟨i,hi⟩:=Option.isSome_iff_exists.1 h
 have h1:(Tryz.prog.info? 3).map (·.size)=some 1:=by kernel_rfl
 have h2:(Tryz.prog.info? 3).map (·.bytes)=some 8:=by kernel_rfl
 have h3:(Tryz.prog.info? 3).bind (·.zero)=some (.int .i64 0):=by kernel_rfl
 rw[hi]at h1 h2 h3
 simp only[Option.map_some,Option.some.injEq,Option.bind_some]at h1 h2 h3
 exact⟨i,hi,h1,h2,h3⟩
set_option maxHeartbeats 4000000 in
theorem ACz (w:World):Calls Tryz.prog 341 #[.slice none 0 0,.int .i64 0] w fun e w'=>e= .returned (.slice none 0 0)∧w' =w:=by
 have mixed:Tryz.prog.follows .mixedOrders=true:=by kernel_rfl
 go_enter Tryz.func341,Tryz.ntmps341
 go_wp2
 go_ret
 exact⟨rfl,rfl⟩
set_option maxHeartbeats 4000000 in
theorem ACH (n:Nat) (w:World) (h0:0<n) (hn:n≤16777216):Calls Tryz.prog 341 #[.slice none 0 0,.int .i64 n] w fun e w'=>e= .returned (.slice (some ⟨w.heap.size,0,none⟩) 0 (grownCap w n 0 3))∧
 w' =w.drew.alloc (.cells (([]:List Value).toArray++Builtin.zeroCells #[.int .i64 0] n++Builtin.zeroCells #[.int .i64 0] (grownCap w n 0 3-n)) 3):=by
 have mixed:Tryz.prog.follows .mixedOrders=true:=by kernel_rfl
 obtain⟨i0,hi0,hs0,hb0,hz0⟩:=ADo
 have h1:¬((n:Int)<0):=by omega
 have h3:wrap64 ((n:Int)-((0:Int)-(0:Int)))=(n:Int):=by unfold wrap64;omega
 have h3':wrap64 ((n:Int)-(0:Int))=(n:Int):=by unfold wrap64;omega
 have h4:(n:Int)>0:=by omega
 have hold:(Builtin.firstCells i0.size 0 (.slice none 0 0)).run Tryz.prog w.drew= .ok ([]:List Value).toArray w.drew:=run_firstCells_none w.drew i0.size 0 0 0
 have hrz:∀ty,(Builtin.append_ #[24,3] ty #[.slice none 0 0,.int .i64 (n:Int)]).run Tryz.prog w=
  .ok (.slice (some ⟨w.heap.size,0,none⟩) n (grownCap w n 0 3)) (w.drew.alloc (.cells (([]:List Value).toArray++Builtin.zeroCells #[.int .i64 0] n++Builtin.zeroCells #[.int .i64 0] (grownCap w n 0 3-n)) 3)):=fun ty=>by
  have h:=Lib.run_append_grow_zeros w 24 3 ty 3 i0 _ .i64 .i64 Tryz.underlying24 Tryz.underlying3 hi0 hz0 none 0 0 [] hold n (by omega) (by omega) (by omega) (by omega) (by rw[hb0];omega) (by rw[hb0];exact growslice_fits (by omega) (by omega))
  simp only[Nat.zero_add]at h
  exact h
 have hGn:n≤grownCap w n 0 3:=grownCap_ge w _ _ _
 obtain⟨G,hG⟩:∃G,G=grownCap w n 0 3:=⟨_,rfl⟩
 rw[←hG]at hrz hGn⊢
 have hG63:G≤9223372036854775807:=by
  have:=grownCap_le_maxLen w n 0 3 (by unfold maxLen;omega)
  rw[←hG]at this
  unfold maxLen at this
  omega
 clear hold hG
 go_enter Tryz.func341,Tryz.ntmps341
 go_wp2_with (at_builtin;refine Lib.wpList_append_run _ rfl _ _ _ _ rfl _ _ rfl rfl _ _ (hrz _) ?_)
 all_goals (go_ret;exact⟨rfl,rfl⟩)
end Go.Eng.Ins
