/- Own work: part 17 of the proof of FnExactConsoleLine. -/
import Derived.Test.YtogmkdgkgfhhoaaGreatDoorEEngAL
import Derived.Test.YtogmkdgkgfhhoaaGreatDoorEP13
import Derived.Test.YtogmkdgkgfhhoaaGreatDoorEP14
import Derived.Test.YtogmkdgkgfhhoaaGreatDoorEP15
import Derived.Test.YtogmkdgkgfhhoaaGreatDoorEP16
set_option linter.unusedSimpArgs false
set_option linter.unusedVariables false
namespace Go.Eng.T
set_option maxRecDepth 20000
set_option maxHeartbeats 1000000
def Wh (p q:Int):Int:=if NJ q 1 1000000000000 then(p.tmod q+q).tmod q else 0
variable (R:Rel)
abbrev AnK:Prop:=∀p q:Int,R [I p,I q] [] (I (Wh p q)) []
theorem AjY (p:Int) {q:Int} (h:1<=q):-q<p.tmod q/\p.tmod q<q:=by
 have h1:=Int.tmod_lt_of_pos p (show 0<q by omega)
 have h2:=Int.lt_tmod_of_pos p (show 0<q by omega)
 omega
variable (D:Dn)
theorem Aqz (hI:Vf (D 71)):AnK (Body D Xp):=by
 intro p q
 simp -implicitDefEqProofs
 refine Aa (hI _ _ _) ?_
 by_cases h:NJ q 1 1000000000000
 rotate_left
 ·simp -implicitDefEqProofs [h,Wh]
 have h0:¬q=0:=by omega
 have hb:=AjY p (q:=q) (by omega)
 have hw:IntKind.i64.wrap (p.tmod q+q)=p.tmod q+q:=Ad (by omega) (by omega)
 have e:Wh p q=(p.tmod q+q).tmod q:=by unfold Wh;rw[if_pos h]
 simp -implicitDefEqProofs [h,h0,hw,e]
theorem ALf (hI:Vf (D 114)):AnK (Body D ABX):=by
 intro p q
 simp -implicitDefEqProofs
 refine Aa (hI _ _ _) ?_
 by_cases h:NJ q 1 1000000000000
 rotate_left
 ·simp -implicitDefEqProofs [h,Wh]
 have h0:¬q=0:=by omega
 have hb:=AjY p (q:=q) (by omega)
 have hw:IntKind.i64.wrap (p.tmod q+q)=p.tmod q+q:=Ad (by omega) (by omega)
 have e:Wh p q=(p.tmod q+q).tmod q:=by unfold Wh;rw[if_pos h]
 simp -implicitDefEqProofs [h,h0,hw,e]
theorem Aet (p:Int) {q:Int} (h:NJ q 1 1000000000000):0<=Wh p q/\Wh p q<q:=by
 unfold Wh
 rw[if_pos h]
 have hb:=AjY p (q:=q) (by omega)
 have h1:=Int.tmod_nonneg q (show 0<=p.tmod q+q by omega)
 have h2:=Int.tmod_lt_of_pos (p.tmod q+q) (show 0<q by omega)
 exact⟨h1,h2⟩
def OZ (s v:Int):Int:=(s*1000003+Wh v 2147483647+13).tmod 2147483647
def hash (xs:List Int):Int:=xs.foldl OZ 11
abbrev AdJ:Prop:=∀xs:List Int,xs.length<=maxLen->R [.sl 1 1 xs.length (ints xs)] [] (I (hash xs)) []
theorem Ak4 {s v:Int} (h:0<=s):0<=OZ s v/\OZ s v<2147483647:=by
 have hm:=Aet v (q:=2147483647) ⟨by omega,by omega⟩
 unfold OZ
 exact⟨Int.tmod_nonneg _ (by omega),Int.tmod_lt_of_pos _ (by omega)⟩
theorem Akn {α:Type} {f:α->Int->α} {xs:List Int} {j:Nat} {a:α} (h:j<xs.length):(xs.take (j+1)).foldl f a=f ((xs.take j).foldl f a) xs[j]:=by
 have e:xs.take (j+1)=xs.take j++ [xs[j]]:=by simp
 rw[e,List.foldl_append];rfl
theorem Ajv:∀(xs:List Int) {a:Int},0<=a->a<2147483647->0<=xs.foldl OZ a/\xs.foldl OZ a<2147483647
 | [],a,h1,h2=>⟨h1,h2⟩
 | x::xs,a,h1,h2=>by
  have:=Ak4 (s:=a) (v:=x) h1
  exact Ajv xs this.1 this.2
theorem AoU (hM:AnK (D 339)):AdJ (Body D TL):=by
 intro xs hl
 unfold maxLen at hl
 simp -implicitDefEqProofs
 refine Ag (fun k s=>∃j,j+k=xs.length/\s=⟨[.sl 1 1 xs.length (ints xs),.undef,I ((xs.take j).foldl OZ 11),I j,.undef],[]⟩) ?_ (xs.length) _ ⟨0,by simp,by simp⟩
 intro k s ⟨j,hj,hs⟩
 subst hs
 by_cases hjn:j<xs.length
 ·have hw:=Cv (j:=j) (by omega)
  have hst:=Akn (f:=OZ) (a:=(11:Int)) hjn
  have hb:=Ajv (xs.take j) (a:=11) (by omega) (by omega)
  generalize(xs.take j).foldl OZ 11=s at hst hb
  have hm:=Aet xs[j] (q:=2147483647) ⟨by omega,by omega⟩
  have w1:IntKind.i64.wrap (s*1000003)=s*1000003:=Ad (by omega) (by omega)
  have w2:IntKind.i64.wrap (s*1000003+Wh xs[j] 2147483647)=s*1000003+Wh xs[j] 2147483647:=Ad (by omega) (by omega)
  have w3:IntKind.i64.wrap (s*1000003+Wh xs[j] 2147483647+13)=s*1000003+Wh xs[j] 2147483647+13:=Ad (by omega) (by omega)
  simp -implicitDefEqProofs [hjn,w1]
  refine Aa (hM _ _) ?_
  simp -implicitDefEqProofs [w1,w2,w3]
  exact⟨k-1,by omega,j+1,by omega,by rw[hst];rfl,by simp[hw]⟩
 ·have e:xs.take j=xs:=List.take_of_length_le (by omega)
  simp -implicitDefEqProofs [hjn,e,hash]
theorem AKP (hM:AnK (D 354)):AdJ (Body D Az2):=by
 intro xs hl
 unfold maxLen at hl
 simp -implicitDefEqProofs
 refine Ag (fun k s=>∃j,j+k=xs.length/\s=⟨[.undef,.undef,I ((xs.take j).foldl OZ 11),.undef,.sl 1 1 xs.length (ints xs),I xs.length,I j,.undef],[]⟩) ?_ (xs.length) _ ⟨0,by simp,by simp⟩
 intro k s ⟨j,hj,hs⟩
 subst hs
 by_cases hjn:j<xs.length
 ·have hw:=Cv (j:=j) (by omega)
  have hst:=Akn (f:=OZ) (a:=(11:Int)) hjn
  have hb:=Ajv (xs.take j) (a:=11) (by omega) (by omega)
  generalize(xs.take j).foldl OZ 11=s at hst hb
  have hm:=Aet xs[j] (q:=2147483647) ⟨by omega,by omega⟩
  have w1:IntKind.i64.wrap (s*1000003)=s*1000003:=Ad (by omega) (by omega)
  have w2:IntKind.i64.wrap (s*1000003+Wh xs[j] 2147483647)=s*1000003+Wh xs[j] 2147483647:=Ad (by omega) (by omega)
  have w3:IntKind.i64.wrap (s*1000003+Wh xs[j] 2147483647+13)=s*1000003+Wh xs[j] 2147483647+13:=Ad (by omega) (by omega)
  simp -implicitDefEqProofs [hjn,w1]
  refine Aa (hM _ _) ?_
  simp -implicitDefEqProofs [w1,w2,w3]
  exact⟨k-1,by omega,j+1,by omega,by rw[hst];rfl,by simp[hw]⟩
 ·have e:xs.take j=xs:=List.take_of_length_le (by omega)
  simp -implicitDefEqProofs [hjn,e,hash]
def keyed (k:Int) (xs:List Int):Int:=hash (k::xs++ [k])
abbrev AeA:Prop:=∀(k:Int) (xs:List Int),xs.length<=4194304->R [I k,.sl 1 1 xs.length (ints xs)] [] (I (keyed k xs)) []
theorem Ot (a:Int) (xs:List Int):V.sc (.int .i64 a)::ints xs=ints (a::xs):=rfl
theorem AnE (hH:AdJ (D 338)):AeA (Body D KO):=by
 intro k xs hl
 have b1:(1+xs.length)*8<=1099511627776:=by omega
 have b2:(1+xs.length+1)*8<=1099511627776:=by omega
 have hlen:(k::xs++ [k]).length=1+xs.length+1:=by simp;omega
 simp -implicitDefEqProofs [b1,b2]
 have hh:=hH (k::xs++ [k]) (by unfold maxLen;omega)
 rw[hlen]at hh
 simp -implicitDefEqProofs [Ot]at hh
 simp -implicitDefEqProofs [Ot]
 refine Aa (hh) ?_
 simp -implicitDefEqProofs [keyed]
def pick (seed p n:Int):Int:=if n<1 then 0 else Wh (hash [seed,p]) n
abbrev Ahf:Prop:=∀seed p n:Int,R [I seed,I p,I n] [] (I (pick seed p n)) []
theorem AoV (hH:AdJ (D 338)) (hM:AnK (D 339)):Ahf (Body D O0):=by
 intro seed p n
 by_cases h:n<1
 ·simp -implicitDefEqProofs [h,pick]
 simp -implicitDefEqProofs [h]
 refine Aa (hH [seed,p] (by unfold maxLen;simp)) ?_
 simp -implicitDefEqProofs
 refine Aa (hM _ _) ?_
 simp -implicitDefEqProofs [pick,h]
theorem AKI (hH:AdJ (D 353)) (hM:AnK (D 354)):Ahf (Body D AxL):=by
 intro seed p n
 by_cases h:n<1
 ·simp -implicitDefEqProofs [h,pick]
 simp -implicitDefEqProofs [h]
 refine Aa (hH [seed,p] (by unfold maxLen;simp)) ?_
 simp -implicitDefEqProofs
 refine Aa (hM _ _) ?_
 simp -implicitDefEqProofs [pick,h]
theorem UK (seed p:Int) {n:Int} (h:NJ n 1 1000000000000):0<=pick seed p n/\pick seed p n<n:=by
 unfold pick
 rw[if_neg (by omega)]
 exact Aet _ h
def Oh (seed:Int):Int:=16*pick seed 0 16+10
abbrev O4:Prop:=∀seed:Int,R [I seed] [] (I (Oh seed)) []
theorem Aev (hP:Ahf (D 313)):O4 (Body D KA):=by
 intro seed
 simp -implicitDefEqProofs
 refine Aa (hP _ _ _) ?_
 have hb:=UK seed 0 (n:=16) ⟨by omega,by omega⟩
 have w1:IntKind.i64.wrap (16*pick seed 0 16)=16*pick seed 0 16:=Ad (by omega) (by omega)
 have w2:IntKind.i64.wrap (16*pick seed 0 16+10)=16*pick seed 0 16+10:=Ad (by omega) (by omega)
 simp -implicitDefEqProofs [w1,w2,Oh]
theorem AFI (hP:Ahf (D 322)):O4 (Body D AvB):=by
 intro seed
 simp -implicitDefEqProofs
 refine Aa (hP _ _ _) ?_
 have hb:=UK seed 0 (n:=16) ⟨by omega,by omega⟩
 have w1:IntKind.i64.wrap (16*pick seed 0 16)=16*pick seed 0 16:=Ad (by omega) (by omega)
 have w2:IntKind.i64.wrap (16*pick seed 0 16+10)=16*pick seed 0 16+10:=Ad (by omega) (by omega)
 simp -implicitDefEqProofs [w1,w2,Oh]
def Li (ls:List (List Int)):Bool:=decide (ls.length<=12)&&ls.all fun l=>allIn l 0 255
abbrev Qq:Prop:=∀ls:List (List Int),GR ls<=4194304->R [KZ ls] [] (B (Li ls)) []
theorem Aiq (hB:RN (D 217)):Qq (Body D H7):=by
 intro ls hl
 have hll:=Ms (xs:=ls)
 simp -implicitDefEqProofs
 refine Ag (fun k s=>∃j,j+k=ls.length/\(ls.take j).all (fun l=>allIn l 0 255)=true/\s=⟨[KZ ls,.undef,I j,.undef,.undef],[]⟩) ?_ (ls.length) _ ⟨0,by simp,by simp,by simp⟩
 intro k s ⟨j,hj,hp,hs⟩
 subst hs
 by_cases hjn:j<ls.length
 ·have hw:=Cv (j:=j) (by omega)
  have hst:=Qm (p:=fun l=>allIn l 0 255) hjn
  rw[hp,Bool.true_and]at hst
  have hra:=Uz hjn
  simp -implicitDefEqProofs [hjn]
  refine Aa (hB _ (by unfold maxLen;omega)) ?_
  by_cases h1:allIn ls[j] 0 255=true
  ·simp -implicitDefEqProofs [h1]
   exact⟨k-1,by omega,j+1,by omega,by simpa using hst.trans h1,by simp[hw]⟩
  ·have e:Li ls=false:=by unfold Li;rw[NP hjn (by simpa using h1)];simp
   simp -implicitDefEqProofs [h1,e]
 ·have e:Li ls=decide (ls.length<=12):=by unfold Li;rw[<-VW (j:=j) (by omega),hp];simp
  by_cases h5:ls.length<=12
  ·have h5':(ls.length:Int)<=12:=by omega
   simp -implicitDefEqProofs [hjn,e,h5,h5']
  ·have h5':¬(ls.length:Int)<=12:=by omega
   simp -implicitDefEqProofs [hjn,e,h5,h5']
abbrev AyT:Prop:=∀l:List Int,l.length<=maxLen->R [.sl 1 1 l.length (ints l)] [] (B (!allIn l 0 255)) []
theorem AH9 (hN:AsS (D 233)):AyT (Body D Ato):=by
 intro l hl
 simp -implicitDefEqProofs
 refine Aa (hN _ _ _ hl) ?_
 simp -implicitDefEqProofs
theorem AIt (h1':AyT (D 375)) (hC:AsQ D (D 269)):Qq (Body D AtX):=by
 intro ls hl
 have hll:=Ms (xs:=ls)
 by_cases h5:ls.length<=12
 rotate_left
 ·have h5':¬(ls.length:Int)<=12:=by omega
  simp -implicitDefEqProofs [h5',h5,Li]
 have h5':(ls.length:Int)<=12:=by omega
 simp -implicitDefEqProofs [h5']
 refine Aa (hC ls 375 [] (fun l=> !allIn l 0 255) (by unfold maxLen;omega) Api (fun j hj=>h1' ls[j] (by have:=Uz hj;unfold maxLen;omega))) ?_
 rw[AC2]
 generalize hq:(ls.all fun l=>allIn l 0 255)=q
 simp -implicitDefEqProofs [Li,h5,hq]
def Vj (x:Int) (b:List Int):Int:=hash (x::(b.length:Int)::b)
def LH (ls:List (List Int)):Int:=if Li ls=true then ls.foldl Vj 1 else 0
abbrev OV:Prop:=∀ls:List (List Int),GR ls<=4194304->R [KZ ls] [] (I (LH ls)) []
theorem AiF {α β:Type} {f:α->β->α} {xs:List β} {j:Nat} {a:α} (h:j<xs.length):(xs.take (j+1)).foldl f a=f ((xs.take j).foldl f a) xs[j]:=by
 have e:xs.take (j+1)=xs.take j++ [xs[j]]:=by simp
 rw[e,List.foldl_append];rfl
theorem Ae2 (hT:Qq (D 334)) (hH:AdJ (D 338)):OV (Body D Gt):=by
 intro ls hl
 have hll:=Ms (xs:=ls)
 simp -implicitDefEqProofs
 refine Aa (hT ls hl) ?_
 by_cases h1:Li ls=true
 rotate_left
 ·simp -implicitDefEqProofs [h1,LH]
 simp -implicitDefEqProofs [h1]
 refine Ag (fun k s=>∃j o0 o1,j+k=ls.length/\s=⟨[KZ ls,.undef,I ((ls.take j).foldl Vj 1),I j,.undef,.undef],[o0,o1]⟩) ?_ (ls.length) _ ⟨0,.free,.free,by simp,by simp⟩
 intro k s ⟨j,o0,o1,hj,hs⟩
 subst hs
 by_cases hjn:j<ls.length
 ·have hw:=Cv (j:=j) (by omega)
  have hst:=AiF (f:=Vj) (a:=(1:Int)) hjn
  have hra:=Uz hjn
  have b1:(2+ls[j].length)*8<=1099511627776:=by omega
  generalize(ls.take j).foldl Vj 1=x at hst
  have hh:=hH (x::(ls[j].length:Int)::ls[j]) (by unfold maxLen;simp;omega)
  have hlen:(x::(ls[j].length:Int)::ls[j]).length=2+ls[j].length:=by simp;omega
  rw[hlen]at hh
  simp only[<-Ot]at hh
  simp -implicitDefEqProofs [hjn,b1]
  refine Aa (hh) ?_
  simp -implicitDefEqProofs
  exact⟨k-1,by omega,j+1,by omega,by rw[hst];rfl,by simp[hw]⟩
 ·have e:ls.take j=ls:=List.take_of_length_le (by omega)
  have e2:LH ls=ls.foldl Vj 1:=by unfold LH;rw[if_pos h1]
  simp -implicitDefEqProofs [hjn,e,e2]
theorem AGr (hT:Qq (D 364)) (hH:AdJ (D 353)):OV (Body D Atn):=by
 intro ls hl
 have hll:=Ms (xs:=ls)
 simp -implicitDefEqProofs
 refine Aa (hT ls hl) ?_
 by_cases h1:Li ls=true
 rotate_left
 ·simp -implicitDefEqProofs [h1,LH]
 simp -implicitDefEqProofs [h1]
 refine Ag (fun k s=>∃j o0 o1,j+k=ls.length/\s=⟨[.undef,.undef,I ((ls.take j).foldl Vj 1),.undef,.undef,KZ ls,I ls.length,I j,.undef],[o0,o1]⟩) ?_ (ls.length) _ ⟨0,.free,.free,by simp,by simp⟩
 intro k s ⟨j,o0,o1,hj,hs⟩
 subst hs
 by_cases hjn:j<ls.length
 ·have hw:=Cv (j:=j) (by omega)
  have hst:=AiF (f:=Vj) (a:=(1:Int)) hjn
  have hra:=Uz hjn
  have b1:(2+ls[j].length)*8<=1099511627776:=by omega
  generalize(ls.take j).foldl Vj 1=x at hst
  have hh:=hH (x::(ls[j].length:Int)::ls[j]) (by unfold maxLen;simp;omega)
  have hlen:(x::(ls[j].length:Int)::ls[j]).length=2+ls[j].length:=by simp;omega
  rw[hlen]at hh
  simp only[<-Ot]at hh
  simp -implicitDefEqProofs [hjn,b1]
  refine Aa (hh) ?_
  simp -implicitDefEqProofs
  exact⟨k-1,by omega,j+1,by omega,by rw[hst];rfl,by simp[hw]⟩
 ·have e:ls.take j=ls:=List.take_of_length_le (by omega)
  have e2:LH ls=ls.foldl Vj 1:=by unfold LH;rw[if_pos h1]
  simp -implicitDefEqProofs [hjn,e,e2]
def G6 (k:Int) (ls:List (List Int)) (side:Int):Int:=if Mj k&&(Li ls&&decide (NJ side 0 1))then keyed k [side,LH ls]else 0
abbrev ZE:Prop:=∀(k:Int) (ls:List (List Int)) (side:Int),GR ls<=4194304->R [I k,KZ ls,I side] [] (I (G6 k ls side)) []
theorem Ak1 (hV:Oe (D 210)) (hT:Qq (D 334)) (hI:Vf (D 71)) (hH:OV (D 335)) (hK:AeA (D 336)):ZE (Body D Mt):=by
 intro k ls side hl
 simp -implicitDefEqProofs
 refine Aa (hV k) ?_
 by_cases h1:Mj k=true
 rotate_left
 ·simp -implicitDefEqProofs [h1,G6]
 simp -implicitDefEqProofs [h1]
 refine Aa (hT ls hl) ?_
 by_cases h2:Li ls=true
 rotate_left
 ·simp -implicitDefEqProofs [h2,G6]
 simp -implicitDefEqProofs [h2]
 refine Aa (hI _ _ _) ?_
 by_cases h3:NJ side 0 1
 rotate_left
 ·simp -implicitDefEqProofs [h3,G6]
 simp -implicitDefEqProofs [h3]
 refine Aa (hH ls hl) ?_
 simp -implicitDefEqProofs
 refine Aa (hK k [side,LH ls] (by simp)) ?_
 simp -implicitDefEqProofs [G6,h1,h2,h3]
theorem AJy (hV:Oe (D 236)) (hT:Qq (D 364)) (hI:Vf (D 114)) (hH:OV (D 365)) (hK:AeA (D 366)):ZE (Body D AvX):=by
 intro k ls side hl
 simp -implicitDefEqProofs
 refine Aa (hV k) ?_
 by_cases h1:Mj k=true
 rotate_left
 ·simp -implicitDefEqProofs [h1,G6]
 simp -implicitDefEqProofs [h1]
 refine Aa (hT ls hl) ?_
 by_cases h2:Li ls=true
 rotate_left
 ·simp -implicitDefEqProofs [h2,G6]
 simp -implicitDefEqProofs [h2]
 refine Aa (hI _ _ _) ?_
 by_cases h3:NJ side 0 1
 rotate_left
 ·simp -implicitDefEqProofs [h3,G6]
 simp -implicitDefEqProofs [h3]
 refine Aa (hH ls hl) ?_
 simp -implicitDefEqProofs
 refine Aa (hK k [side,LH ls] (by simp)) ?_
 simp -implicitDefEqProofs [G6,h1,h2,h3]
def AvW (k:Int) (ls:List (List Int)) (side f:Int):Bool:= !decide (f=0)&&decide (f=G6 k ls side)
abbrev AxF:Prop:=∀(k:Int) (ls:List (List Int)) (side f:Int),GR ls<=4194304->R [I k,KZ ls,I side,I f] [] (B (AvW k ls side f)) []
theorem AFk (hF:ZE (D 347)):AxF (Body D Avv):=by
 intro k ls side f hl
 by_cases h0:f=0
 ·simp -implicitDefEqProofs [h0,AvW]
 simp -implicitDefEqProofs [h0]
 refine Aa (hF k ls side hl) ?_
 simp -implicitDefEqProofs [AvW,h0,Aqs]
set_option maxHeartbeats 1000000
theorem Adr {l:List Ext} (h:Ej l=true):l.length<=6:=by
 unfold Ej at h
 simp only[Bool.and_eq_true,decide_eq_true_eq]at h
 exact h.2
theorem AnY {l:List Ext} (h:Ej l=true) {j:Nat} (hj:j<l.length):Qo l j=true:=by
 unfold Ej at h
 simp only[Bool.and_eq_true]at h
 exact V7.1 h.1 j hj
theorem Aaw {l:List Ext} (h:Ej l=true) {j:Nat} (hj:j<l.length):l[j].body.length<=4:=by
 have:=AnY h hj
 rw[Oo hj]at this
 unfold SY at this
 simp only[Bool.and_eq_true,decide_eq_true_eq]at this
 exact this.1.2.1
def ArU (x:Ext):List Int:=x.tag::(x.body.length:Int)::x.body
def Qa (l:List Ext) (j:Nat):List Int:=(l.length:Int)::(l.take j).flatMap ArU
theorem Aa8 {l:List Ext} {j:Nat} (h:j<l.length):Qa l (j+1)=Qa l j++([l[j].tag,(l[j].body.length:Int)]++l[j].body):=by
 have e:l.take (j+1)=l.take j++ [l[j]]:=by simp
 unfold Qa
 rw[e,List.flatMap_append]
 simp[ArU]
theorem Xw {l:List Ext} (h:Ej l=true):∀j,j<=l.length->(Qa l j).length<=1+6*j
 | 0,_=>by simp[Qa]
 | j+1,hj=>by
  have ih:=Xw h j (by omega)
  have hb:=Aaw h (j:=j) (by omega)
  rw[Aa8 (by omega)]
  simp only[List.length_append,List.length_cons,List.length_nil]
  omega
def FV (l:List Ext):List Int×Bool:=if Ej l=true then(Qa l l.length,true)else([],false)
abbrev Kg:Prop:=∀l:List Ext,OD l->R [.sl 1 2 l.length (l.flatMap Cc)] [] (.tup [.sl 0 1 (FV l).1.length (ints (FV l).1),B (FV l).2]) []
theorem AcG (hA:JX (D 312)):Kg (Body D Jr):=by
 intro l hl
 have hll:=hl.1
 simp -implicitDefEqProofs
 refine Aa (hA l hl) ?_
 by_cases h1:Ej l=true
 rotate_left
 ·have e:FV l=([],false):=by unfold FV;rw[if_neg h1]
  simp -implicitDefEqProofs [h1,e]
 simp -implicitDefEqProofs [h1]
 refine Ag (fun k s=>∃j o2 o3 o4,j+k=l.length/\s=⟨[.sl 1 2 l.length (l.flatMap Cc),.undef,.undef,.arr 5,I j,.undef,.undef],[.free,.free,o2,o3,o4,.arr 1 0 (Qa l j).length (ints (Qa l j))]⟩) ?_ (l.length) _ ⟨0,.free,.free,.free,by simp,by simp[Qa,ints]⟩
 intro k s ⟨j,o2,o3,o4,hj,hs⟩
 subst hs
 by_cases hjn:j<l.length
 ·have hw:=Cv (j:=j) (by omega)
  have hst:=Aa8 hjn
  have hle:=Xw h1 j (by omega)
  have h6:=Adr h1
  have hb4:=Aaw h1 hjn
  have b1:((Qa l j).length+2)*8<=1099511627776:=by omega
  have b2:((Qa l j).length+2+l[j].body.length)*8<=1099511627776:=by omega
  simp -implicitDefEqProofs [hjn,b1,b2]
  exact⟨k-1,by omega,j+1,by omega,by simp[hw],by rw[hst];simp;omega,by rw[hst];simp[ints]⟩
 ·obtain rfl:j=l.length:=by omega
  have e:FV l=(Qa l l.length,true):=by unfold FV;rw[if_pos h1]
  simp -implicitDefEqProofs [e]
theorem AEA (hA:JX (D 320)):Kg (Body D AuU):=by
 intro l hl
 have hll:=hl.1
 simp -implicitDefEqProofs
 refine Aa (hA l hl) ?_
 by_cases h1:Ej l=true
 rotate_left
 ·have e:FV l=([],false):=by unfold FV;rw[if_neg h1]
  simp -implicitDefEqProofs [h1,e]
 simp -implicitDefEqProofs [h1]
 refine Ag (fun k s=>∃j o1 o2 o3 o4,j+k=l.length/\s=⟨[.undef,.undef,.undef,.arr 5,.undef,.undef,.sl 1 2 l.length (l.flatMap Cc),I l.length,I j,.undef],[.free,o1,o2,o3,o4,.arr 1 0 (Qa l j).length (ints (Qa l j))]⟩) ?_ (l.length) _ ⟨0,.free,.free,.free,.free,by simp,by simp[Qa,ints]⟩
 intro k s ⟨j,o1,o2,o3,o4,hj,hs⟩
 subst hs
 by_cases hjn:j<l.length
 ·have hw:=Cv (j:=j) (by omega)
  have hst:=Aa8 hjn
  have hle:=Xw h1 j (by omega)
  have h6:=Adr h1
  have hb4:=Aaw h1 hjn
  have b1:((Qa l j).length+2)*8<=1099511627776:=by omega
  have b2:((Qa l j).length+2+l[j].body.length)*8<=1099511627776:=by omega
  simp -implicitDefEqProofs [hjn,b1,b2]
  exact⟨k-1,by omega,j+1,by omega,by simp[hw],by rw[hst];simp;omega,by rw[hst];simp[ints]⟩
 ·obtain rfl:j=l.length:=by omega
  have e:FV l=(Qa l l.length,true):=by unfold FV;rw[if_pos h1]
  simp -implicitDefEqProofs [e]
theorem MW (l:List Ext):(FV l).1.length<=37:=by
 unfold FV
 split
 ·rename_i h
  have:=Xw h l.length (Nat.le_refl _)
  have:=Adr h
  dsimp only;omega
 ·simp
def Du (h:Hello):List Int:=if Dt h=true then((h.versions.length:Int)::h.versions)++(FV h.exts).1 else []
abbrev MV:Prop:=∀h:Hello,hB h->R [arg (Ck h)] [] (.sl 0 1 (Du h).length (ints (Du h))) []
theorem Adj {h:Hello} (hh:Dt h=true):AQ h.versions=true:=by unfold Dt at hh;simp only[Bool.and_eq_true]at hh;exact hh.1
theorem Acl (hI:Gr (D 285)) (hE:Kg (D 337)):MV (Body D Jk):=by
 intro h hh
 have hv:=hh.1
 simp -implicitDefEqProofs
 refine Aa (hI h hh) ?_
 by_cases h1:Dt h=true
 rotate_left
 ·simp -implicitDefEqProofs [h1,Du]
 have hl:=MW h.exts
 have e:Du h=((h.versions.length:Int)::h.versions)++(FV h.exts).1:=by unfold Du;rw[if_pos h1]
 rw[e]
 simp -implicitDefEqProofs [h1]
 refine Aa (hE h.exts hh.2) ?_
 generalize(FV h.exts).1=r at hl
 have b1:(1+h.versions.length)*8<=1099511627776:=by omega
 have b2:(1+h.versions.length+r.length)*8<=1099511627776:=by omega
 have el:h.versions.length+r.length+1=1+h.versions.length+r.length:=by omega
 simp -implicitDefEqProofs [b1,b2,Ot,Ab4,el]
def Kr (a:Nw):Bool:=decide (InV a.version 1 9)&&Ej a.exts
def Ci (a:Nw):List Int:=if Kr a=true then a.version::(FV a.exts).1 else []
abbrev NR:Prop:=∀a:Nw,OD a.exts->R [arg (RB a)] [] (B (Kr a)) []
theorem AfA (hI:Vf (D 71)) (hE:JX (D 312)):NR (Body D LK):=by
 intro a ha
 simp -implicitDefEqProofs
 refine Aa (hI _ _ _) ?_
 by_cases h1:InV a.version 1 9
 rotate_left
 ·simp -implicitDefEqProofs [h1,Kr]
 simp -implicitDefEqProofs [h1]
 refine Aa (hE _ ha) ?_
 simp -implicitDefEqProofs [Kr,h1]
theorem AGU (hI:Vf (D 114)) (hE:JX (D 320)):NR (Body D Av1):=by
 intro a ha
 simp -implicitDefEqProofs
 refine Aa (hI _ _ _) ?_
 by_cases h1:InV a.version 1 9
 rotate_left
 ·simp -implicitDefEqProofs [h1,Kr]
 simp -implicitDefEqProofs [h1]
 refine Aa (hE _ ha) ?_
 simp -implicitDefEqProofs [Kr,h1]
abbrev Lb:Prop:=∀a:Nw,OD a.exts->R [arg (RB a)] [] (.sl 0 1 (Ci a).length (ints (Ci a))) []
theorem YK (a:Nw):(Ci a).length<=38:=by
 unfold Ci
 have:=MW a.exts
 split
 ·simp only[List.length_cons];omega
 ·simp
theorem Ab1 (hI:NR (D 333)) (hE:Kg (D 337)):Lb (Body D IY):=by
 intro a ha
 simp -implicitDefEqProofs
 refine Aa (hI a ha) ?_
 by_cases h1:Kr a=true
 rotate_left
 ·have e:Ci a=[]:=by unfold Ci;rw[if_neg h1]
  simp -implicitDefEqProofs [h1,e]
 have hl:=MW a.exts
 have e:Ci a=a.version::(FV a.exts).1:=by unfold Ci;rw[if_pos h1]
 rw[e]
 simp -implicitDefEqProofs [h1]
 refine Aa (hE a.exts ha) ?_
 generalize(FV a.exts).1=r at hl
 have b2:(1+r.length)*8<=1099511627776:=by omega
 have el:r.length+1=1+r.length:=by omega
 simp -implicitDefEqProofs [b2,Ot,el]
theorem AC9 (hI:NR (D 369)) (hE:Kg (D 367)):Lb (Body D Aub):=by
 intro a ha
 simp -implicitDefEqProofs
 refine Aa (hI a ha) ?_
 by_cases h1:Kr a=true
 rotate_left
 ·have e:Ci a=[]:=by unfold Ci;rw[if_neg h1]
  simp -implicitDefEqProofs [h1,e]
 have hl:=MW a.exts
 have e:Ci a=a.version::(FV a.exts).1:=by unfold Ci;rw[if_pos h1]
 rw[e]
 simp -implicitDefEqProofs [h1]
 refine Aa (hE a.exts ha) ?_
 generalize(FV a.exts).1=r at hl
 have b2:(1+r.length)*8<=1099511627776:=by omega
 have el:r.length+1=1+r.length:=by omega
 simp -implicitDefEqProofs [b2,Ot,el]
def AfK (h:Hello) (x:Ext):Bool:=decide (x.tag∈Ba h.exts)&& !BH x.tag
def Fu (h:Hello) (a:Nw):Bool:=Dt h&&(Kr a&&(decide (a.version∈h.versions)&&a.exts.all (AfK h)))
abbrev PY:Prop:=∀(h:Hello) (a:Nw),hB h->OD a.exts->R [arg (Ck h),arg (RB a)] [] (B (Fu h a)) []
theorem AmN {α:Type} {p:α->Bool} {xs:List α} {i:Int} (h:0<=i):(Rc p xs i<0)=¬(xs.any p=true):=by
 have:=AjA (p:=p) (xs:=xs) h
 rw[<-this]
 exact propext ⟨fun h=>by omega,fun h=>by omega⟩
theorem Aox (l:List Ext) (t:Int):l.any (Gq t)=decide (t∈Ba l):=by
 rw[Bool.eq_iff_iff]
 simp only[List.any_eq_true,decide_eq_true_eq,Ba,List.mem_map,Gq]
theorem LA (l:List Ext) (t:Int):(K7 l t<0)=¬(t∈Ba l):=by
 unfold K7
 rw[AmN (by omega),Aox]
 simp
theorem Ae5 (hX:Rj (D 309)) (hR:Ib (D 250)) (hI:Gr (D 285)) (hA:NR (D 333)) (hH:UQ (D 166)):PY (Body D KU):=by
 intro h a hh ha
 have hal:=ha.1
 have hxl:=hh.2.1
 have hvl:=hh.1
 simp -implicitDefEqProofs
 refine Ag (fun k s=>∃j,j+k=a.exts.length/\(a.exts.take j).all (AfK h)=true/\s=⟨[.undef,.undef,.ptr 0 0,.ptr 1 0,.undef,I j,.undef,.undef],[.var ((Ck h).map (AO 1)),.var ((RB a).map (AO 1))]⟩) ?_ (a.exts.length) _ ⟨0,by simp,by simp,by simp⟩
 intro k s ⟨j,hj,hp,hs⟩
 subst hs
 by_cases hjn:j<a.exts.length
 ·have hw:=Cv (j:=j) (by omega)
  have hst:=Qm (p:=AfK h) hjn
  rw[hp,Bool.true_and]at hst
  simp -implicitDefEqProofs [hjn]
  refine Aa (hX h.exts _ (by unfold maxLen;omega)) ?_
  by_cases h1:a.exts[j].tag∈Ba h.exts
  rotate_left
  ·have e:Fu h a=false:=by unfold Fu;rw[NP hjn (by simp[AfK,h1])];simp
   have h1':K7 h.exts a.exts[j].tag<0:=by rw[LA];exact h1
   simp -implicitDefEqProofs [h1',e]
  have h1':¬K7 h.exts a.exts[j].tag<0:=by rw[LA];simpa using h1
  simp -implicitDefEqProofs [h1',hjn]
  refine Aa (hR _) ?_
  by_cases h2:BH a.exts[j].tag=true
  ·have e:Fu h a=false:=by unfold Fu;rw[NP hjn (by simp[AfK,h2])];simp
   simp -implicitDefEqProofs [h2,e]
  ·simp -implicitDefEqProofs [h2]
   exact⟨k-1,by omega,j+1,by omega,by simpa using hst.trans (show AfK h a.exts[j]=true by simp[AfK,h1,h2]),by simp[hw]⟩
 ·have e:a.exts.all (AfK h)=true:=by rw[<-VW (j:=j) (by omega),hp]
  simp -implicitDefEqProofs [hjn]
  refine Aa (hI h hh) ?_
  by_cases g1:Dt h=true
  rotate_left
  ·simp -implicitDefEqProofs [g1,Fu]
  simp -implicitDefEqProofs [g1]
  refine Aa (hA a ha) ?_
  by_cases g2:Kr a=true
  rotate_left
  ·simp -implicitDefEqProofs [g2,Fu]
  simp -implicitDefEqProofs [g2]
  refine Aa (hH _ _ (by unfold maxLen;omega)) ?_
  have e2:Fu h a=decide (a.version∈h.versions):=by unfold Fu;rw[e,g1,g2];simp
  simp -implicitDefEqProofs [e2]
abbrev AxI:Prop:=∀l:List Ext,l.length<=4194304->R [.sl 1 2 l.length (l.flatMap Cc)] [] (B ((Ba l).any BH)) []
theorem AFG (hT:UX (D 317)) (hH:At7 (D 270)):AxI (Body D Avu):=by
 intro l hl
 simp -implicitDefEqProofs
 refine Aa (hT l hl) ?_
 simp -implicitDefEqProofs
 refine Aa (hH (Ba l) (by rw[QA];unfold maxLen;omega)) ?_
 generalize(Ba l).any BH=q
 simp -implicitDefEqProofs
theorem AKV (h:Hello) (a:Nw):a.exts.all (AfK h)=(decide (leftOf (Ba a.exts) (Ba h.exts)=[])&& !(Ba a.exts).any BH):=by
 have h1:decide (leftOf (Ba a.exts) (Ba h.exts)=[])=a.exts.all fun x=>decide (x.tag∈Ba h.exts):=by
  rw[Bool.eq_iff_iff,decide_eq_true_eq,List.all_eq_true]
  unfold leftOf
  rw[List.filter_eq_nil_iff]
  constructor
  ·intro hp x hx
   have:=hp x.tag (List.mem_map.2 ⟨x,hx,rfl⟩)
   simpa using this
  ·intro hp v hv
   obtain⟨x,hx,rfl⟩:=List.mem_map.1 hv
   simpa using hp x hx
 have h2:(!(Ba a.exts).any BH)=a.exts.all fun x=> !BH x.tag:=by
  unfold Ba
  rw[List.any_map,List.all_eq_not_any_not]
  simp[Function.comp_def]
 rw[h1,h2]
 generalize a.exts=l
 induction l with
 | nil=>rfl
 | cons x r ih=>
  simp only[List.all_cons,ih,AfK]
  generalize decide (x.tag∈Ba h.exts)=p1
  generalize BH x.tag=p2
  cases p1<;>cases p2<;>simp
theorem AFK (hI:Gr (D 292)) (hA:NR (D 369)) (hH:UQ (D 188)) (hT:UX (D 317)) (hL:AfF (D 189)) (hG:AxI (D 370)):PY (Body D AvM):=by
 intro h a hh ha
 have hal:=ha.1
 have hxl:=hh.2.1
 have hvl:=hh.1
 simp -implicitDefEqProofs
 refine Aa (hI h hh) ?_
 by_cases g1:Dt h=true
 rotate_left
 ·simp -implicitDefEqProofs [g1,Fu]
 simp -implicitDefEqProofs [g1]
 refine Aa (hA a ha) ?_
 by_cases g2:Kr a=true
 rotate_left
 ·simp -implicitDefEqProofs [g2,Fu]
 simp -implicitDefEqProofs [g2]
 refine Aa (hH _ _ (by unfold maxLen;omega)) ?_
 by_cases g3:a.version∈h.versions
 rotate_left
 ·simp -implicitDefEqProofs [g3,Fu]
 have e2:Fu h a=(decide (leftOf (Ba a.exts) (Ba h.exts)=[])&& !(Ba a.exts).any BH):=by unfold Fu;rw[AKV,g1,g2];simp[g3]
 rw[e2]
 simp -implicitDefEqProofs [g3]
 refine Aa (hT a.exts hal) ?_
 simp -implicitDefEqProofs
 refine Aa (hT h.exts hxl) ?_
 simp -implicitDefEqProofs
 refine Aa (hL (Ba a.exts) (Ba h.exts) (by rw[QA];exact hal) (by rw[QA];exact hxl)) ?_
 by_cases g4:leftOf (Ba a.exts) (Ba h.exts)=[]
 rotate_left
 ·simp -implicitDefEqProofs [g4,Aqs]
 simp -implicitDefEqProofs [g4,Aqs]
 refine Aa (hG a.exts hal) ?_
 generalize(Ba a.exts).any BH=q
 simp -implicitDefEqProofs
def Bb (vs tags:List Int) (h:Hello):Nw×Bool:=if Dt h&& !decide (AJ vs h.versions=0)then(⟨AJ vs h.versions,Xy (JP h.exts tags)⟩,true)else(⟨0,[]⟩,false)
abbrev Zx:Prop:=∀(vs tags:List Int) (h:Hello),vs.length<=4194304->tags.length<=4194304->hB h->R [.sl 1 1 vs.length (ints vs),.sl 1 1 tags.length (ints tags),arg (Ck h)] [] (.tup [.agg (RB (Bb vs tags h).1),B (Bb vs tags h).2]) []
theorem AkQ (hB':FQ (D 168)) (hI:Gr (D 285)) (hK:QD (D 331)) (hS:Lv (D 332)):Zx (Body D H6):=by
 intro vs tags h hv ht hh
 simp -implicitDefEqProofs
 refine Aa (hB' vs h.versions hv hh.1) ?_
 simp -implicitDefEqProofs
 refine Aa (hI h hh) ?_
 by_cases h1:Dt h=true
 rotate_left
 ·simp -implicitDefEqProofs [h1,Bb]
 by_cases h2:AJ vs h.versions=0
 ·simp -implicitDefEqProofs [h1,h2,Bb]
 have e:Bb vs tags h=(⟨AJ vs h.versions,Xy (JP h.exts tags)⟩,true):=by unfold Bb;rw[if_pos (by simp[h1,h2])]
 simp -implicitDefEqProofs [h1,h2]
 refine Aa (hK h.exts tags hh.2 (by unfold maxLen;omega)) ?_
 simp -implicitDefEqProofs
 refine Aa (hS (JP h.exts tags) (QV hh.2 _)) ?_
 simp -implicitDefEqProofs [e]
theorem AJd (hB':FQ (D 190)) (hI:Gr (D 292)) (hK:QD (D 361)) (hS:Lv (D 362)):Zx (Body D AtT):=by
 intro vs tags h hv ht hh
 simp -implicitDefEqProofs
 refine Aa (hB' vs h.versions hv hh.1) ?_
 simp -implicitDefEqProofs
 refine Aa (hI h hh) ?_
 by_cases h1:Dt h=true
 rotate_left
 ·simp -implicitDefEqProofs [h1,Bb]
 by_cases h2:AJ vs h.versions=0
 ·simp -implicitDefEqProofs [h1,h2,Bb]
 have e:Bb vs tags h=(⟨AJ vs h.versions,Xy (JP h.exts tags)⟩,true):=by unfold Bb;rw[if_pos (by simp[h1,h2])]
 simp -implicitDefEqProofs [h1,h2]
 refine Aa (hK h.exts tags hh.2 (by unfold maxLen;omega)) ?_
 simp -implicitDefEqProofs
 refine Aa (hS (JP h.exts tags) (QV hh.2 _)) ?_
 simp -implicitDefEqProofs [e]
set_option maxRecDepth 100000
set_option maxRecDepth 100000
def AxB:=mk 0x19219000520c410183549 0x300bb00a2900880c44090c40ae8242028030110176013520110101 [0x10080010424e030c220009885912300818c02,0xc420002529e12a300287041908004416480e0407300308804000c15787c5026204202922,0x14900021a900082940842,0x4bcc521400000085618044001320862,0x21690010419080045164aa04c80,0x14200083d21ca0010000f440ca2,0x3d39400004121ca7a9c84c2,0x25e2000e189000c000109004094000c15b8643cc30879864040841085bc27188e118082b50c10212a81609826084041598602138a04004101094b,0x31c418001ca290001a8740480084c41002d221016820429141015d86002131405a524ac2d2925621253821042d69490a58842524210415a860a11096a811290948849498041598600110e1408004304000180000201006100200040ae4305082d5020008c2811e96f,0x2d200000042b0c022000990418a,0xb48000104412810ac3001008820421c403088002640c4862c4189180827b0c14220080042d4a0a1000400016a5e1ab]
def ADk:=dT 0x7121204ac21094210842108049
def KR:=mk 0x8100010082929 0x300808010c40ae4a4022803011017601212011010101 [4573968510485506,0x8610800000413686440c20,0x110210000800413786040c40,0x1a9090621c4224430045a2882180a4128409ac310d88043020700301cc12670150510cc01cc810100040400004138860203964,0x4184040002208001040882,0x61094842402284208106220010458020084400220c410a2,0x8c108000c0880800c13986440cc0,0x1094800802498408e0,0x95888c42004210943010c001289495882562190080848c7a08823021088680001008230220304e6180044002100040025129092b,0x23042002040024c206108,0x608060014e120000c040800c139864090008407020220c14a,0x7290600062820005a00000000000000061a8321e020000000000000030d4190f0102938605042f00082524222400710001041cc519cc5198206051c792e104b84502111868084a28100000000000000c350748020000000000000030d41d2008300181451e001104411200388000820812040011069a96b]
def UO:=dT 0x1c49210842308029
attribute [simp] AxB KR
set_option maxHeartbeats 1000000
theorem Aer:Uu (Body D KL):=by
 intro xs ys h1 h2
 unfold maxLen at h1 h2
 by_cases hl:xs.length=ys.length
 rotate_left
 ·have hl':¬(xs.length:Int)=ys.length:=by omega
  have:xs≠ys:=fun h=>hl (by rw[h])
  simp -implicitDefEqProofs [hl',this]
 have hl':(xs.length:Int)=ys.length:=by omega
 simp -implicitDefEqProofs [hl']
 refine Ag (fun k s=>∃j,j+k=xs.length/\xs.take j=ys.take j/\s=⟨[.sl 1 1 xs.length (ints xs),.sl 1 1 ys.length (ints ys),.undef,I j,.undef,.undef,.undef],[]⟩) ?_ (xs.length) _ ⟨0,by simp,by simp,by simp⟩
 intro k s ⟨j,hj,hp,hs⟩
 subst hs
 by_cases hjn:j<xs.length
 ·have hw:=Cv (j:=j) (by omega)
  have hy:j<ys.length:=by omega
  by_cases he:xs[j]=ys[j]
  ·simp -implicitDefEqProofs [hjn,hy,he]
   exact⟨k-1,by omega,j+1,by omega,Adh hjn hy hp he,by simp[hw]⟩
  ·have hne:xs≠ys:=fun h=>he (by simp[h])
   simp -implicitDefEqProofs [hjn,hy,he,hne]
 ·obtain rfl:xs=ys:=Agx (by omega) hl hp
  simp -implicitDefEqProofs [hjn]
theorem AJ5:Uu (Body D AsV):=by
 intro xs ys h1 h2
 unfold maxLen at h1 h2
 by_cases hl:xs.length=ys.length
 rotate_left
 ·have hl':¬(xs.length:Int)=ys.length:=by omega
  have:xs≠ys:=fun h=>hl (by rw[h])
  simp -implicitDefEqProofs [hl',this]
 have hl':(xs.length:Int)=ys.length:=by omega
 simp -implicitDefEqProofs [hl']
 refine Ag (fun k s=>∃j,j+k=xs.length/\xs.take j=ys.take j/\s=⟨[.sl 1 1 xs.length (ints xs),.sl 1 1 ys.length (ints ys),.undef,.undef,.undef,I ys.length,I j,.undef,.undef],[]⟩) ?_ (xs.length) _ ⟨0,by simp,by simp,by simp⟩
 intro k s ⟨j,hj,hp,hs⟩
 subst hs
 by_cases hjn:j<xs.length
 ·have hw:=Cv (j:=j) (by omega)
  have hy:j<ys.length:=by omega
  by_cases he:xs[j]=ys[j]
  ·simp -implicitDefEqProofs [hjn,hy,he]
   exact⟨k-1,by omega,j+1,by omega,Adh hjn hy hp he,by simp[hw]⟩
  ·have hne:xs≠ys:=fun h=>he (by simp[h])
   simp -implicitDefEqProofs [hjn,hy,he,hne]
 ·obtain rfl:xs=ys:=Agx (by omega) hl hp
  simp -implicitDefEqProofs [hjn]
abbrev VY:Prop:=∀a b:List Ext,OD a->OD b->R [.sl 1 2 a.length (a.flatMap Cc),.sl 1 2 b.length (b.flatMap Cc)] [] (B (decide (a=b))) []
abbrev Aw8:Prop:=∀a b:Ext,a.body.length<=4194304->b.body.length<=4194304->R [arg (Cc a),arg (Cc b)] [] (B (decide (a=b))) []
theorem ext_eq {a b:Ext} (h1:a.tag=b.tag) (h2:a.body=b.body):a=b:=by cases a;cases b;simp_all
theorem Ad1 (hE:Uu (D 355)):VY (Body D KM):=by
 intro a b ha hb
 have h1:=ha.1
 have h2:=hb.1
 by_cases hl:a.length=b.length
 rotate_left
 ·have hl':¬(a.length:Int)=b.length:=by omega
  have:a≠b:=fun h=>hl (by rw[h])
  simp -implicitDefEqProofs [hl',this]
 have hl':(a.length:Int)=b.length:=by omega
 simp -implicitDefEqProofs [hl']
 refine Ag (fun k s=>∃j,j+k=a.length/\a.take j=b.take j/\s=⟨[.sl 1 2 a.length (a.flatMap Cc),.sl 1 2 b.length (b.flatMap Cc),.undef,I j,.undef,.undef,.undef],[]⟩) ?_ (a.length) _ ⟨0,by simp,by simp,by simp⟩
 intro k s ⟨j,hj,hp,hs⟩
 subst hs
 by_cases hjn:j<a.length
 ·have hw:=Cv (j:=j) (by omega)
  have hy:j<b.length:=by omega
  by_cases g1:a[j].tag=b[j].tag
  rotate_left
  ·have hne:a≠b:=fun h=>g1 (by simp[h])
   simp -implicitDefEqProofs [hjn,hy,g1,hne]
  simp -implicitDefEqProofs [hjn,hy,g1]
  refine Aa (hE a[j].body b[j].body (by have:=P5 ha hjn;unfold maxLen;omega) (by have:=P5 hb hy;unfold maxLen;omega)) ?_
  by_cases g2:a[j].body=b[j].body
  ·simp -implicitDefEqProofs [g2]
   exact⟨k-1,by omega,j+1,by omega,Adh hjn hy hp (ext_eq g1 g2),by simp[hw]⟩
  ·have hne:a≠b:=fun h=>g2 (by simp[h])
   simp -implicitDefEqProofs [g2,hne]
 ·obtain rfl:a=b:=Agx (by omega) hl hp
  simp -implicitDefEqProofs [hjn]
theorem AIr (hE:Uu (D 357)):Aw8 (Body D Awa):=by
 intro a b ha hb
 by_cases g1:a.tag=b.tag
 rotate_left
 ·have hne:a≠b:=fun h=>g1 (by simp[h])
  simp -implicitDefEqProofs [g1,hne]
 simp -implicitDefEqProofs [g1]
 refine Aa (hE a.body b.body (by unfold maxLen;omega) (by unfold maxLen;omega)) ?_
 by_cases g2:a.body=b.body
 ·have e:=ext_eq g1 g2
  simp -implicitDefEqProofs [g2,e]
 ·have hne:a≠b:=fun h=>g2 (by simp[h])
  simp -implicitDefEqProofs [g2,hne]
abbrev Axq (D:Dn) (R:Rel):Prop:=∀(a b:List Ext) (g:Nat),OD a->OD b->Aw8 (D g)->R [.sl 1 2 a.length (a.flatMap Cc),.sl 1 2 b.length (b.flatMap Cc),.fn g []] [] (B (decide (a=b))) []
theorem AG7:Axq D (Body D Afd):=by
 intro a b g ha hb hg
 have h1:=ha.1
 have h2:=hb.1
 by_cases hl:a.length=b.length
 rotate_left
 ·have hl':¬(a.length:Int)=b.length:=by omega
  have:a≠b:=fun h=>hl (by rw[h])
  simp -implicitDefEqProofs [hl',this]
 have hl':(a.length:Int)=b.length:=by omega
 simp -implicitDefEqProofs [hl']
 refine Ag (fun k s=>∃j o0 o1,j+k=a.length/\a.take j=b.take j/\s=⟨[.undef,.sl 1 2 b.length (b.flatMap Cc),.fn g [],.undef,.undef,.undef,.undef,.undef,.sl 1 2 a.length (a.flatMap Cc),I b.length,I j,.undef,.undef],[o0,o1]⟩) ?_ (a.length) _ ⟨0,.free,.free,by simp,by simp,by simp⟩
 intro k s ⟨j,o0,o1,hj,hp,hs⟩
 subst hs
 by_cases hjn:j<a.length
 ·have hw:=Cv (j:=j) (by omega)
  have hy:j<b.length:=by omega
  simp -implicitDefEqProofs [hjn,hy,↓Atc Atd]
  refine Aa (hg a[j] b[j] (P5 ha hjn) (P5 hb hy)) ?_
  by_cases g2:a[j]=b[j]
  ·simp -implicitDefEqProofs [g2]
   exact⟨k-1,by omega,j+1,by omega,Adh hjn hy hp g2,by simp[hw]⟩
  ·have hne:a≠b:=fun h=>g2 (by simp[h])
   simp -implicitDefEqProofs [g2,hne]
 ·obtain rfl:a=b:=Agx (by omega) hl hp
  simp -implicitDefEqProofs [hjn]
theorem AFT (h1:Aw8 (D 371)) (hE:Axq D (D 372)):VY (Body D AvE):=by
 intro a b ha hb
 simp -implicitDefEqProofs
 refine Aa (hE a b _ ha hb h1) ?_
 simp -implicitDefEqProofs
abbrev R7:Prop:=∀a b:Hello,hB a->hB b->R [arg (Ck a),arg (Ck b)] [] (B (decide (a=b))) []
theorem AfH {a b:Hello} (h1:a.versions=b.versions) (h2:a.exts=b.exts):a=b:=by cases a;cases b;simp_all
theorem Aby (hE:Uu (D 355)) (hX:VY (D 356)):R7 (Body D IW):=by
 intro a b ha hb
 simp -implicitDefEqProofs
 refine Aa (hE a.versions b.versions (by have:=ha.1;unfold maxLen;omega) (by have:=hb.1;unfold maxLen;omega)) ?_
 by_cases g1:a.versions=b.versions
 rotate_left
 ·have hne:a≠b:=fun h=>g1 (by simp[h])
  simp -implicitDefEqProofs [g1,hne]
 simp -implicitDefEqProofs [g1]
 refine Aa (hX a.exts b.exts ha.2 hb.2) ?_
 by_cases g2:a.exts=b.exts
 ·have e:=AfH g1 g2
  simp -implicitDefEqProofs [g2,e]
 ·have hne:a≠b:=fun h=>g2 (by simp[h])
  simp -implicitDefEqProofs [g2,hne]
theorem AD4 (hE:Uu (D 357)) (hX:VY (D 358)):R7 (Body D Auu):=by
 intro a b ha hb
 simp -implicitDefEqProofs
 refine Aa (hE a.versions b.versions (by have:=ha.1;unfold maxLen;omega) (by have:=hb.1;unfold maxLen;omega)) ?_
 by_cases g1:a.versions=b.versions
 rotate_left
 ·have hne:a≠b:=fun h=>g1 (by simp[h])
  simp -implicitDefEqProofs [g1,hne]
 simp -implicitDefEqProofs [g1]
 refine Aa (hX a.exts b.exts ha.2 hb.2) ?_
 by_cases g2:a.exts=b.exts
 ·have e:=AfH g1 g2
  simp -implicitDefEqProofs [g2,e]
 ·have hne:a≠b:=fun h=>g2 (by simp[h])
  simp -implicitDefEqProofs [g2,hne]
theorem Ads:∀ {path:List EG} {h:Hello},hB h->hB (Gd path h).1
 | [],h,hh=>hh
 | b::r,h,hh=>by
  unfold Gd
  split
  ·exact Ads (Ajy hh)
  ·exact Aba
theorem QY {path:List EG} {h:Hello} (hh:hB h):hB (Bd path h).1:=by
 unfold Bd
 split
 ·exact Ads hh
 ·exact Aba
theorem XO:∀ {path:List EG} {h:Hello},(Gd path h).2=true->(Gd path h).1.versions=h.versions
 | [],h,_=>rfl
 | b::r,h,hk=>by
  unfold Gd at hk⊢
  split at hk
  ·rename_i hb
   rw[if_pos hb,XO hk]
   unfold BV at hb⊢
   split at hb
   ·rename_i hc;rw[if_pos hc]
   ·cases hb
  ·cases hk
theorem Ab9 {path:List EG} {h:Hello} (hk:(Bd path h).2=true):(Bd path h).1.versions=h.versions:=by
 unfold Bd at hk⊢
 split at hk
 ·rename_i hc;rw[if_pos hc];exact XO hk
 ·cases hk
def FB (h:Hello) (path:List EG):Bool:=(Bd path h).2&&decide ((Bd path h).1=h)
abbrev Ld:Prop:=∀(h:Hello) (path:List EG),hB h->lnS Kh path->R [arg (Ck h),.sl 1 4 path.length (path.flatMap DT)] [] (B (FB h path)) []
theorem ZX (hP:Jj (D 286)) (hQ:R7 (D 328)):Ld (Body D IU):=by
 intro h path hh hb
 simp -implicitDefEqProofs
 refine Aa (hP path h hb hh) ?_
 have hr:=QY (path:=path) hh
 have e:FB h path=((Bd path h).2&&decide ((Bd path h).1=h)):=rfl
 generalize Bd path h=r at hr e
 by_cases g1:r.2=true
 rotate_left
 ·simp -implicitDefEqProofs [g1,e]
 simp -implicitDefEqProofs [g1]
 refine Aa (hQ r.1 h hr hh) ?_
 simp -implicitDefEqProofs [e,g1]
theorem ADB (hP:Jj (D 274)) (hQ:R7 (D 340)):Ld (Body D Auc):=by
 intro h path hh hb
 simp -implicitDefEqProofs
 refine Aa (hP path h hb hh) ?_
 have hr:=QY (path:=path) hh
 have e:FB h path=((Bd path h).2&&decide ((Bd path h).1=h)):=rfl
 generalize Bd path h=r at hr e
 by_cases g1:r.2=true
 rotate_left
 ·simp -implicitDefEqProofs [g1,e]
 simp -implicitDefEqProofs [g1]
 refine Aa (hQ r.1 h hr hh) ?_
 simp -implicitDefEqProofs [e,g1]
set_option maxHeartbeats 1000000
def M4 (path:List EG) (vs:List Int) (x:Ext):Bool:= !FB ⟨vs.take 1,[x]⟩ path
def FZ (path:List EG) (vs:List Int) (l:List Ext):List Int:=if Ej l&&isOpen path vs then Ba (l.filter (M4 path vs))else []
abbrev R6:Prop:=∀(path:List EG) (vs:List Int) (l:List Ext),lnS Kh path->vs.length<=4194304->OD l->R [.sl 1 4 path.length (path.flatMap DT),.sl 1 1 vs.length (ints vs),.sl 1 2 l.length (l.flatMap Cc)] [] (.sl 0 1 (FZ path vs l).length (ints (FZ path vs l))) []
theorem AnB {path:List EG} {vs:List Int} (h:isOpen path vs=true):0<vs.length:=by
 unfold isOpen at h
 simp only[Bool.and_eq_true]at h
 exact ZT h.1
theorem Ajd {p:Ext->Bool} {l:List Ext} {j:Nat} (h:j<l.length):Ba ((l.take (j+1)).filter p)=Ba ((l.take j).filter p)++(if p l[j]then [l[j].tag]else []):=by
 rw[AaH h]
 unfold Ba
 rw[List.map_append]
 split<;>simp
theorem AlJ {p:Ext->Bool} {l:List Ext} {j:Nat}:(Ba ((l.take j).filter p)).length<=j:=by
 unfold Ba
 rw[List.length_map]
 exact Adw
theorem AhU {path:List EG} {vs:List Int} {x:Ext}:M4 path vs x= !((Bd path ⟨vs.take 1,[x]⟩).2&&decide ((Bd path ⟨vs.take 1,[x]⟩).1.exts=[x])):=by
 unfold M4 FB
 by_cases h:(Bd path ⟨vs.take 1,[x]⟩).2=true
 ·have hv:=Ab9 h
  have e:decide ((Bd path ⟨vs.take 1,[x]⟩).1=⟨vs.take 1,[x]⟩)=decide ((Bd path ⟨vs.take 1,[x]⟩).1.exts=[x]):=by
   rw[decide_eq_decide]
   constructor
   ·intro h1;rw[h1]
   ·intro h1;exact AfH hv h1
  rw[e]
 ·simp[h]
theorem Ago (hA:JX (D 312)) (hO:J4 (D 260)) (hH:JZ (D 256)) (hP:Jj (D 286)) (hX:VY (D 356)):R6 (Body D Mv):=by
 intro path vs l hb hv hl
 have hll:=hl.1
 simp -implicitDefEqProofs
 refine Aa (hA l hl) ?_
 by_cases h1:Ej l=true
 rotate_left
 ·simp -implicitDefEqProofs [h1,FZ]
 simp -implicitDefEqProofs [h1]
 refine Aa (hO path vs hb hv) ?_
 by_cases h2:isOpen path vs=true
 rotate_left
 ·simp -implicitDefEqProofs [h2,h1,FZ]
 have e:FZ path vs l=Ba (l.filter (M4 path vs)):=by unfold FZ;rw[h1,h2];rfl
 have hpos:=AnB h2
 have h1l:(1:Int)<=vs.length:=by omega
 have h1n:1<=vs.length:=by omega
 have hlen:(vs.take 1).length=1:=by simp;omega
 have hmin:min 1 vs.length=1:=by omega
 rw[e]
 simp -implicitDefEqProofs [h2]
 refine Ag (fun k s=>∃j o1 o2 o3 o4 o5 o6 o7 o8,j+k=l.length/\s=⟨[.sl 1 4 path.length (path.flatMap DT),.sl 1 1 vs.length (ints vs),.sl 1 2 l.length (l.flatMap Cc),.undef,.arr 9,I j,.undef,.undef,.undef,.undef,.undef,.undef],[.free,o1,o2,o3,o4,o5,o6,o7,o8,.arr 1 0 (Ba ((l.take j).filter (M4 path vs))).length (ints (Ba ((l.take j).filter (M4 path vs))))]⟩) ?_ (l.length) _ ⟨0,.free,.free,.free,.free,.free,.free,.free,.free,by simp,by simp[Ba,ints]⟩
 intro k s ⟨j,o1,o2,o3,o4,o5,o6,o7,o8,hj,hs⟩
 subst hs
 by_cases hjn:j<l.length
 ·have hw:=Cv (j:=j) (by omega)
  have hst:=Ajd (p:=M4 path vs) hjn
  have hfl:=AlJ (p:=M4 path vs) (l:=l) (j:=j)
  have hb1:((Ba ((l.take j).filter (M4 path vs))).length+1)*8<=1099511627776:=by omega
  have hw1:IntKind.i64.wrap ((j:Int)+1)=(j:Int)+1:=Ad (by omega) (by omega)
  have hj1:j+1<=l.length:=by omega
  have hj2:(j:Int)+1<=l.length:=by omega
  have hjj:(j:Int)<=(j:Int)+1:=by omega
  have h11:j+1-j=1:=by omega
  simp -implicitDefEqProofs [hjn,h1l,h1n]
  have hh:=hH (vs.take 1) (by omega)
  rw[hlen]at hh
  refine Aa (hh) ?_
  have hdt:(l.drop j).take 1=[l[j]]:=by rw[List.drop_eq_getElem_cons hjn];rfl
  simp -implicitDefEqProofs [hmin,hw1,hj1,hj2,hjj,h11,hdt]
  have hhB:hB ⟨vs.take 1,[l[j]]⟩:=⟨by simp;omega,by simp,by intro x hx;simp at hx;subst hx;exact P5 hl hjn⟩
  have hp:=hP path ⟨vs.take 1,[l[j]]⟩ hb hhB
  have hr:=QY (path:=path) hhB
  have hq:=AhU (path:=path) (vs:=vs) (x:=l[j])
  simp -implicitDefEqProofs [hmin,arg]at hp
  refine Aa (hp) ?_
  generalize Bd path ⟨vs.take 1,[l[j]]⟩=r at hr hq
  by_cases g1:r.2=true
  rotate_left
  ·have h3:M4 path vs l[j]=true:=by rw[hq];simp[g1]
   rw[if_pos h3]at hst
   simp -implicitDefEqProofs [g1,hjn,hb1]
   exact⟨k-1,by omega,j+1,by omega,by simp[hw],by rw[hst];simp,by rw[hst]⟩
  simp -implicitDefEqProofs [g1]
  have hx:=hX r.1.exts [l[j]] hr.2 hhB.2
  simp -implicitDefEqProofs [arg]at hx
  refine Aa (hx) ?_
  by_cases g2:r.1.exts=[l[j]]
  ·have h3:¬M4 path vs l[j]=true:=by rw[hq];simp[g1,g2]
   rw[if_neg h3,List.append_nil]at hst
   simp -implicitDefEqProofs [g2]
   exact⟨k-1,by omega,j+1,by omega,by simp[hw],by rw[hst],by rw[hst]⟩
  ·have h3:M4 path vs l[j]=true:=by rw[hq];simp[g2]
   rw[if_pos h3]at hst
   simp -implicitDefEqProofs [g2,hjn,hb1]
   exact⟨k-1,by omega,j+1,by omega,by simp[hw],by rw[hst];simp,by rw[hst]⟩
 ·have e2:(l.take j).filter (M4 path vs)=l.filter (M4 path vs):=AdG (by omega)
  simp -implicitDefEqProofs [hjn,e2]
theorem AHo (hA:JX (D 320)) (hO:J4 (D 360)) (hP:Ld (D 314)):R6 (Body D Awb):=by
 intro path vs l hb hv hl
 have hll:=hl.1
 simp -implicitDefEqProofs
 refine Aa (hO path vs hb hv) ?_
 by_cases h2:isOpen path vs=true
 rotate_left
 ·simp -implicitDefEqProofs [h2,FZ]
 simp -implicitDefEqProofs [h2]
 refine Aa (hA l hl) ?_
 by_cases h1:Ej l=true
 rotate_left
 ·simp -implicitDefEqProofs [h1,FZ]
 have e:FZ path vs l=Ba (l.filter (M4 path vs)):=by unfold FZ;rw[h1,h2];rfl
 have hpos:=AnB h2
 have h1l:(1:Int)<=vs.length:=by omega
 have h1n:1<=vs.length:=by omega
 have hlen:(vs.take 1).length=1:=by simp;omega
 have hmin:min 1 vs.length=1:=by omega
 rw[e]
 simp -implicitDefEqProofs [h1]
 refine Ag (fun k s=>∃j v5 o1 o2 o3 o4,j+k=l.length/\s=⟨[.sl 1 4 path.length (path.flatMap DT),.sl 1 1 vs.length (ints vs),.undef,.undef,.arr 5,v5,.undef,.sl 1 2 l.length (l.flatMap Cc),I l.length,I j,.undef,.undef],[.free,o1,o2,o3,o4,.arr 1 0 (Ba ((l.take j).filter (M4 path vs))).length (ints (Ba ((l.take j).filter (M4 path vs))))]⟩) ?_ (l.length) _ ⟨0,.undef,.free,.free,.free,.free,by simp,by simp[Ba,ints]⟩
 intro k s ⟨j,v5,o1,o2,o3,o4,hj,hs⟩
 subst hs
 by_cases hjn:j<l.length
 ·have hw:=Cv (j:=j) (by omega)
  have hst:=Ajd (p:=M4 path vs) hjn
  have hfl:=AlJ (p:=M4 path vs) (l:=l) (j:=j)
  have hb1:((Ba ((l.take j).filter (M4 path vs))).length+1)*8<=1099511627776:=by omega
  have hhB:hB ⟨vs.take 1,[l[j]]⟩:=⟨by simp;omega,by simp,by intro x hx;simp at hx;subst hx;exact P5 hl hjn⟩
  simp -implicitDefEqProofs [hjn,h1l,h1n]
  have hp:=hP ⟨vs.take 1,[l[j]]⟩ path hhB hb
  have hq:M4 path vs l[j]= !FB ⟨vs.take 1,[l[j]]⟩ path:=rfl
  simp -implicitDefEqProofs [hmin,arg]at hp
  refine Aa (hp) ?_
  generalize FB ⟨vs.take 1,[l[j]]⟩ path=r at hq
  by_cases g1:r=true
  ·have h3:¬M4 path vs l[j]=true:=by rw[hq,g1];simp
   rw[if_neg h3,List.append_nil]at hst
   simp -implicitDefEqProofs [g1]
   exact⟨k-1,by omega,j+1,by omega,by simp[hw],by rw[hst],by rw[hst]⟩
  ·have h3:M4 path vs l[j]=true:=by rw[hq];simpa using g1
   rw[if_pos h3]at hst
   simp -implicitDefEqProofs [g1,hjn,hb1]
   exact⟨k-1,by omega,j+1,by omega,by simp[hw],by rw[hst];simp,by rw[hst]⟩
 ·have e2:(l.take j).filter (M4 path vs)=l.filter (M4 path vs):=AdG (by omega)
  simp -implicitDefEqProofs [hjn,e2]
set_option maxHeartbeats 1000000
theorem PE (a b:List Int):(leftOf a b).length<=a.length:=List.length_filter_le _ _
def ET (h:Hello) (lv lt:List Int):Hello×Bool:=if Dt h&& !decide (leftOf h.versions lv=[])then(⟨leftOf h.versions lv,kept (fun t=> !decide (t∈lt)) h.exts⟩,true)else(AU,false)
abbrev Po:Prop:=∀(h:Hello) (lv lt:List Int),hB h->lv.length<=4194304->lt.length<=4194304->R [arg (Ck h),.sl 1 1 lv.length (ints lv),.sl 1 1 lt.length (ints lt)] [] (.tup [.agg (Ck (ET h lv lt).1),B (ET h lv lt).2]) []
theorem Aeu (hI:Gr (D 285)) (hH:UQ (D 166)):Po (Body D Ku):=by
 intro h lv lt hh hv ht
 have hvl:=hh.1
 have hxl:=hh.2.1
 simp -implicitDefEqProofs
 refine Aa (hI h hh) ?_
 by_cases h1:Dt h=true
 rotate_left
 ·simp -implicitDefEqProofs [h1,ET,AU]
 have e1:leftOf h.versions lv=h.versions.filter (fun v=> !decide (v∈lv)):=rfl
 unfold ET
 rw[h1,e1]
 generalize hp:(fun v=> !decide (v∈lv))=p
 generalize hq:(fun t=> !decide (t∈lt))=q
 obtain⟨vs,hvs⟩:∃vs,vs=h.versions.filter p:=⟨_,rfl⟩
 rw[<-hvs]
 simp -implicitDefEqProofs [h1]
 refine Ag (fun k s=>∃j o3 o4,j+k=h.versions.length/\s=⟨[.undef,.sl 1 1 lv.length (ints lv),.sl 1 1 lt.length (ints lt),.ptr 0 0,.ptr 1 0,.undef,.ptr 2 0,I j,.undef,.undef,.undef,.undef,.undef,.undef,.undef],[.var ((Ck h).map (AO 1)),.var [.nil 1,.nil 2],.var [.arr 9,.arr 10],o3,o4,.free,.free,.free,.free,.arr 1 0 ((h.versions.take j).filter p).length (ints ((h.versions.take j).filter p)),.arr 2 0 0 []]⟩) ?_ (h.versions.length) _ ⟨0,.free,.free,by simp,by simp⟩
 intro k s ⟨j,o3,o4,hj,hs⟩
 subst hs
 by_cases hjn:j<h.versions.length
 ·have hw:=Cv (j:=j) (by omega)
  have hst:=LD (p:=p) hjn
  have hfl:=Oa (p:=p) (xs:=h.versions) (j:=j)
  have hb1:(((h.versions.take j).filter p).length+1)*8<=1099511627776:=by omega
  have hpv:p h.versions[j]= !decide (h.versions[j]∈lv):=by rw[<-hp]
  simp -implicitDefEqProofs [hjn]
  refine Aa (hH lv h.versions[j] (by unfold maxLen;omega)) ?_
  by_cases h2:h.versions[j]∈lv
  ·have h3:¬p h.versions[j]=true:=by rw[hpv];simpa using h2
   rw[if_neg h3,List.append_nil]at hst
   simp -implicitDefEqProofs [h2]
   exact⟨k-1,by omega,j+1,by omega,by simp[hw],by rw[hst],by rw[hst]⟩
  ·have h3:p h.versions[j]=true:=by rw[hpv];simpa using h2
   rw[if_pos h3]at hst
   simp -implicitDefEqProofs [h2,hjn,hb1]
   exact⟨k-1,by omega,j+1,by omega,by simp[hw],by rw[hst];simp,by rw[hst]⟩
 have e2:=N7 (p:=p) (xs:=h.versions) (j:=j) (by omega)
 rw[<-hvs]at e2
 simp -implicitDefEqProofs [hjn,e2]
 refine Ag (fun k s=>∃j o3 o4 o5 o6 o7 o8,j+k=h.exts.length/\s=⟨[.undef,.undef,.sl 1 1 lt.length (ints lt),.ptr 0 0,.ptr 1 0,.undef,.ptr 2 0,.undef,I j,.undef,.undef,.undef,.undef,.undef,.undef],[.var ((Ck h).map (AO 1)),.var [.nil 1,.nil 2],.var [.arr 9,.arr 10],o3,o4,o5,o6,o7,o8,.arr 1 0 vs.length (ints vs),.arr 2 0 (kept q (h.exts.take j)).length ((kept q (h.exts.take j)).flatMap Cc)]⟩) ?_ (h.exts.length) _ ⟨0,o3,o4,.free,.free,.free,.free,by simp,by simp[kept]⟩
 intro k s ⟨j,o3,o4,o5,o6,o7,o8,hj,hs⟩
 subst hs
 by_cases hjn:j<h.exts.length
 ·have hw:=Cv (j:=j) (by omega)
  have hb:=P5 hh.2 hjn
  have hb1:h.exts[j].body.length*8<=1099511627776:=by omega
  have hkl:=Rl (p:=q) (l:=h.exts) (j:=j)
  have hb2:((kept q (h.exts.take j)).length+1)*32<=1099511627776:=by omega
  have hpv:q h.exts[j].tag= !decide (h.exts[j].tag∈lt):=by rw[<-hq]
  simp -implicitDefEqProofs [hjn]
  refine Aa (hH lt h.exts[j].tag (by unfold maxLen;omega)) ?_
  by_cases h2:h.exts[j].tag∈lt
  ·have h3:¬q h.exts[j].tag=true:=by rw[hpv];simpa using h2
   have hst:=R9 (p:=q) hjn
   rw[if_neg h3,List.append_nil]at hst
   simp -implicitDefEqProofs [h2]
   exact⟨k-1,by omega,j+1,by omega,by simp[hw],by rw[hst],by rw[hst]⟩
  ·have h3:q h.exts[j].tag=true:=by rw[hpv];simpa using h2
   have hst:=NZ hjn h3
   have hsl:=G7 hjn h3
   simp -implicitDefEqProofs [h2,hjn,hb1,hb2]
   exact⟨k-1,by omega,j+1,by omega,by simp[hw],by rw[<-hsl],by rw[<-hst]⟩
 have e3:=Rq (p:=q) (l:=h.exts) (j:=j) (by omega)
 by_cases g:vs=[]
 ·simp -implicitDefEqProofs [hjn,e3,g,AU]
 ·have g':¬(vs.length:Int)=0:=by
   intro h0
   exact g (List.eq_nil_of_length_eq_zero (by omega))
  simp -implicitDefEqProofs [hjn,e3,g',g]
abbrev Awr:Prop:=∀(t:Int) (tags:List Int),tags.length<=maxLen->R [I t,.rptr 1 [.sl 0 1 tags.length (ints tags)] 0] [] (B (!decide (t∈tags))) []
theorem AFB (hH:UQ (D 188)):Awr (Body D Aur):=by
 intro t tags hl
 simp -implicitDefEqProofs
 refine Aa (hH tags t hl) ?_
 simp -implicitDefEqProofs
theorem AFp (hI:Gr (D 292)) (hL:AfF (D 189)) (h1:Awr (D 359)) (hK:At9 D (D 298)):Po (Body D Avh):=by
 intro h lv lt hh hv ht
 simp -implicitDefEqProofs
 refine Aa (hL h.versions lv hh.1 hv) ?_
 have hll:=PE h.versions lv
 unfold ET
 generalize leftOf h.versions lv=vs at hll
 simp -implicitDefEqProofs
 refine Aa (hI h hh) ?_
 by_cases g1:Dt h=true
 rotate_left
 ·simp -implicitDefEqProofs [g1,AU]
 by_cases g:vs=[]
 ·simp -implicitDefEqProofs [g1,g,AU]
 have g':¬(vs.length:Int)=0:=by
  intro h0
  exact g (List.eq_nil_of_length_eq_zero (by omega))
 simp -implicitDefEqProofs [g1,g',g]
 refine Aa (hK h.exts 359 _ (fun t=> !decide (t∈lt)) hh.2 (AzG Api) (AzJ Atd) (fun t=>h1 t lt (by unfold maxLen;omega))) ?_
 simp -implicitDefEqProofs
def fallback (h:Hello) (path:List EG):Hello×Bool:=ET h (BZ path h.versions) (FZ path (leftOf h.versions (BZ path h.versions)) h.exts)
abbrev RQ:Prop:=∀(h:Hello) (path:List EG),hB h->lnS Kh path->R [arg (Ck h),.sl 1 4 path.length (path.flatMap DT)] [] (.tup [.agg (Ck (fallback h path).1),B (fallback h path).2]) []
theorem Ad5 (path:List EG) (vs:List Int) (l:List Ext):(FZ path vs l).length<=l.length:=by
 unfold FZ Ba
 split
 ·rw[List.length_map];exact List.length_filter_le _ _
 ·simp
theorem Agl (hI:Gr (D 285)) (hLV:JH (D 222)) (hL:AfF (D 223)) (hT:R6 (D 329)) (hP:Po (D 330)):RQ (Body D GU):=by
 intro h path hh hb
 simp -implicitDefEqProofs
 refine Aa (hI h hh) ?_
 by_cases g1:Dt h=true
 rotate_left
 ·have e:fallback h path=(AU,false):=by unfold fallback ET;simp[g1]
  simp -implicitDefEqProofs [g1,e,AU]
 have hvl:=hh.1
 have hxl:=hh.2.1
 simp -implicitDefEqProofs [g1]
 refine Aa (hLV path h.versions hb hh.1) ?_
 have hll:=Am3 path h.versions
 have e:fallback h path=ET h (BZ path h.versions) (FZ path (leftOf h.versions (BZ path h.versions)) h.exts):=rfl
 rw[e]
 generalize BZ path h.versions=lv at hll
 simp -implicitDefEqProofs
 refine Aa (hL h.versions lv hh.1 (by omega)) ?_
 have hl2:=PE h.versions lv
 generalize leftOf h.versions lv=vs at hl2
 simp -implicitDefEqProofs
 refine Aa (hT path vs h.exts hb (by omega) hh.2) ?_
 have hl3:=Ad5 path vs h.exts
 generalize FZ path vs h.exts=lt at hl3
 simp -implicitDefEqProofs
 refine Aa (hP h lv lt hh (by omega) (by omega)) ?_
 generalize ET h lv lt=r
 simp -implicitDefEqProofs
theorem AG1 (hLV:JH (D 240)) (hL:AfF (D 189)) (hT:R6 (D 341)) (hP:Po (D 342)):RQ (Body D AtC):=by
 intro h path hh hb
 have hvl:=hh.1
 have hxl:=hh.2.1
 simp -implicitDefEqProofs [hvl]
 refine Aa (hLV path h.versions hb hh.1) ?_
 have hll:=Am3 path h.versions
 have e:fallback h path=ET h (BZ path h.versions) (FZ path (leftOf h.versions (BZ path h.versions)) h.exts):=rfl
 rw[e]
 generalize BZ path h.versions=lv at hll
 simp -implicitDefEqProofs
 refine Aa (hL h.versions lv hh.1 (by omega)) ?_
 have hl2:=PE h.versions lv
 generalize leftOf h.versions lv=vs at hl2
 simp -implicitDefEqProofs
 refine Aa (hT path vs h.exts hb (by omega) hh.2) ?_
 have hl3:=Ad5 path vs h.exts
 generalize FZ path vs h.exts=lt at hl3
 simp -implicitDefEqProofs
 refine Aa (hP h lv lt hh (by omega) (by omega)) ?_
 generalize ET h lv lt=r
 simp -implicitDefEqProofs
theorem Ao0 {h:Hello} {lv lt:List Int} (hh:hB h):hB (ET h lv lt).1:=by
 unfold ET
 split
 ·exact⟨Nat.le_trans (PE _ _) hh.1,QV hh.2 (fun t=> !decide (t∈lt))⟩
 ·exact Aba
theorem Ajz {h:Hello} {path:List EG} (hh:hB h):hB (fallback h path).1:=Ao0 hh
def Bg (h:Hello) (path:List EG):Hello×Int×Bool:=
 if Dt h=true then(if FB h path=true then(h,1,true)else if(fallback h path).2&&FB (fallback h path).1 path then((fallback h path).1,2,true)else(AU,2,false))else(AU,0,false)
abbrev Rs:Prop:=∀(h:Hello) (path:List EG),hB h->lnS Kh path->R [arg (Ck h),.sl 1 4 path.length (path.flatMap DT)] [] (.tup [.agg (Ck (Bg h path).1),I (Bg h path).2.1,B (Bg h path).2.2]) []
theorem Agh (hI:Gr (D 285)) (hW:Ld (D 300)) (hC:Q9 (D 301)) (hF:RQ (D 302)):Rs (Body D L9):=by
 intro h path hh hb
 simp -implicitDefEqProofs
 refine Aa (hI h hh) ?_
 by_cases g1:Dt h=true
 rotate_left
 ·simp -implicitDefEqProofs [g1,Bg,AU]
 simp -implicitDefEqProofs [g1]
 refine Aa (hW h path hh hb) ?_
 by_cases g2:FB h path=true
 ·simp -implicitDefEqProofs [g2]
  refine Aa (hC h hh) ?_
  simp -implicitDefEqProofs [Bg,g1,g2]
 simp -implicitDefEqProofs [g2]
 refine Aa (hF h path hh hb) ?_
 have hr:=Ajz (path:=path) hh
 have e:Bg h path=(if(fallback h path).2&&FB (fallback h path).1 path then((fallback h path).1,2,true)else(AU,2,false)):=by unfold Bg;rw[if_pos g1,if_neg g2]
 rw[e]
 generalize fallback h path=r at hr
 by_cases g3:r.2=true
 rotate_left
 ·simp -implicitDefEqProofs [g3,AU]
 simp -implicitDefEqProofs [g3]
 refine Aa (hW r.1 path hr hb) ?_
 by_cases g4:FB r.1 path=true
 ·simp -implicitDefEqProofs [g3,g4]
 ·simp -implicitDefEqProofs [g3,g4,AU]
theorem AHk (hI:Gr (D 292)) (hW:Ld (D 314)) (hC:Q9 (D 293)) (hF:RQ (D 315)):Rs (Body D Av6):=by
 intro h path hh hb
 simp -implicitDefEqProofs
 refine Aa (hI h hh) ?_
 by_cases g1:Dt h=true
 rotate_left
 ·simp -implicitDefEqProofs [g1,Bg,AU]
 simp -implicitDefEqProofs [g1]
 refine Aa (hW h path hh hb) ?_
 by_cases g2:FB h path=true
 ·simp -implicitDefEqProofs [g2]
  refine Aa (hC h hh) ?_
  simp -implicitDefEqProofs [Bg,g1,g2]
 simp -implicitDefEqProofs [g2]
 refine Aa (hF h path hh hb) ?_
 have hr:=Ajz (path:=path) hh
 have e:Bg h path=(if(fallback h path).2&&FB (fallback h path).1 path then((fallback h path).1,2,true)else(AU,2,false)):=by unfold Bg;rw[if_pos g1,if_neg g2]
 rw[e]
 generalize fallback h path=r at hr
 by_cases g3:r.2=true
 rotate_left
 ·simp -implicitDefEqProofs [g3,AU]
 simp -implicitDefEqProofs [g3]
 refine Aa (hW r.1 path hr hb) ?_
 by_cases g4:FB r.1 path=true
 ·simp -implicitDefEqProofs [g3,g4]
 ·simp -implicitDefEqProofs [g3,g4,AU]
theorem An3 {h:Hello} {path:List EG} (hh:hB h):hB (Bg h path).1:=by
 unfold Bg
 split
 ·split
  ·exact hh
  ·split
   ·exact Ajz hh
   ·exact Aba
 ·exact Aba
theorem AHs (hA:AsS (D 233)) (hI:Vf (D 114)):RH (Body D Awe):=by
 intro g b l p
 simp -implicitDefEqProofs
 refine Aa (hA [g,b,l] 0 10000 (by unfold maxLen;simp)) ?_
 by_cases h1:allIn [g,b,l] 0 10000=true
 rotate_left
 ·have e:J6 g b l p=0:=by
   unfold J6
   rw[if_pos]
   simp[allIn]at h1
   by_cases a:M6 g 0 10000
   ·by_cases c:M6 b 0 10000
    ·right;right;left;intro h;have:=h1 a.1 a.2 c.1 c.2 (by omega);omega
    ·exact .inr (.inl c)
   ·exact .inl a
  simp -implicitDefEqProofs [h1,e]
 have h1':M6 g 0 10000/\M6 b 0 10000/\M6 l 0 10000:=by simpa[allIn]using h1
 by_cases h2:l=0
 ·have e:J6 g b l p=0:=by unfold J6;rw[if_pos (by right;right;left;omega)]
  subst h2
  simp -implicitDefEqProofs [h1,e]
 simp -implicitDefEqProofs [h1,h2]
 refine Aa (hI _ _ _) ?_
 by_cases h4:M6 p 0 100
 rotate_left
 ·simp -implicitDefEqProofs [h2,h4,J6]
 have w1:IntKind.i64.wrap (100*b)=100*b:=Ad (by omega) (by omega)
 have w2:=AdN h4.1 h4.2 (x:=l) (by omega) (by omega)
 have w3:=AdN h4.1 h4.2 (x:=g+b) (by omega) (by omega)
 have w4:IntKind.i64.wrap (g+b)=g+b:=Ad (by omega) (by omega)
 have e:J6 g b l p=if 100*b>p*l/\100*b>p*(g+b)then 2 else if g+b<l then 0 else if 100*b<=p*(g+b)then 1 else 2:=by unfold J6;rw[if_neg (by omega)]
 rw[e]
 clear e
 by_cases c1:p*l<100*b
 ·by_cases c2:p*(g+b)<100*b
  ·simp -implicitDefEqProofs [h2,h4,w1,w2,w3,w4,c1,c2]
  ·have c3:100*b<=p*(g+b):=by omega
   by_cases c4:g+b<l
   ·simp -implicitDefEqProofs [h2,h4,w1,w2,w3,w4,c1,c2,c3,c4]
   ·simp -implicitDefEqProofs [h2,h4,w1,w2,w3,w4,c1,c2,c3,c4]
 ·by_cases c4:g+b<l
  ·simp -implicitDefEqProofs [h2,h4,w1,w2,w3,w4,c1,c4]
  ·by_cases c3:100*b<=p*(g+b)
   ·simp -implicitDefEqProofs [h2,h4,w1,w2,w3,w4,c1,c3,c4]
   ·simp -implicitDefEqProofs [h2,h4,w1,w2,w3,w4,c1,c3,c4]
theorem AGD (hB:PN (D 229)):NV (Body D Av0):=by
 intro xs v hl hu
 unfold maxLen at hl
 simp -implicitDefEqProofs
 refine Ag (fun k s=>∃j o,j+k=xs.length/\s=⟨[.undef,.sc (.int .i64 v),.undef,.undef,.sc (.int .i64 (cntF (goodD v) (xs.take j))),.sc (.int .i64 (cntF (Lj v) (xs.take j))),.undef,.sl 1 5 xs.length (xs.flatMap AB),.sc (.int .i64 xs.length),.sc (.int .i64 j),.undef,.undef,.undef],[o]⟩) ?_ xs.length _ ⟨0,.free,by simp,by simp[cntF]⟩
 intro k s ⟨j,o0,hj,hs⟩
 subst hs
 by_cases hjn:j<xs.length
 ·have hw:=Cv (j:=j) (by omega)
  have hc:=AaP (f:=goodD v) hjn
  have hb:=AaP (f:=Lj v) hjn
  have hcl:=Afa (f:=goodD v) (xs:=xs) (j:=j) (by omega)
  have hbl:=Afa (f:=Lj v) (xs:=xs) (j:=j) (by omega)
  have hw2:IntKind.i64.wrap ((cntF (goodD v) (xs.take j):Int)+1)=(cntF (goodD v) (xs.take j)+1:Nat):=by rw[Ad (by omega) (by omega)];simp
  have hw3:IntKind.i64.wrap ((cntF (Lj v) (xs.take j):Int)+1)=(cntF (Lj v) (xs.take j)+1:Nat):=by rw[Ad (by omega) (by omega)];simp
  simp -implicitDefEqProofs [hjn]
  refine Aa (hB xs[j] v (hu j hjn)) ?_
  by_cases hbd:Lj v xs[j]=true
  ·simp -implicitDefEqProofs [hbd]
   exact⟨k-1,by omega,j+1,by omega,by rw[hc];simp[goodD,hbd],by rw[hb,hw3];simp[hbd],by simp[hw]⟩
  ·by_cases h4:v<=xs[j].deal.version
   ·simp -implicitDefEqProofs [hbd,h4]
    exact⟨k-1,by omega,j+1,by omega,by rw[hc,hw2];simp[goodD,hbd,h4],by rw[hb];simp[hbd],by simp[hw]⟩
   ·simp -implicitDefEqProofs [hbd,h4]
    exact⟨k-1,by omega,j+1,by omega,by rw[hc];simp[goodD,hbd,h4],by rw[hb];simp[hbd],by simp[hw]⟩
 ·have hx:=Afj (f:=goodD v) (xs:=xs) (j:=j) (by omega)
  have hy:=Afj (f:=Lj v) (xs:=xs) (j:=j) (by omega)
  simp -implicitDefEqProofs [hjn,hx,hy]
theorem Ah3 {w:World} (h:Af w<=4194304):∀(j:Nat) (hj:j<w.stage.length),w.stage[j].up.length<=maxLen:=by
 intro j hj
 have:=size_at (f:=Cb) hj
 unfold Af at h
 have e:Cb w.stage[j]=ND w.stage[j].deal+w.stage[j].up.length:=rfl
 unfold maxLen;omega
def LB (w:World):Int:=J6 (cntF (goodD w.rollout.version) w.stage) (cntF (Lj w.rollout.version) w.stage) w.least w.percent
abbrev Pq:Prop:=∀w:World,Af w<=4194304->R [arg (Bu w)] [] (I (LB w)) []
theorem Aem (hM:NV (D 155)) (hS:RH (D 156)):Pq (Body D KW):=by
 intro w h
 simp -implicitDefEqProofs
 refine Aa (hM w.stage _ (by have:=XY h;unfold maxLen;omega) (Ah3 h)) ?_
 simp -implicitDefEqProofs
 refine Aa (hS _ _ _ _) ?_
 simp -implicitDefEqProofs [LB]
theorem AGo (hM:NV (D 193)) (hS:RH (D 194)):Pq (Body D Avf):=by
 intro w h
 simp -implicitDefEqProofs
 refine Aa (hM w.stage _ (by have:=XY h;unfold maxLen;omega) (Ah3 h)) ?_
 simp -implicitDefEqProofs
 refine Aa (hS _ _ _ _) ?_
 simp -implicitDefEqProofs [LB]
set_option maxHeartbeats 2000000
def RO (r:AX):Bool:=AP r&&(!r.off&& !decide (r.pos=(r.stages.length:Int)-1))
def Bp (r:AX):AX×Bool:=if RO r=true then(⟨r.version,r.stages,r.pos+1,r.off⟩,true)else(r,false)
abbrev PX:Prop:=∀r:AX,Db r<=4194304->R [arg (Dj r)] [] (.tup [.agg (Dj (Bp r).1),B (Bp r).2]) []
theorem Afn (hC:Je (D 66)) (hR:FX (D 145)):PX (Body D Ky):=by
 intro r h
 have hl:r.stages.length<=4194304:=h
 have hw1:IntKind.i64.wrap ((r.stages.length:Int)-1)=(r.stages.length:Int)-1:=Ad (by omega) (by omega)
 simp -implicitDefEqProofs
 refine Aa (hC r h) ?_
 simp -implicitDefEqProofs
 refine Aa (hR r hl) ?_
 by_cases h1:AP r=true
 rotate_left
 ·have e:Bp r=(r,false):=by unfold Bp RO;rw[if_neg (by simp[h1])]
  simp -implicitDefEqProofs [h1,e]
 by_cases h2:r.off=true
 ·have e:Bp r=(r,false):=by unfold Bp RO;rw[if_neg (by simp[h2])]
  simp -implicitDefEqProofs [h1,h2,e]
 have h2':r.off=false:=by simpa using h2
 have hp:=Abf h1
 have hwp:IntKind.i64.wrap (r.pos+1)=r.pos+1:=Ad (by omega) (by omega)
 obtain⟨ver,stg,pos,off⟩:=r
 dsimp only at *
 subst h2'
 by_cases h3:pos=(stg.length:Int)-1
 ·have e:Bp ⟨ver,stg,pos,false⟩=(⟨ver,stg,pos,false⟩,false):=by unfold Bp RO;rw[if_neg (by simp[h3])]
  subst h3
  simp -implicitDefEqProofs [h1,hw1,e]
 have e:Bp ⟨ver,stg,pos,false⟩=(⟨ver,stg,pos+1,false⟩,true):=by unfold Bp RO;rw[if_pos (by simp[h1,h3])]
 simp -implicitDefEqProofs [h1,hw1,h3,hwp,e]
theorem AGe (hC:Je (D 101)) (hR:FX (D 176)):PX (Body D AvI):=by
 intro r h
 have hl:r.stages.length<=4194304:=h
 have hw1:IntKind.i64.wrap ((r.stages.length:Int)-1)=(r.stages.length:Int)-1:=Ad (by omega) (by omega)
 simp -implicitDefEqProofs
 refine Aa (hC r h) ?_
 simp -implicitDefEqProofs
 refine Aa (hR r hl) ?_
 by_cases h1:AP r=true
 rotate_left
 ·have e:Bp r=(r,false):=by unfold Bp RO;rw[if_neg (by simp[h1])]
  simp -implicitDefEqProofs [h1,e]
 by_cases h2:r.off=true
 ·have e:Bp r=(r,false):=by unfold Bp RO;rw[if_neg (by simp[h2])]
  simp -implicitDefEqProofs [h1,h2,e]
 have h2':r.off=false:=by simpa using h2
 have hp:=Abf h1
 have hwp:IntKind.i64.wrap (r.pos+1)=r.pos+1:=Ad (by omega) (by omega)
 obtain⟨ver,stg,pos,off⟩:=r
 dsimp only at *
 subst h2'
 by_cases h3:pos=(stg.length:Int)-1
 ·have e:Bp ⟨ver,stg,pos,false⟩=(⟨ver,stg,pos,false⟩,false):=by unfold Bp RO;rw[if_neg (by simp[h3])]
  subst h3
  simp -implicitDefEqProofs [h1,hw1,e]
 have e:Bp ⟨ver,stg,pos,false⟩=(⟨ver,stg,pos+1,false⟩,true):=by unfold Bp RO;rw[if_pos (by simp[h1,h3])]
 simp -implicitDefEqProofs [h1,hw1,h3,hwp,e]
def VD (r:AX):Bool:=AP r&& !r.off
def BI (r:AX):AX×Bool:=if VD r=true then(⟨r.version,r.stages,0,true⟩,true)else(r,false)
abbrev Pj:Prop:=∀r:AX,Db r<=4194304->R [arg (Dj r)] [] (.tup [.agg (Dj (BI r).1),B (BI r).2]) []
theorem AeV (hC:Je (D 66)) (hR:FX (D 145)):Pj (Body D KV):=by
 intro r h
 have hl:r.stages.length<=4194304:=h
 simp -implicitDefEqProofs
 refine Aa (hC r h) ?_
 simp -implicitDefEqProofs
 refine Aa (hR r hl) ?_
 by_cases h1:AP r=true
 rotate_left
 ·have e:BI r=(r,false):=by unfold BI VD;rw[if_neg (by simp[h1])]
  simp -implicitDefEqProofs [h1,e]
 by_cases h2:r.off=true
 ·have e:BI r=(r,false):=by unfold BI VD;rw[if_neg (by simp[h2])]
  simp -implicitDefEqProofs [h1,h2,e]
 have e:BI r=(⟨r.version,r.stages,0,true⟩,true):=by unfold BI VD;rw[if_pos (by simp[h1,h2])]
 simp -implicitDefEqProofs [h1,h2,e]
theorem AFQ (hC:Je (D 101)) (hR:FX (D 176)):Pj (Body D AvF):=by
 intro r h
 have hl:r.stages.length<=4194304:=h
 simp -implicitDefEqProofs
 refine Aa (hC r h) ?_
 simp -implicitDefEqProofs
 refine Aa (hR r hl) ?_
 by_cases h1:AP r=true
 rotate_left
 ·have e:BI r=(r,false):=by unfold BI VD;rw[if_neg (by simp[h1])]
  simp -implicitDefEqProofs [h1,e]
 by_cases h2:r.off=true
 ·have e:BI r=(r,false):=by unfold BI VD;rw[if_neg (by simp[h2])]
  simp -implicitDefEqProofs [h1,h2,e]
 have e:BI r=(⟨r.version,r.stages,0,true⟩,true):=by unfold BI VD;rw[if_pos (by simp[h1,h2])]
 simp -implicitDefEqProofs [h1,h2,e]
def Tn (l:List Int) (v:Int):Bool:=AQ l&&(decide (InV v 1 9)&& !decide (v∈l))
def KT (l:List Int) (v:Int):List Int×Bool:=if Tn l v=true then(El l v,true)else(l,false)
abbrev MH:Prop:=∀(l:List Int) (v:Int),l.length<=4194304->R [.sl 1 1 l.length (ints l),I v] [] (.tup [.sl 0 1 (KT l v).1.length (ints (KT l v).1),B (KT l v).2]) []
theorem Ac5 (hA:Dr (D 208)) (hI:Vf (D 71)) (hH:UQ (D 166)) (hP:Mf (D 159)):MH (Body D I9):=by
 intro l v hl
 have hl8:l.length*8<=1099511627776:=by omega
 have hl9:(l.length+1)*8<=1099511627776:=by omega
 simp -implicitDefEqProofs [hl8]
 refine Aa (hA l (by unfold maxLen;omega)) ?_
 by_cases h1:AQ l=true
 rotate_left
 ·have e:KT l v=(l,false):=by unfold KT Tn;rw[if_neg (by simp[h1])]
  simp -implicitDefEqProofs [h1,e,hl8]
 simp -implicitDefEqProofs [h1]
 refine Aa (hI _ _ _) ?_
 by_cases h2:InV v 1 9
 rotate_left
 ·have e:KT l v=(l,false):=by unfold KT Tn;rw[if_neg (by simp[h2])]
  simp -implicitDefEqProofs [h2,e,hl8]
 simp -implicitDefEqProofs [h2]
 refine Aa (hH l v (by unfold maxLen;omega)) ?_
 by_cases h3:v∈l
 ·have e:KT l v=(l,false):=by unfold KT Tn;rw[if_neg (by simp[h3])]
  simp -implicitDefEqProofs [h3,e,hl8]
 have e:KT l v=(El l v,true):=by unfold KT Tn;rw[if_pos (by simp[h1,h2,h3])]
 simp -implicitDefEqProofs [h3]
 refine Aa (hP l v hl) ?_
 simp -implicitDefEqProofs [e]
theorem up9:∀ {l:List Int} {a:Int},Up l->(∀x,x∈l->a<x/\x<=9)->(l.length:Int)<=9-a∨l=[]
 | [],_,_,_=> .inr rfl
 | x::r,a,h,hb=>by
  rw[Up,List.pairwise_cons]at h
  have h0:=hb x (by simp)
  have:=up9 (l:=r) (a:=x) h.2 (fun y hy=>⟨h.1 y hy,(hb y (by simp[hy])).2⟩)
  left
  rcases this with h1 | rfl
  ·simp only[List.length_cons];omega
  ·simp;omega
theorem AgB {l:List Int} (h:AQ l=true):l.length<=9:=by
 have:=up9 (l:=l) (a:=0) (Ru h) (fun x hx=>by have:=RF h x hx;exact⟨by omega,by omega⟩)
 rcases this with h1 | rfl
 ·omega
 ·simp
theorem ALn {l:List Int} (h:Up l):l.Pairwise (·<=·):=List.Pairwise.imp (fun h=>by omega) h
theorem ALa:∀ {a b:List Int},a.Pairwise (·<=·)->b.Pairwise (·<=·)->a.Perm b->a=b:=fun ha hb h=>List.Perm.eq_of_pairwise (le:=fun x y:Int=>x<=y) (fun a b _ _ h1 h2=>by omega) ha hb h
theorem AKc {l:List Int} {v:Int} (h:AQ l=true) (hv:¬v∈l):Azk (l++ [v])=El l v:=by
 have hup:Up l:=Ru h
 refine ALa (AHA _) (ALn (AeM v hup)) ?_
 refine(List.mergeSort_perm _ _).trans ?_
 unfold El
 rw[if_neg (fun e=>hv (List.mem_of_getElem? e))]
 unfold Ua
 have e:l=l.take (Ei l v)++l.drop (Ei l v):=(List.take_append_drop _ _).symm
 conv=>lhs;rw[e]
 rw[List.append_assoc]
 exact List.Perm.append_left _ (List.perm_append_comm (l₁:=l.drop (Ei l v)) (l₂:=[v]))
theorem AEw (hA:Dr (D 232)) (hI:Vf (D 114)) (hH:UQ (D 188)) (hS:AIN (D 197)):MH (Body D Aup):=by
 intro l v hl
 have hl8:l.length*8<=1099511627776:=by omega
 have hl9:(l.length+1)*8<=1099511627776:=by omega
 simp -implicitDefEqProofs [hl8]
 refine Aa (hA l (by unfold maxLen;omega)) ?_
 by_cases h1:AQ l=true
 rotate_left
 ·have e:KT l v=(l,false):=by unfold KT Tn;rw[if_neg (by simp[h1])]
  simp -implicitDefEqProofs [h1,e,hl8]
 simp -implicitDefEqProofs [h1]
 refine Aa (hI _ _ _) ?_
 by_cases h2:InV v 1 9
 rotate_left
 ·have e:KT l v=(l,false):=by unfold KT Tn;rw[if_neg (by simp[h2])]
  simp -implicitDefEqProofs [h2,e,hl8]
 simp -implicitDefEqProofs [h2]
 refine Aa (hH l v (by unfold maxLen;omega)) ?_
 by_cases h3:v∈l
 ·have e:KT l v=(l,false):=by unfold KT Tn;rw[if_neg (by simp[h3])]
  simp -implicitDefEqProofs [h3,e,hl8]
 have e:KT l v=(El l v,true):=by unfold KT Tn;rw[if_pos (by simp[h1,h2,h3])]
 have hs:=AKc h1 h3
 have hsl:=AyK (l++ [v])
 rw[List.length_append]at hsl
 have hpl:(El l v).length=l.length+1:=by rw[<-hs,hsl];rfl
 simp -implicitDefEqProofs [h3,hl9]
 have hss:=hS (l++ [v]) (by have:=AgB h1;simp;omega)
 simp -implicitDefEqProofs [hs]at hss
 refine Aa (hss) ?_
 simp -implicitDefEqProofs [hpl,e]
def EC (w:World) (v:Int):World×Bool:=({w with server:=(KT w.server v).1},(KT w.server v).2)
abbrev MI:Prop:=∀(w:World) (v:Int),Af w<=4194304->R [arg (Bu w),I v] [] (.tup [.agg (Bu (EC w v).1),B (EC w v).2]) []
theorem AoI {l:List Int} {v:Int} (h:(KT l v).2=false):(KT l v).1=l:=by
 unfold KT at *
 split at h
 ·cases h
 ·rename_i hc;rw[if_neg hc]
theorem Ac0 (hC:EF (D 22)) (hA:MH (D 151)):MI (Body D Jb):=by
 intro w v hsz
 simp -implicitDefEqProofs
 refine Aa (hC w hsz) ?_
 simp -implicitDefEqProofs
 refine Aa (hA w.server v (Od hsz).1) ?_
 have hno:=AoI (l:=w.server) (v:=v)
 have e:EC w v=({w with server:=(KT w.server v).1},(KT w.server v).2):=rfl
 rw[e]
 generalize KT w.server v=r at hno
 by_cases h1:r.2=true
 ·simp -implicitDefEqProofs [h1]
 ·have:=hno (by simpa using h1)
  simp -implicitDefEqProofs [h1,this]
theorem AEL (hC:EF (D 38)) (hA:MH (D 182)):MI (Body D Auz):=by
 intro w v hsz
 simp -implicitDefEqProofs
 refine Aa (hC w hsz) ?_
 simp -implicitDefEqProofs
 refine Aa (hA w.server v (Od hsz).1) ?_
 have e:EC w v=({w with server:=(KT w.server v).1},(KT w.server v).2):=rfl
 rw[e]
 generalize KT w.server v=r
 simp -implicitDefEqProofs
theorem AnJ (l:List Int) (v:Int):(KT l v).1.length<=l.length+1:=by
 unfold KT
 split
 ·exact Rm l v
 ·dsimp only;omega
theorem Ac7 (w:World) (v:Int):Af (EC w v).1<=Af w+1:=by
 have:=AnJ w.server v
 simp only[EC,Af]
 omega
end Go.Eng.T
