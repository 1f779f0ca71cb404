/- Own work: part 46 of the proof of FnAudited. -/
import Derived.Test.YtdgpapmladligabGreatP45
import Derived.Lib.SlicesCompact
set_option linter.unusedSimpArgs false
set_option linter.unusedVariables false
namespace Go.Eng.T
set_option maxRecDepth 20000
set_option maxHeartbeats 1000000
def Vh (p q:Int):Int:=if Po q 1 1000000000000 then(p.tmod q+q).tmod q else 0
abbrev Aol (R:Rel):Prop:=∀p q:Int,R [I p,I q] [] (I (Vh p q)) []
theorem Arx (p:Int) {q:Int} (h:1≤q):-q<p.tmod q∧p.tmod q<q:=by
 have h1:=Int.tmod_lt_of_pos p (show 0<q by omega)
 have h2:=Int.lt_tmod_of_pos p (show 0<q by omega)
 omega
theorem AG2 (D:Dn) (hI:Qo (D BF)):Aol (Body D AfO):=by
 intro p q
 simp -implicitDefEqProofs
 refine Aa (hI _ _ _) ?_
 by_cases h:Po q 1 1000000000000
 rotate_left
 ·simp -implicitDefEqProofs [h,Vh]
 have h0:¬q=0:=by omega
 have hb:=Arx p (q:=q) (by omega)
 have hw:IntKind.i64.wrap (p.tmod q+q)=p.tmod q+q:=Ab (by omega) (by omega)
 have e:Vh p q=(p.tmod q+q).tmod q:=by unfold Vh;rw[if_pos h]
 simp -implicitDefEqProofs [h,h0,hw,e]
theorem AGY (D:Dn) (hI:Qo (D BB)):Aol (Body D Afo):=by
 intro p q
 simp -implicitDefEqProofs
 refine Aa (hI _ _ _) ?_
 by_cases h:Po q 1 1000000000000
 rotate_left
 ·simp -implicitDefEqProofs [h,Vh]
 have h0:¬q=0:=by omega
 have hb:=Arx p (q:=q) (by omega)
 have hw:IntKind.i64.wrap (p.tmod q+q)=p.tmod q+q:=Ab (by omega) (by omega)
 have e:Vh p q=(p.tmod q+q).tmod q:=by unfold Vh;rw[if_pos h]
 simp -implicitDefEqProofs [h,h0,hw,e]
theorem Ajl (p:Int) {q:Int} (h:Po q 1 1000000000000):0≤Vh p q∧Vh p q<q:=by
 unfold Vh
 rw[if_pos h]
 have hb:=Arx p (q:=q) (by omega)
 have h1:=Int.tmod_nonneg q (show 0≤p.tmod q+q by omega)
 have h2:=Int.tmod_lt_of_pos (p.tmod q+q) (show 0<q by omega)
 exact⟨h1,h2⟩
def QI (s v:Int):Int:=(s*1000003+Vh v 2147483647+13).tmod 2147483647
def hash (xs:List Int):Int:=xs.foldl QI 11
abbrev Xu (R:Rel):Prop:=∀xs:List Int,xs.length≤maxLen→R [.sl 1 1 xs.length (ints xs)] [] (I (hash xs)) []
theorem Azm {s v:Int} (h:0≤s):0≤QI s v∧QI s v<2147483647:=by
 have hm:=Ajl v (q:=2147483647) ⟨by omega,by omega⟩
 unfold QI
 exact⟨Int.tmod_nonneg _ (by omega),Int.tmod_lt_of_pos _ (by omega)⟩
theorem AoS {α:Type} {f:α→Int→α} {xs:List Int} {j:Nat} {a:α} (h:j<xs.length):(xs.take (j+1)).foldl f a=f ((xs.take j).foldl f a) xs[j]:=by
 have e:xs.take (j+1)=xs.take j++ [xs[j]]:=by simp
 rw[e,List.foldl_append];rfl
theorem Arz:∀(xs:List Int) {a:Int},0≤a→a<2147483647→0≤xs.foldl QI a∧xs.foldl QI a<2147483647
 | [],a,h1,h2=>⟨h1,h2⟩
 | x::xs,a,h1,h2=>by
  have:=Azm (s:=a) (v:=x) h1
  exact Arz xs this.1 this.2
theorem AE3 (D:Dn) (hM:Aol (D Apq)):Xu (Body D AbQ):=by
 intro xs hl
 unfold maxLen at hl
 simp -implicitDefEqProofs
 refine Ad (fun k s=>∃j,j+k=xs.length∧s=⟨[.sl 1 1 xs.length (ints xs),.undef,I ((xs.take j).foldl QI 11),I j,.undef],[]⟩) ?_ (xs.length) _ ⟨0,by simp,by simp⟩
 intro k s ⟨j,hj,hs⟩
 subst hs
 by_cases hjn:j<xs.length
 ·have hw:IntKind.i64.wrap ((j:Int)+1)=(j+1:Nat):=by rw[Ab (by omega) (by omega)];simp
  have hst:=AoS (f:=QI) (a:=(11:Int)) hjn
  have hb:=Arz (xs.take j) (a:=11) (by omega) (by omega)
  generalize(xs.take j).foldl QI 11=s at hst hb
  have hm:=Ajl xs[j] (q:=2147483647) ⟨by omega,by omega⟩
  have w1:IntKind.i64.wrap (s*1000003)=s*1000003:=Ab (by omega) (by omega)
  have w2:IntKind.i64.wrap (s*1000003+Vh xs[j] 2147483647)=s*1000003+Vh xs[j] 2147483647:=Ab (by omega) (by omega)
  have w3:IntKind.i64.wrap (s*1000003+Vh xs[j] 2147483647+13)=s*1000003+Vh xs[j] 2147483647+13:=Ab (by omega) (by omega)
  simp -implicitDefEqProofs [hjn,w1]
  refine Aa (hM _ _) ?_
  simp -implicitDefEqProofs [w1,w2,w3]
  exact⟨k-1,by omega,j+1,by omega,by rw[hst];rfl,by simp[hw]⟩
 ·have e:xs.take j=xs:=List.take_of_length_le (by omega)
  simp -implicitDefEqProofs [hjn,e,hash]
theorem AFK (D:Dn) (hM:Aol (D ApC)):Xu (Body D Abp):=by
 intro xs hl
 unfold maxLen at hl
 simp -implicitDefEqProofs
 refine Ad (fun k s=>∃j,j+k=xs.length∧s=⟨[.undef,.undef,I ((xs.take j).foldl QI 11),.undef,.sl 1 1 xs.length (ints xs),I xs.length,I j,.undef],[]⟩) ?_ (xs.length) _ ⟨0,by simp,by simp⟩
 intro k s ⟨j,hj,hs⟩
 subst hs
 by_cases hjn:j<xs.length
 ·have hw:IntKind.i64.wrap ((j:Int)+1)=(j+1:Nat):=by rw[Ab (by omega) (by omega)];simp
  have hst:=AoS (f:=QI) (a:=(11:Int)) hjn
  have hb:=Arz (xs.take j) (a:=11) (by omega) (by omega)
  generalize(xs.take j).foldl QI 11=s at hst hb
  have hm:=Ajl xs[j] (q:=2147483647) ⟨by omega,by omega⟩
  have w1:IntKind.i64.wrap (s*1000003)=s*1000003:=Ab (by omega) (by omega)
  have w2:IntKind.i64.wrap (s*1000003+Vh xs[j] 2147483647)=s*1000003+Vh xs[j] 2147483647:=Ab (by omega) (by omega)
  have w3:IntKind.i64.wrap (s*1000003+Vh xs[j] 2147483647+13)=s*1000003+Vh xs[j] 2147483647+13:=Ab (by omega) (by omega)
  simp -implicitDefEqProofs [hjn,w1]
  refine Aa (hM _ _) ?_
  simp -implicitDefEqProofs [w1,w2,w3]
  exact⟨k-1,by omega,j+1,by omega,by rw[hst];rfl,by simp[hw]⟩
 ·have e:xs.take j=xs:=List.take_of_length_le (by omega)
  simp -implicitDefEqProofs [hjn,e,hash]
def keyed (k:Int) (xs:List Int):Int:=hash (k::xs++ [k])
abbrev Y1 (R:Rel):Prop:=∀(k:Int) (xs:List Int),xs.length≤4194304→R [I k,.sl 1 1 xs.length (ints xs)] [] (I (keyed k xs)) []
theorem Oe (a:Int) (xs:List Int):V.sc (.int .i64 a)::ints xs=ints (a::xs):=rfl
theorem AB6 (D:Dn) (hH:Xu (D Abm)):Y1 (Body D Qy):=by
 intro k xs hl
 have b1:(1+xs.length)*8≤1099511627776:=by omega
 have b2:(1+xs.length+1)*8≤1099511627776:=by omega
 have hlen:(k::xs++ [k]).length=1+xs.length+1:=by simp;omega
 simp -implicitDefEqProofs [b1,b2]
 have hh:=hH (k::xs++ [k]) (by unfold maxLen;omega)
 rw[hlen]at hh
 simp -implicitDefEqProofs [Oe]at hh
 simp -implicitDefEqProofs [Oe]
 refine Aa (hh) ?_
 simp -implicitDefEqProofs [keyed]
def pick (seed p n:Int):Int:=if n<1 then 0 else Vh (hash [seed,p]) n
abbrev AaA (R:Rel):Prop:=∀seed p n:Int,R [I seed,I p,I n] [] (I (pick seed p n)) []
theorem AFI (D:Dn) (hH:Xu (D Abm)) (hM:Aol (D Apq)):AaA (Body D V3):=by
 intro seed p n
 by_cases h:n<1
 ·simp -implicitDefEqProofs [h,pick]
 simp -implicitDefEqProofs [h]
 refine Aa (hH [seed,p] (by unfold maxLen;simp)) ?_
 simp -implicitDefEqProofs
 refine Aa (hM _ _) ?_
 simp -implicitDefEqProofs [pick,h]
theorem AFY (D:Dn) (hH:Xu (D AaU)) (hM:Aol (D ApC)):AaA (Body D V4):=by
 intro seed p n
 by_cases h:n<1
 ·simp -implicitDefEqProofs [h,pick]
 simp -implicitDefEqProofs [h]
 refine Aa (hH [seed,p] (by unfold maxLen;simp)) ?_
 simp -implicitDefEqProofs
 refine Aa (hM _ _) ?_
 simp -implicitDefEqProofs [pick,h]
theorem TR (seed p:Int) {n:Int} (h:Po n 1 1000000000000):0≤pick seed p n∧pick seed p n<n:=by
 unfold pick
 rw[if_neg (by omega)]
 exact Ajl _ h
def Oq (seed:Int):Int:=16*pick seed 0 16+10
abbrev Ke (R:Rel):Prop:=∀seed:Int,R [I seed] [] (I (Oq seed)) []
theorem AqW (D:Dn) (hP:AaA (D Ac3)):Ke (Body D Qu):=by
 intro seed
 simp -implicitDefEqProofs
 refine Aa (hP _ _ _) ?_
 have hb:=TR seed 0 (n:=16) ⟨by omega,by omega⟩
 have w1:IntKind.i64.wrap (16*pick seed 0 16)=16*pick seed 0 16:=Ab (by omega) (by omega)
 have w2:IntKind.i64.wrap (16*pick seed 0 16+10)=16*pick seed 0 16+10:=Ab (by omega) (by omega)
 simp -implicitDefEqProofs [w1,w2,Oq]
theorem Aru (D:Dn) (hP:AaA (D AcB)):Ke (Body D Rc):=by
 intro seed
 simp -implicitDefEqProofs
 refine Aa (hP _ _ _) ?_
 have hb:=TR seed 0 (n:=16) ⟨by omega,by omega⟩
 have w1:IntKind.i64.wrap (16*pick seed 0 16)=16*pick seed 0 16:=Ab (by omega) (by omega)
 have w2:IntKind.i64.wrap (16*pick seed 0 16+10)=16*pick seed 0 16+10:=Ab (by omega) (by omega)
 simp -implicitDefEqProofs [w1,w2,Oq]
def Kw (ls:List (List Int)):Bool:=decide (ls.length≤12)&&ls.all fun l=>allIn l 0 255
abbrev KX (R:Rel):Prop:=∀ls:List (List Int),G5 ls≤4194304→R [H8 ls] [] (B (Kw ls)) []
theorem Avw (D:Dn) (hB:Zo (D WU)):KX (Body D L8):=by
 intro ls hl
 have hll:=JM (xs:=ls)
 simp -implicitDefEqProofs
 refine Ad (fun k s=>∃j,j+k=ls.length∧(ls.take j).all (fun l=>allIn l 0 255)=true∧s=⟨[H8 ls,.undef,I j,.undef,.undef],[]⟩) ?_ (ls.length) _ ⟨0,by simp,by simp,by simp⟩
 intro k s ⟨j,hj,hp,hs⟩
 subst hs
 by_cases hjn:j<ls.length
 ·have hw:IntKind.i64.wrap ((j:Int)+1)=(j+1:Nat):=by rw[Ab (by omega) (by omega)];simp
  have hst:=Yw (p:=fun l=>allIn l 0 255) hjn
  rw[hp,Bool.true_and]at hst
  have hra:=TB hjn
  simp -implicitDefEqProofs [hjn]
  refine Aa (hB _ (by unfold maxLen;omega)) ?_
  by_cases h1:allIn ls[j] 0 255=true
  ·simp -implicitDefEqProofs [h1]
   exact⟨k-1,by omega,j+1,by omega,by simpa using hst.trans h1,by simp[hw]⟩
  ·have e:Kw ls=false:=by unfold Kw;rw[Vm hjn (by simpa using h1)];simp
   simp -implicitDefEqProofs [h1,e]
 ·have e:Kw ls=decide (ls.length≤12):=by unfold Kw;rw[←Ack (j:=j) (by omega),hp];simp
  by_cases h5:ls.length≤12
  ·have h5':(ls.length:Int)≤12:=by omega
   simp -implicitDefEqProofs [hjn,e,h5,h5']
  ·have h5':¬(ls.length:Int)≤12:=by omega
   simp -implicitDefEqProofs [hjn,e,h5,h5']
abbrev Zw (R:Rel):Prop:=∀l:List Int,l.length≤maxLen→R [.sl 1 1 l.length (ints l)] [] (B (!allIn l 0 255)) []
theorem AwK (D:Dn) (hN:JN (D Ky)):Zw (Body D J8):=by
 intro l hl
 simp -implicitDefEqProofs
 refine Aa (hN _ _ _ hl) ?_
 simp -implicitDefEqProofs
theorem Axe (D:Dn) (h1':Zw (D Px)) (hC:Ig D (D GI)):KX (Body D LH):=by
 intro ls hl
 have hll:=JM (xs:=ls)
 by_cases h5:ls.length≤12
 rotate_left
 ·have h5':¬(ls.length:Int)≤12:=by omega
  simp -implicitDefEqProofs [h5',h5,Kw]
 have h5':(ls.length:Int)≤12:=by omega
 simp -implicitDefEqProofs [h5']
 refine Aa (hC ls Px [] (fun l=> !allIn l 0 255) (by unfold maxLen;omega) E5 (fun j hj=>h1' ls[j] (by have:=TB hj;unfold maxLen;omega))) ?_
 rw[Ajc]
 generalize hq:(ls.all fun l=>allIn l 0 255)=q
 simp -implicitDefEqProofs [Kw,h5,hq]
def RG (x:Int) (b:List Int):Int:=hash (x::(b.length:Int)::b)
def Jr (ls:List (List Int)):Int:=if Kw ls=true then ls.foldl RG 1 else 0
abbrev J5 (R:Rel):Prop:=∀ls:List (List Int),G5 ls≤4194304→R [H8 ls] [] (I (Jr ls)) []
theorem AlO {α β:Type} {f:α→β→α} {xs:List β} {j:Nat} {a:α} (h:j<xs.length):(xs.take (j+1)).foldl f a=f ((xs.take j).foldl f a) xs[j]:=by
 have e:xs.take (j+1)=xs.take j++ [xs[j]]:=by simp
 rw[e,List.foldl_append];rfl
theorem ApU (D:Dn) (hT:KX (D Tm)) (hH:Xu (D Abm)):J5 (Body D J2):=by
 intro ls hl
 have hll:=JM (xs:=ls)
 simp -implicitDefEqProofs
 refine Aa (hT ls hl) ?_
 by_cases h1:Kw ls=true
 rotate_left
 ·simp -implicitDefEqProofs [h1,Jr]
 simp -implicitDefEqProofs [h1]
 refine Ad (fun k s=>∃j o0 o1,j+k=ls.length∧s=⟨[H8 ls,.undef,I ((ls.take j).foldl RG 1),I j,.undef,.undef],[o0,o1]⟩) ?_ (ls.length) _ ⟨0,.free,.free,by simp,by simp⟩
 intro k s ⟨j,o0,o1,hj,hs⟩
 subst hs
 by_cases hjn:j<ls.length
 ·have hw:IntKind.i64.wrap ((j:Int)+1)=(j+1:Nat):=by rw[Ab (by omega) (by omega)];simp
  have hst:=AlO (f:=RG) (a:=(1:Int)) hjn
  have hra:=TB hjn
  have b1:(2+ls[j].length)*8≤1099511627776:=by omega
  generalize(ls.take j).foldl RG 1=x at hst
  have hh:=hH (x::(ls[j].length:Int)::ls[j]) (by unfold maxLen;simp;omega)
  have hlen:(x::(ls[j].length:Int)::ls[j]).length=2+ls[j].length:=by simp;omega
  rw[hlen]at hh
  simp only[←Oe]at hh
  simp -implicitDefEqProofs [hjn,b1]
  refine Aa (hh) ?_
  simp -implicitDefEqProofs
  exact⟨k-1,by omega,j+1,by omega,by rw[hst];rfl,by simp[hw]⟩
 ·have e:ls.take j=ls:=List.take_of_length_le (by omega)
  have e2:Jr ls=ls.foldl RG 1:=by unfold Jr;rw[if_pos h1]
  simp -implicitDefEqProofs [hjn,e,e2]
theorem Aqe (D:Dn) (hT:KX (D SY)) (hH:Xu (D AaU)):J5 (Body D Ki):=by
 intro ls hl
 have hll:=JM (xs:=ls)
 simp -implicitDefEqProofs
 refine Aa (hT ls hl) ?_
 by_cases h1:Kw ls=true
 rotate_left
 ·simp -implicitDefEqProofs [h1,Jr]
 simp -implicitDefEqProofs [h1]
 refine Ad (fun k s=>∃j o0 o1,j+k=ls.length∧s=⟨[.undef,.undef,I ((ls.take j).foldl RG 1),.undef,.undef,H8 ls,I ls.length,I j,.undef],[o0,o1]⟩) ?_ (ls.length) _ ⟨0,.free,.free,by simp,by simp⟩
 intro k s ⟨j,o0,o1,hj,hs⟩
 subst hs
 by_cases hjn:j<ls.length
 ·have hw:IntKind.i64.wrap ((j:Int)+1)=(j+1:Nat):=by rw[Ab (by omega) (by omega)];simp
  have hst:=AlO (f:=RG) (a:=(1:Int)) hjn
  have hra:=TB hjn
  have b1:(2+ls[j].length)*8≤1099511627776:=by omega
  generalize(ls.take j).foldl RG 1=x at hst
  have hh:=hH (x::(ls[j].length:Int)::ls[j]) (by unfold maxLen;simp;omega)
  have hlen:(x::(ls[j].length:Int)::ls[j]).length=2+ls[j].length:=by simp;omega
  rw[hlen]at hh
  simp only[←Oe]at hh
  simp -implicitDefEqProofs [hjn,b1]
  refine Aa (hh) ?_
  simp -implicitDefEqProofs
  exact⟨k-1,by omega,j+1,by omega,by rw[hst];rfl,by simp[hw]⟩
 ·have e:ls.take j=ls:=List.take_of_length_le (by omega)
  have e2:Jr ls=ls.foldl RG 1:=by unfold Jr;rw[if_pos h1]
  simp -implicitDefEqProofs [hjn,e,e2]
def Dj (k:Int) (ls:List (List Int)) (side:Int):Int:=if Nc k&&(Kw ls&&decide (Po side 0 1))then keyed k [side,Jr ls]else 0
abbrev RF (R:Rel):Prop:=∀(k:Int) (ls:List (List Int)) (side:Int),G5 ls≤4194304→R [I k,H8 ls,I side] [] (I (Dj k ls side)) []
theorem AAy (D:Dn) (hV:Jm (D VS)) (hT:KX (D Tm)) (hI:Qo (D BF)) (hH:J5 (D X7)) (hK:Y1 (D AhQ)):RF (Body D RZ):=by
 intro k ls side hl
 simp -implicitDefEqProofs
 refine Aa (hV k) ?_
 by_cases h1:Nc k=true
 rotate_left
 ·simp -implicitDefEqProofs [h1,Dj]
 simp -implicitDefEqProofs [h1]
 refine Aa (hT ls hl) ?_
 by_cases h2:Kw ls=true
 rotate_left
 ·simp -implicitDefEqProofs [h2,Dj]
 simp -implicitDefEqProofs [h2]
 refine Aa (hI _ _ _) ?_
 by_cases h3:Po side 0 1
 rotate_left
 ·simp -implicitDefEqProofs [h3,Dj]
 simp -implicitDefEqProofs [h3]
 refine Aa (hH ls hl) ?_
 simp -implicitDefEqProofs
 refine Aa (hK k [side,Jr ls] (by simp)) ?_
 simp -implicitDefEqProofs [Dj,h1,h2,h3]
theorem AAf (D:Dn) (hV:Jm (D Vs)) (hT:KX (D SY)) (hI:Qo (D BB)) (hH:J5 (D YW)) (hK:Y1 (D Air)):RF (Body D S9):=by
 intro k ls side hl
 simp -implicitDefEqProofs
 refine Aa (hV k) ?_
 by_cases h1:Nc k=true
 rotate_left
 ·simp -implicitDefEqProofs [h1,Dj]
 simp -implicitDefEqProofs [h1]
 refine Aa (hT ls hl) ?_
 by_cases h2:Kw ls=true
 rotate_left
 ·simp -implicitDefEqProofs [h2,Dj]
 simp -implicitDefEqProofs [h2]
 refine Aa (hI _ _ _) ?_
 by_cases h3:Po side 0 1
 rotate_left
 ·simp -implicitDefEqProofs [h3,Dj]
 simp -implicitDefEqProofs [h3]
 refine Aa (hH ls hl) ?_
 simp -implicitDefEqProofs
 refine Aa (hK k [side,Jr ls] (by simp)) ?_
 simp -implicitDefEqProofs [Dj,h1,h2,h3]
def RS (k:Int) (ls:List (List Int)) (side f:Int):Bool:= !decide (f=0)&&decide (f=Dj k ls side)
abbrev WA (R:Rel):Prop:=∀(k:Int) (ls:List (List Int)) (side f:Int),G5 ls≤4194304→R [I k,H8 ls,I side,I f] [] (B (RS k ls side f)) []
theorem Arv (D:Dn) (hF:RF (D Yl)):WA (Body D Qn):=by
 intro k ls side f hl
 by_cases h0:f=0
 ·simp -implicitDefEqProofs [h0,RS]
 simp -implicitDefEqProofs [h0]
 refine Aa (hF k ls side hl) ?_
 simp -implicitDefEqProofs [RS,h0,AdV]
end Go.Eng.T
namespace Go.Eng.T
set_option maxRecDepth 20000
set_option maxHeartbeats 1000000
theorem Zc {l:List Ext} (h:EK l=true):l.length≤6:=by
 unfold EK at h
 simp only[Bool.and_eq_true,decide_eq_true_eq]at h
 exact h.2
theorem AE5 {l:List Ext} (h:EK l=true) {j:Nat} (hj:j<l.length):Wz l j=true:=by
 unfold EK at h
 simp only[Bool.and_eq_true]at h
 exact Apv.1 h.1 j hj
theorem AbF {l:List Ext} (h:EK l=true) {j:Nat} (hj:j<l.length):l[j].body.length≤4:=by
 have:=AE5 h hj
 rw[Ae6 hj]at this
 unfold X5 at this
 simp only[Bool.and_eq_true,decide_eq_true_eq]at this
 exact this.1.2.1
def AIr (x:Ext):List Int:=x.tag::(x.body.length:Int)::x.body
def NN (l:List Ext) (j:Nat):List Int:=(l.length:Int)::(l.take j).flatMap AIr
theorem AaR {l:List Ext} {j:Nat} (h:j<l.length):NN l (j+1)=NN l j++([l[j].tag,(l[j].body.length:Int)]++l[j].body):=by
 have e:l.take (j+1)=l.take j++ [l[j]]:=by simp
 unfold NN
 rw[e,List.flatMap_append]
 simp[AIr]
theorem Zh {l:List Ext} (h:EK l=true):∀j,j≤l.length→(NN l j).length≤1+6*j
 | 0,_=>by simp[NN]
 | j+1,hj=>by
  have ih:=Zh h j (by omega)
  have hb:=AbF h (j:=j) (by omega)
  rw[AaR (by omega)]
  simp only[List.length_append,List.length_cons,List.length_nil]
  omega
def ES (l:List Ext):List Int×Bool:=if EK l=true then(NN l l.length,true)else([],false)
abbrev Gq (R:Rel):Prop:=∀l:List Ext,UY l→R [.sl 1 2 l.length (l.flatMap Bw)] [] (.tup [.sl 0 1 (ES l).1.length (ints (ES l).1),B (ES l).2]) []
theorem AoL (D:Dn) (hA:Gc (D KW)):Gq (Body D Ox):=by
 intro l hl
 have hll:=hl.1
 simp -implicitDefEqProofs
 refine Aa (hA l hl) ?_
 by_cases h1:EK l=true
 rotate_left
 ·have e:ES l=([],false):=by unfold ES;rw[if_neg h1]
  simp -implicitDefEqProofs [h1,e]
 simp -implicitDefEqProofs [h1]
 refine Ad (fun k s=>∃j o2 o3 o4,j+k=l.length∧s=⟨[.sl 1 2 l.length (l.flatMap Bw),.undef,.undef,.arr 5,I j,.undef,.undef],[.free,.free,o2,o3,o4,.arr 1 0 (NN l j).length (ints (NN l j))]⟩) ?_ (l.length) _ ⟨0,.free,.free,.free,by simp,by simp[NN,ints]⟩
 intro k s ⟨j,o2,o3,o4,hj,hs⟩
 subst hs
 by_cases hjn:j<l.length
 ·have hw:IntKind.i64.wrap ((j:Int)+1)=(j+1:Nat):=by rw[Ab (by omega) (by omega)];simp
  have hst:=AaR hjn
  have hle:=Zh h1 j (by omega)
  have h6:=Zc h1
  have hb4:=AbF h1 hjn
  have b1:((NN l j).length+2)*8≤1099511627776:=by omega
  have b2:((NN l j).length+2+l[j].body.length)*8≤1099511627776:=by omega
  simp -implicitDefEqProofs [hjn,b1,b2]
  exact⟨k-1,by omega,j+1,by omega,by simp[hw],by rw[hst];simp;omega,by rw[hst];simp[ints]⟩
 ·obtain rfl:j=l.length:=by omega
  have e:ES l=(NN l l.length,true):=by unfold ES;rw[if_pos h1]
  simp -implicitDefEqProofs [e]
theorem Am0 (D:Dn) (hA:Gc (D K9)):Gq (Body D OY):=by
 intro l hl
 have hll:=hl.1
 simp -implicitDefEqProofs
 refine Aa (hA l hl) ?_
 by_cases h1:EK l=true
 rotate_left
 ·have e:ES l=([],false):=by unfold ES;rw[if_neg h1]
  simp -implicitDefEqProofs [h1,e]
 simp -implicitDefEqProofs [h1]
 refine Ad (fun k s=>∃j o1 o2 o3 o4,j+k=l.length∧s=⟨[.undef,.undef,.undef,.arr 5,.undef,.undef,.sl 1 2 l.length (l.flatMap Bw),I l.length,I j,.undef],[.free,o1,o2,o3,o4,.arr 1 0 (NN l j).length (ints (NN l j))]⟩) ?_ (l.length) _ ⟨0,.free,.free,.free,.free,by simp,by simp[NN,ints]⟩
 intro k s ⟨j,o1,o2,o3,o4,hj,hs⟩
 subst hs
 by_cases hjn:j<l.length
 ·have hw:IntKind.i64.wrap ((j:Int)+1)=(j+1:Nat):=by rw[Ab (by omega) (by omega)];simp
  have hst:=AaR hjn
  have hle:=Zh h1 j (by omega)
  have h6:=Zc h1
  have hb4:=AbF h1 hjn
  have b1:((NN l j).length+2)*8≤1099511627776:=by omega
  have b2:((NN l j).length+2+l[j].body.length)*8≤1099511627776:=by omega
  simp -implicitDefEqProofs [hjn,b1,b2]
  exact⟨k-1,by omega,j+1,by omega,by simp[hw],by rw[hst];simp;omega,by rw[hst];simp[ints]⟩
 ·obtain rfl:j=l.length:=by omega
  have e:ES l=(NN l l.length,true):=by unfold ES;rw[if_pos h1]
  simp -implicitDefEqProofs [e]
theorem Mv (l:List Ext):(ES l).1.length≤37:=by
 unfold ES
 split
 ·rename_i h
  have:=Zh h l.length (Nat.le_refl _)
  have:=Zc h
  dsimp only;omega
 ·simp
def Bb (h:Hello):List Int:=if CB h=true then((h.versions.length:Int)::h.versions)++(ES h.exts).1 else []
abbrev IW (R:Rel):Prop:=∀h:Hello,hB h→R [arg (CP h)] [] (.sl 0 1 (Bb h).length (ints (Bb h))) []
theorem AzF {h:Hello} (hh:CB h=true):AU h.versions=true:=by unfold CB at hh;simp only[Bool.and_eq_true]at hh;exact hh.1
theorem AoO (D:Dn) (hI:Eo (D GJ)) (hE:Gq (D Vz)):IW (Body D O9):=by
 intro h hh
 have hv:=hh.1
 simp -implicitDefEqProofs
 refine Aa (hI h hh) ?_
 by_cases h1:CB h=true
 rotate_left
 ·simp -implicitDefEqProofs [h1,Bb]
 have hl:=Mv h.exts
 have e:Bb h=((h.versions.length:Int)::h.versions)++(ES h.exts).1:=by unfold Bb;rw[if_pos h1]
 rw[e]
 simp -implicitDefEqProofs [h1]
 refine Aa (hE h.exts hh.2) ?_
 generalize(ES h.exts).1=r at hl
 have b1:(1+h.versions.length)*8≤1099511627776:=by omega
 have b2:(1+h.versions.length+r.length)*8≤1099511627776:=by omega
 have el:h.versions.length+r.length+1=1+h.versions.length+r.length:=by omega
 simp -implicitDefEqProofs [b1,b2,Oe,Amz,el]
def JL (a:SE):Bool:=decide (InV a.version 1 9)&&EK a.exts
def AJ (a:SE):List Int:=if JL a=true then a.version::(ES a.exts).1 else []
abbrev Jp (R:Rel):Prop:=∀a:SE,UY a.exts→R [arg (Zp a)] [] (B (JL a)) []
theorem AsV (D:Dn) (hI:Qo (D BF)) (hE:Gc (D KW)):Jp (Body D SB):=by
 intro a ha
 simp -implicitDefEqProofs
 refine Aa (hI _ _ _) ?_
 by_cases h1:InV a.version 1 9
 rotate_left
 ·simp -implicitDefEqProofs [h1,JL]
 simp -implicitDefEqProofs [h1]
 refine Aa (hE _ ha) ?_
 simp -implicitDefEqProofs [JL,h1]
theorem AuB (D:Dn) (hI:Qo (D BB)) (hE:Gc (D K9)):Jp (Body D Sk):=by
 intro a ha
 simp -implicitDefEqProofs
 refine Aa (hI _ _ _) ?_
 by_cases h1:InV a.version 1 9
 rotate_left
 ·simp -implicitDefEqProofs [h1,JL]
 simp -implicitDefEqProofs [h1]
 refine Aa (hE _ ha) ?_
 simp -implicitDefEqProofs [JL,h1]
abbrev HV (R:Rel):Prop:=∀a:SE,UY a.exts→R [arg (Zp a)] [] (.sl 0 1 (AJ a).length (ints (AJ a))) []
theorem AhB (a:SE):(AJ a).length≤38:=by
 unfold AJ
 have:=Mv a.exts
 split
 ·simp only[List.length_cons];omega
 ·simp
theorem Ake (D:Dn) (hI:Jp (D YT)) (hE:Gq (D Vz)):HV (Body D MW):=by
 intro a ha
 simp -implicitDefEqProofs
 refine Aa (hI a ha) ?_
 by_cases h1:JL a=true
 rotate_left
 ·have e:AJ a=[]:=by unfold AJ;rw[if_neg h1]
  simp -implicitDefEqProofs [h1,e]
 have hl:=Mv a.exts
 have e:AJ a=a.version::(ES a.exts).1:=by unfold AJ;rw[if_pos h1]
 rw[e]
 simp -implicitDefEqProofs [h1]
 refine Aa (hE a.exts ha) ?_
 generalize(ES a.exts).1=r at hl
 have b2:(1+r.length)*8≤1099511627776:=by omega
 have el:r.length+1=1+r.length:=by omega
 simp -implicitDefEqProofs [b2,Oe,el]
theorem AkG (D:Dn) (hI:Jp (D Yz)) (hE:Gq (D VK)):HV (Body D Nb):=by
 intro a ha
 simp -implicitDefEqProofs
 refine Aa (hI a ha) ?_
 by_cases h1:JL a=true
 rotate_left
 ·have e:AJ a=[]:=by unfold AJ;rw[if_neg h1]
  simp -implicitDefEqProofs [h1,e]
 have hl:=Mv a.exts
 have e:AJ a=a.version::(ES a.exts).1:=by unfold AJ;rw[if_pos h1]
 rw[e]
 simp -implicitDefEqProofs [h1]
 refine Aa (hE a.exts ha) ?_
 generalize(ES a.exts).1=r at hl
 have b2:(1+r.length)*8≤1099511627776:=by omega
 have el:r.length+1=1+r.length:=by omega
 simp -implicitDefEqProofs [b2,Oe,el]
def Am1 (h:Hello) (x:Ext):Bool:=decide (x.tag∈Ap h.exts)&& !Au x.tag
def EH (h:Hello) (a:SE):Bool:=CB h&&(JL a&&(decide (a.version∈h.versions)&&a.exts.all (Am1 h)))
abbrev JW (R:Rel):Prop:=∀(h:Hello) (a:SE),hB h→UY a.exts→R [arg (CP h),arg (Zp a)] [] (B (EH h a)) []
theorem ADT {α:Type} {p:α→Bool} {xs:List α} {i:Int} (h:0≤i):(GR p xs i<0)=¬(xs.any p=true):=by
 have:=RH (p:=p) (xs:=xs) h
 rw[←this]
 exact propext ⟨fun h=>by omega,fun h=>by omega⟩
theorem AFA (l:List Ext) (t:Int):l.any (Hl t)=decide (t∈Ap l):=by
 rw[Bool.eq_iff_iff]
 simp only[List.any_eq_true,decide_eq_true_eq,Ap,List.mem_map,Hl]
theorem Mk (l:List Ext) (t:Int):(JH l t<0)=¬(t∈Ap l):=by
 unfold JH
 rw[ADT (by omega),AFA]
 simp
theorem Aq3 (D:Dn) (hX:Rb (D TJ)) (hR:FL (D Ou)) (hI:Eo (D GJ)) (hA:Jp (D YT)) (hH:PX (D GA)):JW (Body D Rh):=by
 intro h a hh ha
 have hal:=ha.1
 have hxl:=hh.2.1
 have hvl:=hh.1
 simp -implicitDefEqProofs
 refine Ad (fun k s=>∃j,j+k=a.exts.length∧(a.exts.take j).all (Am1 h)=true∧s=⟨[.undef,.undef,.ptr 0 0,.ptr 1 0,.undef,I j,.undef,.undef],[.var ((CP h).map (AL 1)),.var ((Zp a).map (AL 1))]⟩) ?_ (a.exts.length) _ ⟨0,by simp,by simp,by simp⟩
 intro k s ⟨j,hj,hp,hs⟩
 subst hs
 by_cases hjn:j<a.exts.length
 ·have hw:IntKind.i64.wrap ((j:Int)+1)=(j+1:Nat):=by rw[Ab (by omega) (by omega)];simp
  have hst:=Yw (p:=Am1 h) hjn
  rw[hp,Bool.true_and]at hst
  simp -implicitDefEqProofs [hjn]
  refine Aa (hX h.exts _ (by unfold maxLen;omega)) ?_
  by_cases h1:a.exts[j].tag∈Ap h.exts
  rotate_left
  ·have e:EH h a=false:=by unfold EH;rw[Vm hjn (by simp[Am1,h1])];simp
   have h1':JH h.exts a.exts[j].tag<0:=by rw[Mk];exact h1
   simp -implicitDefEqProofs [h1',e]
  have h1':¬JH h.exts a.exts[j].tag<0:=by rw[Mk];simpa using h1
  simp -implicitDefEqProofs [h1',hjn]
  refine Aa (hR _) ?_
  by_cases h2:Au a.exts[j].tag=true
  ·have e:EH h a=false:=by unfold EH;rw[Vm hjn (by simp[Am1,h2])];simp
   simp -implicitDefEqProofs [h2,e]
  ·simp -implicitDefEqProofs [h2]
   exact⟨k-1,by omega,j+1,by omega,by simpa using hst.trans (show Am1 h a.exts[j]=true by simp[Am1,h1,h2]),by simp[hw]⟩
 ·have e:a.exts.all (Am1 h)=true:=by rw[←Ack (j:=j) (by omega),hp]
  simp -implicitDefEqProofs [hjn]
  refine Aa (hI h hh) ?_
  by_cases g1:CB h=true
  rotate_left
  ·simp -implicitDefEqProofs [g1,EH]
  simp -implicitDefEqProofs [g1]
  refine Aa (hA a ha) ?_
  by_cases g2:JL a=true
  rotate_left
  ·simp -implicitDefEqProofs [g2,EH]
  simp -implicitDefEqProofs [g2]
  refine Aa (hH _ _ (by unfold maxLen;omega)) ?_
  have e2:EH h a=decide (a.version∈h.versions):=by unfold EH;rw[e,g1,g2];simp
  simp -implicitDefEqProofs [e2]
abbrev WR (R:Rel):Prop:=∀l:List Ext,l.length≤4194304→R [.sl 1 2 l.length (l.flatMap Bw)] [] (B ((Ap l).any Au)) []
theorem Arw (D:Dn) (hT:Lp (D Rz)) (hH:Mt (D NS)):WR (Body D QC):=by
 intro l hl
 simp -implicitDefEqProofs
 refine Aa (hT l hl) ?_
 simp -implicitDefEqProofs
 refine Aa (hH (Ap l) (by rw[M0];unfold maxLen;omega)) ?_
 generalize(Ap l).any Au=q
 simp -implicitDefEqProofs
theorem AFV (h:Hello) (a:SE):a.exts.all (Am1 h)=(decide (leftOf (Ap a.exts) (Ap h.exts)=[])&& !(Ap a.exts).any Au):=by
 have h1:decide (leftOf (Ap a.exts) (Ap h.exts)=[])=a.exts.all fun x=>decide (x.tag∈Ap h.exts):=by
  rw[Bool.eq_iff_iff,decide_eq_true_eq,List.all_eq_true]
  unfold leftOf
  rw[List.filter_eq_nil_iff]
  constructor
  ·intro hp x hx
   have:=hp x.tag (List.mem_map.2 ⟨x,hx,rfl⟩)
   simpa using this
  ·intro hp v hv
   obtain⟨x,hx,rfl⟩:=List.mem_map.1 hv
   simpa using hp x hx
 have h2:(!(Ap a.exts).any Au)=a.exts.all fun x=> !Au x.tag:=by
  unfold Ap
  rw[List.any_map,List.all_eq_not_any_not]
  simp[Function.comp_def]
 rw[h1,h2]
 generalize a.exts=l
 induction l with
 | nil=>rfl
 | cons x r ih=>
  simp only[List.all_cons,ih,Am1]
  generalize decide (x.tag∈Ap h.exts)=p1
  generalize Au x.tag=p2
  cases p1<;>cases p2<;>simp
theorem Aqq (D:Dn) (hI:Eo (D Im)) (hA:Jp (D Yz)) (hH:PX (D Bq)) (hT:Lp (D Rz)) (hL:Xz (D Ph)) (hG:WR (D Aie)):JW (Body D Qx):=by
 intro h a hh ha
 have hal:=ha.1
 have hxl:=hh.2.1
 have hvl:=hh.1
 simp -implicitDefEqProofs
 refine Aa (hI h hh) ?_
 by_cases g1:CB h=true
 rotate_left
 ·simp -implicitDefEqProofs [g1,EH]
 simp -implicitDefEqProofs [g1]
 refine Aa (hA a ha) ?_
 by_cases g2:JL a=true
 rotate_left
 ·simp -implicitDefEqProofs [g2,EH]
 simp -implicitDefEqProofs [g2]
 refine Aa (hH _ _ (by unfold maxLen;omega)) ?_
 by_cases g3:a.version∈h.versions
 rotate_left
 ·simp -implicitDefEqProofs [g3,EH]
 have e2:EH h a=(decide (leftOf (Ap a.exts) (Ap h.exts)=[])&& !(Ap a.exts).any Au):=by unfold EH;rw[AFV,g1,g2];simp[g3]
 rw[e2]
 simp -implicitDefEqProofs [g3]
 refine Aa (hT a.exts hal) ?_
 simp -implicitDefEqProofs
 refine Aa (hT h.exts hxl) ?_
 simp -implicitDefEqProofs
 refine Aa (hL (Ap a.exts) (Ap h.exts) (by rw[M0];exact hal) (by rw[M0];exact hxl)) ?_
 by_cases g4:leftOf (Ap a.exts) (Ap h.exts)=[]
 rotate_left
 ·simp -implicitDefEqProofs [g4,AdV]
 simp -implicitDefEqProofs [g4,AdV]
 refine Aa (hG a.exts hal) ?_
 generalize(Ap a.exts).any Au=q
 simp -implicitDefEqProofs
def Bh (vs tags:List Int) (h:Hello):SE×Bool:=if CB h&& !decide (Be vs h.versions=0)then(⟨Be vs h.versions,AaQ (Ll h.exts tags)⟩,true)else(⟨0,[]⟩,false)
abbrev TW (R:Rel):Prop:=∀(vs tags:List Int) (h:Hello),vs.length≤4194304→tags.length≤4194304→hB h→R [.sl 1 1 vs.length (ints vs),.sl 1 1 tags.length (ints tags),arg (CP h)] [] (.tup [.agg (Zp (Bh vs tags h).1),B (Bh vs tags h).2]) []
theorem AAt (D:Dn) (hB':DY (D Iy)) (hI:Eo (D GJ)) (hK:Nk (D Aam)) (hS:Ia (D Adq)):TW (Body D L6):=by
 intro vs tags h hv ht hh
 simp -implicitDefEqProofs
 refine Aa (hB' vs h.versions hv hh.1) ?_
 simp -implicitDefEqProofs
 refine Aa (hI h hh) ?_
 by_cases h1:CB h=true
 rotate_left
 ·simp -implicitDefEqProofs [h1,Bh]
 by_cases h2:Be vs h.versions=0
 ·simp -implicitDefEqProofs [h1,h2,Bh]
 have e:Bh vs tags h=(⟨Be vs h.versions,AaQ (Ll h.exts tags)⟩,true):=by unfold Bh;rw[if_pos (by simp[h1,h2])]
 simp -implicitDefEqProofs [h1,h2]
 refine Aa (hK h.exts tags hh.2 (by unfold maxLen;omega)) ?_
 simp -implicitDefEqProofs
 refine Aa (hS (Ll h.exts tags) (VW hh.2 _)) ?_
 simp -implicitDefEqProofs [e]
theorem AAv (D:Dn) (hB':DY (D Om)) (hI:Eo (D Im)) (hK:Nk (D AnF)) (hS:Ia (D Aep)):TW (Body D LV):=by
 intro vs tags h hv ht hh
 simp -implicitDefEqProofs
 refine Aa (hB' vs h.versions hv hh.1) ?_
 simp -implicitDefEqProofs
 refine Aa (hI h hh) ?_
 by_cases h1:CB h=true
 rotate_left
 ·simp -implicitDefEqProofs [h1,Bh]
 by_cases h2:Be vs h.versions=0
 ·simp -implicitDefEqProofs [h1,h2,Bh]
 have e:Bh vs tags h=(⟨Be vs h.versions,AaQ (Ll h.exts tags)⟩,true):=by unfold Bh;rw[if_pos (by simp[h1,h2])]
 simp -implicitDefEqProofs [h1,h2]
 refine Aa (hK h.exts tags hh.2 (by unfold maxLen;omega)) ?_
 simp -implicitDefEqProofs
 refine Aa (hS (Ll h.exts tags) (VW hh.2 _)) ?_
 simp -implicitDefEqProofs [e]
end Go.Eng.T
namespace Go.Eng.T
open Go.Eng.X
def Yf:Nat→Bj
 |0=>R 0 [m f] [] [1]
 |_=>R 1 [m (s 0),e (l 0),y .gtr (l 1) (i 1048576),m (l 2)] [(1,3)] [0]
def AeZ:Bl:=⟨2,0,[0],0,false,[],j (d (Yf 0)) (j (d (Yf 1)) (.ret)),[.slot 1]⟩
def AsL:List Tmp:=[0,2]
def Ea:Nat→Bj
 |0=>R 0 [x 0 (s 0),a 1 zW] [(2,0),(3,1)] [0]
 |1=>Q 1 [P 15 (s 2),C 22 [r (l 0)] [2,3,4,5,6,7],a 8 zW,W 15 (l 2) (l 1)] [(4,2)] [2] [] [w 2 15,w 3 16,w 6 19,w 7 20,w 4 17,w 5 18]
 |2=>R 2 [m (i 0)] [(5,0)] []
 |3=>R 3 [m (s 5),m (s 1),e (l 1),y .lss (l 0) (l 2)] [(6,3)] []
 |4=>Y 5 [D (P 15 (s 4)) [8] [],D (m (s 1)) [] [],D (m (s 5)) [] [],D (A 6 (l 1) (l 2)) [] [],D (P 6 (l 3)) [] [],D (C 27 [r (l 0),r (l 4)] [9,10,11,12,13,14]) [9,10,11,12,13,14,15,16,17,18,19,20] [9,10,11,12,13,14],D (m (l 5)) [] [],D (X (l 6) 0) [] [],D (X (l 6) 1) [] [],D (W 15 (s 4) (l 7)) [8] [8]] [] [] [9,10,11,12,13,14] [w 9 15,w 10 16,w 13 19,w 14 20,w 11 17,w 12 18]
 |5=>R 4 [m (s 5),y .add (l 0) (i 1),m (l 1)] [(5,2)] []
 |_=>R 6 [P 15 (s 4),W 15 (s 3) (l 0)] [] [1,4,5]
def QE:Bl:=⟨7,21,[0,1],0,false,[],j (d (Ea 0)) (j (d (Ea 1)) (j (j (d (Ea 2)) (.block 0 (.loop (j (j (d (Ea 3)) (h 6 (.skip) (.exit 0))) (j (.block 1 (d (Ea 4))) (d (Ea 5))))))) (j (d (Ea 6)) (.ret)))),[.cell 3 (some 15)]⟩
def Ac4:List Tmp:=[0,1,2,4,5,6,12]
attribute [simp] Yf AeZ Ea QE
end Go.Eng.T
namespace Go.Eng.T
open Go.Eng.X
def Gz:Nat→Bj
 |0=>R 0 [m u] [] [1]
 |1=>R 1 [m (s 0),e (l 0),y .add (i 193017) (l 1),m (l 2)] [(2,3)] []
 |2=>R 2 [m (i 0)] [(3,0)] []
 |3=>R 3 [m (s 3),m (s 0),e (l 1),y .lss (l 0) (l 2),m (l 3),J 4 (m (s 3)),J 4 (y .lss (l 5) (i 4000)),k (l 4) (l 6) f] [(4,7)] []
 |4=>R 5 [m (s 2),y .mul (l 0) (i 137),m (s 0),m (s 3),A 1 (l 2) (l 3),L (l 4),Lu.conv .i64 (l 5),y .add (l 1) (l 6),y .add (l 7) (i 11),y .and (l 8) (i 1073741823),m (l 9)] [(2,10)] []
 |5=>R 4 [m (s 3),y .add (l 0) (i 1),m (l 1)] [(3,2)] []
 |_=>R 6 [m (s 0),m (s 2),b [N 1,o,o] [(0,1,l 0),(2,1,l 1)],x 0 (l 2),m (l 3)] [(1,4)] [0,2,3]
def Qa:Bl:=⟨5,1,[0],0,false,[],j (d (Gz 0)) (j (d (Gz 1)) (j (j (d (Gz 2)) (.block 0 (.loop (j (j (d (Gz 3)) (h 4 (.skip) (.exit 0))) (j (.block 1 (d (Gz 4))) (d (Gz 5))))))) (j (d (Gz 6)) (.ret)))),[.slot 1]⟩
def Aoh:List Tmp:=[0,2,3,4,15]
def E8:Nat→Bj
 |0=>R 0 [m (z 1)] [] [1]
 |1=>Q 1 [m (s 0),C 478 [v (l 0),r (i 4)] [],y .add (i 1) (l 1),M 1 1 1 [l 2],m (l 3)] [(2,4)] [] [] [w 1 3]
 |2=>R 2 [m (s 0),C 478 [v (l 0),r (i 4)] [],m (l 1)] [(3,2)] []
 |3=>R 3 [m (s 3),y .gtr (l 0) (i 0)] [(4,1)] []
 |4=>Q 5 [m (s 2),m (s 0),C 478 [v (l 1),r (i 6)] [],y .add (i 1) (l 2),C 159 [r (l 0),r (l 3)] [2],m (l 4)] [(2,5)] [] [2] [w 2 3]
 |5=>R 4 [m (s 3),y .sub (l 0) (i 1),m (l 1)] [(3,2)] []
 |_=>R 6 [m (s 2),m (l 0)] [(1,1)] [0,2,3]
def Pj:Bl:=⟨5,4,[0],1,false,[],j (d (E8 0)) (j (d (E8 1)) (j (j (d (E8 2)) (.block 0 (.loop (j (j (d (E8 3)) (h 4 (.skip) (.exit 0))) (j (.block 1 (d (E8 4))) (d (E8 5))))))) (j (d (E8 6)) (.ret)))),[.slot 1]⟩
def Ag4:List Tmp:=[0,2,3,4,12]
def DJ:Nat→Bj
 |0=>R 0 [m (i 0)] [] [2]
 |1=>R 1 [m (s 1),y .leq (l 0) (i 0)] [(6,1)] []
 |2=>R 2 [m (i 0)] [(2,0)] [0,1]
 |3=>R 3 [m (s 1),y .leq (l 0) (i 256)] [(7,1)] []
 |4=>R 4 [m (s 0),C 486 [v (l 0)] [],m (s 1),y .rem (l 1) (l 2),m (l 3)] [(2,4)] [0,1]
 |5=>R 5 [m (s 0),C 486 [v (l 0)] [],m (l 1)] [(3,2)] []
 |6=>R 6 [m (s 0),C 486 [v (l 0)] [],m (l 1)] [(4,2)] []
 |7=>R 7 [m (s 0),C 486 [v (l 0)] [],m (l 1)] [(5,2)] [0]
 |_=>R 8 [m (s 3),y .mul (l 0) (i 65536),m (s 4),y .mul (l 2) (i 256),y .add (l 1) (l 3),m (s 5),y .add (l 4) (l 5),m (s 1),y .rem (l 6) (l 7),m (l 8)] [(2,9)] [1,3,4,5]
def Pd:Bl:=⟨8,1,[0,1],1,false,[],j (d (DJ 0)) (j (j (d (DJ 1)) (h 6 (j (d (DJ 2)) (.ret)) (.skip))) (j (j (d (DJ 3)) (h 7 (j (d (DJ 4)) (.ret)) (.skip))) (j (d (DJ 5)) (j (d (DJ 6)) (j (d (DJ 7)) (j (d (DJ 8)) (.ret))))))),[.slot 2]⟩
def AhK:List Tmp:=[0,1,4,5,6,7,9,11]
def Fe:Nat→Bj
 |0=>R 0 [a 1 zE] [(1,0)] []
 |1=>Q 1 [m (s 0),C 490 [v (l 0)] [2],m (s 0),C 493 [v (l 2)] [3],m (s 0),C 478 [v (l 4),r (i 6)] [],b zE [(0,1,l 1),(2,1,l 3),(3,1,l 5)],a 4 zE,W 4 (l 7) (l 6)] [(2,7)] [] [] [.ownc 4 1 7]
 |2=>R 2 [m (s 0),C 478 [v (l 0),r (i 4)] [],m (l 1)] [(3,2)] []
 |3=>R 3 [m (s 3),y .gtr (l 0) (i 0)] [(4,1)] []
 |4=>Y 5 [D (F (s 2) 1) [] [],D (L (l 0)) [4] [],D (m (s 0)) [] [],D (M 5 1 5 [i 1,i 2,i 3,i 40,i 200]) [5] [5],D (C 481 [v (l 2),r (l 3)] []) [0,5] [0],D (C 159 [r (l 1),r (l 4)] [6]) [6,7] [6],D (F (s 2) 1) [] [],D (W 1 (l 6) (l 5)) [4] [4]] [] [] [5,6] [w 6 7]
 |5=>R 4 [m (s 3),y .sub (l 0) (i 1),m (l 1)] [(3,2)] []
 |_=>R 6 [P 4 (s 2),W 4 (s 1) (l 0)] [] [0,2,3]
def Pt:Bl:=⟨5,8,[0],1,false,[],j (d (Fe 0)) (j (d (Fe 1)) (j (j (d (Fe 2)) (.block 0 (.loop (j (j (d (Fe 3)) (h 4 (.skip) (.exit 0))) (j (.block 1 (d (Fe 4))) (d (Fe 5))))))) (j (d (Fe 6)) (.ret)))),[.cell 1 (some 4)]⟩
def Ais:List Tmp:=[0,2,3,4,15]
def Dz:Nat→Bj
 |0=>R 0 [a 1 zR] [(1,0)] []
 |1=>Q 1 [m (s 0),C 478 [v (l 0),r (i 6)] [],y .add (i 1) (l 1),b zR [(0,1,l 2)],a 2 zR,W 4 (l 4) (l 3)] [(2,4)] [] [] [.ownc 2 1 6]
 |2=>R 2 [m (s 0),C 478 [v (l 0),r (i 3)] [],m (l 1)] [(3,2)] []
 |3=>R 3 [m (s 3),y .gtr (l 0) (i 0)] [(4,1)] []
 |4=>Y 5 [D (F (s 2) 1) [] [],D (L (l 0)) [2] [],D (m (s 0)) [] [],D (C 478 [v (l 2),r (i 90)] []) [0] [0],D (y .add (i 1) (l 3)) [] [],D (C 159 [r (l 1),r (l 4)] [3]) [3,6] [3],D (F (s 2) 1) [] [],D (W 1 (l 6) (l 5)) [2] [2]] [] [] [3] [w 3 6]
 |5=>R 4 [m (s 3),y .sub (l 0) (i 1),m (l 1)] [(3,2)] []
 |6=>Q 6 [F (s 2) 1,L (l 0),M 4 1 1 [i 100],q 5 1 8 (l 1) (l 2),F (s 2) 1,W 1 (l 4) (l 3)] [] [3] [] [w 5 6]
 |7=>R 7 [m (s 0),F (s 2) 1,L (l 1),e (l 2),C 478 [v (l 0),r (l 3)] [],F (s 2) 2,W 1 (l 5) (l 4)] [] [0]
 |_=>R 8 [P 4 (s 2),W 4 (s 1) (l 0)] [] [2]
def Pq:Bl:=⟨5,7,[0],1,false,[],j (d (Dz 0)) (j (d (Dz 1)) (j (j (d (Dz 2)) (.block 0 (.loop (j (j (d (Dz 3)) (h 4 (.skip) (.exit 0))) (j (.block 1 (d (Dz 4))) (d (Dz 5))))))) (j (d (Dz 6)) (j (d (Dz 7)) (j (d (Dz 8)) (.ret)))))),[.cell 1 (some 4)]⟩
def Ahh:List Tmp:=[0,2,3,4,12]
def Fh:Nat→Bj
 |0=>R 0 [m (z 1)] [] [1]
 |1=>Q 1 [M 1 1 0 [],m (l 0)] [(2,1)] [] [] [w 1 4]
 |2=>R 2 [m (s 0),C 478 [v (l 0),r (i 5)] [],m (l 1)] [(3,2)] []
 |3=>R 3 [m (s 3),y .gtr (l 0) (i 0)] [(4,1)] []
 |4=>Q 5 [m (s 2),m (s 0),M 2 1 6 [i 1,i 2,i 3,i 10,i 40,i 200],C 481 [v (l 1),r (l 2)] [],C 159 [r (l 0),r (l 3)] [3],m (l 4)] [(2,5)] [] [2,3] [w 3 4]
 |5=>R 4 [m (s 3),y .sub (l 0) (i 1),m (l 1)] [(3,2)] []
 |_=>R 6 [m (s 2),m (l 0)] [(1,1)] [0,2,3]
def Pk:Bl:=⟨5,5,[0],1,false,[],j (d (Fh 0)) (j (d (Fh 1)) (j (j (d (Fh 2)) (.block 0 (.loop (j (j (d (Fh 3)) (h 4 (.skip) (.exit 0))) (j (.block 1 (d (Fh 4))) (d (Fh 5))))))) (j (d (Fh 6)) (.ret)))),[.slot 1]⟩
def AhV:List Tmp:=[0,2,3,4,9]
def FM:Nat→Bj
 |0=>R 0 [m (i 0)] [] [1]
 |1=>R 1 [m (s 0),m (s 0),F (l 1) 0,F (l 2) 2,L (l 3),y .mul (l 4) (i 6364136223846793005),y .add (l 5) (i 1442695040888963407),F (l 0) 0,F (l 7) 2,W 1 (l 8) (l 6)] [] []
 |2=>T 2 [D (m (s 0)) [] [],D (F (l 0) 0) [] [],D (F (l 1) 2) [] [],D (L (l 2)) [0] [],D (y .shr (l 3) (.con (.sc (.int .u64 33)))) [] [],D (m (s 0)) [] [],D (F (l 5) 0) [] [],D (F (l 6) 2) [] [],D (L (l 7)) [0] [],D (y .shr (l 8) (.con (.sc (.int .u64 47)))) [] [],D (y .xor (l 4) (l 9)) [] [],D (y .and (l 10) (i 255)) [] [],D (m (l 11)) [] []] [(2,12)] []
 |3=>T 3 [D (m (s 0)) [] [],D (F (l 0) 0) [] [],D (F (l 1) 1) [] [],D (L (l 2)) [0] [],D (m (s 0)) [] [],D (F (l 4) 0) [] [],D (F (l 5) 0) [] [],D (L (l 6)) [0] [],D (e (l 7)) [] [],D (y .lss (l 3) (l 8)) [] []] [(3,9)] []
 |4=>T 4 [D (m (s 2)) [] [],D (m (s 0)) [] [],D (F (l 1) 0) [] [],D (F (l 2) 0) [] [],D (L (l 3)) [0] [],D (m (s 0)) [] [],D (F (l 5) 0) [] [],D (F (l 6) 1) [] [],D (L (l 7)) [0] [],D (A 1 (l 4) (l 8)) [] [],D (L (l 9)) [] [],D (.conv .i64 (l 10)) [] [],D (y .add (l 0) (l 11)) [] [],D (y .and (l 12) (i 255)) [] [],D (m (l 13)) [] []] [(2,14)] []
 |5=>R 5 [m (s 0),m (s 0),F (l 1) 0,F (l 2) 1,L (l 3),y .add (l 4) (i 1),F (l 0) 0,F (l 6) 1,W 1 (l 7) (l 5)] [] [0]
 |_=>R 6 [m (s 2),m (l 0)] [(1,1)] [2]
def RA:Bl:=⟨4,1,[0],1,false,[],j (d (FM 0)) (j (d (FM 1)) (j (d (FM 2)) (j (j (d (FM 3)) (h 3 (j (d (FM 4)) (d (FM 5))) (.skip))) (j (d (FM 6)) (.ret))))),[.slot 1]⟩
def Akd:List Tmp:=[0,2,3,34]
def E9:Nat→Bj
 |0=>R 0 [m (z 4)] [] [1]
 |1=>Q 1 [M 1 4 0 [],m (l 0)] [(2,1)] [] [] [w 1 6]
 |2=>R 2 [m (s 0),C 478 [v (l 0),r (i 4)] [],m (l 1)] [(3,2)] []
 |3=>R 3 [m (s 3),y .gtr (l 0) (i 0)] [(4,1)] []
 |4=>Q 5 [m (s 2),m (s 0),C 494 [v (l 1)] [2,3],M 4 4 1 [l 2],p 5 4 64 (l 0) (l 3),m (l 4)] [(2,5)] [] [2,3,4,5] [w 5 6]
 |5=>R 4 [m (s 3),y .sub (l 0) (i 1),m (l 1)] [(3,2)] []
 |_=>R 6 [m (s 2),m (l 0)] [(1,1)] [0,2,3]
def Pf:Bl:=⟨5,7,[0],1,false,[],j (d (E9 0)) (j (d (E9 1)) (j (j (d (E9 2)) (.block 0 (.loop (j (j (d (E9 3)) (h 4 (.skip) (.exit 0))) (j (.block 1 (d (E9 4))) (d (E9 5))))))) (j (d (E9 6)) (.ret)))),[.slot 1]⟩
def Ahz:List Tmp:=[0,2,3,4,9]
def UM:Nat→Bj
 |0=>R 0 [m (i 0)] [] [2]
 |_=>R 1 [m (s 1),m (s 0),m (s 1),e (l 2),C 478 [v (l 1),r (l 3)] [],A 1 (l 0) (l 4),L (l 5),m (l 6)] [(2,7)] [0,1]
def TP:Bl:=⟨3,1,[0,1],1,false,[],j (d (UM 0)) (j (d (UM 1)) (.ret)),[.slot 2]⟩
def AoG:List Tmp:=[0,1,4]
def Bv:Nat→Bj
 |0=>R 0 [a 1 zW] [(1,0)] []
 |1=>R 1 [M 2 1 1 [i 1],m (s 0),C 478 [v (l 1),r (i 2)] [],y .add (i 2) (l 2),C 159 [r (l 0),r (l 3)] [3],m (s 0),C 478 [v (l 5),r (i 2)] [],y .add (i 4) (l 6),C 159 [r (l 4),r (l 7)] [4],m (l 8)] [(2,9)] []
 |2=>R 2 [m (s 0),C 487 [v (l 0)] [5],a 6 zR,W 4 (l 2) (l 1)] [(3,2)] []
 |3=>R 3 [m (s 2),m (s 2),e (l 1),y .sub (l 2) (i 1),A 1 (l 0) (l 3),L (l 4),F (s 3) 0,W 1 (l 6) (l 5)] [] []
 |4=>R 4 [F (s 3) 2,W 1 (l 0) (i 0)] [] []
 |5=>Q 5 [M 7 4 0 [],m (l 0)] [(4,1)] [] [] [w 7 24]
 |6=>R 6 [m (s 0),C 478 [v (l 0),r (i 4)] [],y .add (i 2) (l 1),m (l 2)] [(5,3)] []
 |7=>R 7 [m (s 5),y .gtr (l 0) (i 0)] [(8,1)] []
 |8=>Q 9 [m (s 0),C 488 [v (l 0)] [8,9,10],a 11 zE,W 4 (l 2) (l 1)] [(6,2)] [] [8,9,10,11] []
 |9=>Q 10 [M 12 1 1 [i 1],m (s 0),C 478 [v (l 1),r (i 2)] [],y .add (i 2) (l 2),C 159 [r (l 0),r (l 3)] [13],F (s 6) 0,W 1 (l 5) (l 4)] [] [] [12,13] []
 |10=>Q 11 [m (s 4),P 4 (s 6),M 14 4 1 [l 1],p 15 4 80 (l 0) (l 2),m (l 3)] [(4,4)] [6] [14,15] [w 15 24]
 |11=>R 8 [m (s 5),y .sub (l 0) (i 1),m (l 1)] [(5,2)] []
 |12=>T 12 [D (m (s 2)) [] [],D (m (s 0)) [] [],D (C 489 [v (l 1)] [16]) [0,16] [0,16],D (m (s 4)) [] [],D (P 4 (s 3)) [6] [],D (C 70 [r (l 0),r (l 2),r (l 3),r (l 4)] [17,18,19,20,21,22]) [4,5,16,17,18,19,20,21,22,24] [17,18,19,20,21,22],D (m (l 5)) [] [],D (X (l 6) 0) [] [],D (X (l 6) 1) [] [],D (a 23 zW) [23] [23],D (W 15 (l 9) (l 7)) [23] [23],D (m (l 8)) [] []] [(7,9)] [0,2,3,4,5]
 |_=>R 13 [P 15 (s 7),W 15 (s 1) (l 0)] [] [7]
def MR:Bl:=⟨9,25,[0],1,false,[],j (d (Bv 0)) (j (d (Bv 1)) (j (d (Bv 2)) (j (d (Bv 3)) (j (d (Bv 4)) (j (d (Bv 5)) (j (j (d (Bv 6)) (.block 0 (.loop (j (j (d (Bv 7)) (h 8 (.skip) (.exit 0))) (j (.block 1 (j (d (Bv 8)) (j (d (Bv 9)) (d (Bv 10))))) (d (Bv 11))))))) (j (d (Bv 12)) (j (d (Bv 13)) (.ret))))))))),[.cell 1 (some 15)]⟩
def AfF:List Tmp:=[0,2,3,4,5,6,7,8,34]
def Cj:Nat→Bj
 |0=>R 0 [a 1 [o,N 1,N 1,c]] [(1,0)] []
 |1=>Q 1 [b [o,N 1,N 1,c] [],a 2 [o,N 1,N 1,c],W 4 (l 1) (l 0)] [(2,1)] [] [] [.ownc 2 1 6,.ownc 2 2 5]
 |2=>R 2 [m (s 0),C 478 [v (l 0),r (i 7)] []] [(3,1)] []
 |3=>R 3 [y .eql (s 3) (i 0),m (l 0)] [(4,1)] []
 |4=>R 4 [m (s 0),C 478 [v (l 0),r (i 6)] [],y .add (i 1) (l 1),F (s 2) 0,W 1 (l 3) (l 2)] [] [0,3]
 |5=>R 5 [y .eql (s 3) (i 1),m (l 0)] [(5,1)] []
 |6=>Q 6 [m (s 0),C 489 [v (l 0)] [3],F (s 2) 1,W 1 (l 2) (l 1)] [] [0,3] [] [w 3 6]
 |7=>R 7 [y .eql (s 3) (i 2),m (l 0)] [(6,1)] []
 |8=>Q 8 [m (s 0),C 489 [v (l 0)] [4],F (s 2) 2,W 1 (l 2) (l 1)] [] [0,3] [] [w 4 5]
 |9=>R 9 [y .eql (s 3) (i 3),m (l 0)] [(7,1)] [0,3]
 |10=>R 10 [F (s 2) 3,W 1 (l 0) t] [] []
 |_=>R 11 [P 4 (s 2),W 4 (s 1) (l 0)] [] [2]
def Pb:Bl:=⟨8,7,[0],1,false,[],j (d (Cj 0)) (j (d (Cj 1)) (j (j (d (Cj 2)) (.block 0 (j (d (Cj 3)) (h 4 (d (Cj 4)) (j (d (Cj 5)) (h 5 (d (Cj 6)) (j (d (Cj 7)) (h 6 (d (Cj 8)) (j (d (Cj 9)) (h 7 (d (Cj 10)) (.skip))))))))))) (j (d (Cj 11)) (.ret)))),[.cell 1 (some 4)]⟩
def Ahe:List Tmp:=[0,2,3,6,7,13,18,23]
def D9:Nat→Bj
 |0=>R 0 [m (z 6)] [] [2]
 |1=>Q 1 [b [o,o,o,N 1,N 1,c] [(0,1,i 2)],M 1 6 1 [l 0],m (l 1)] [(3,2)] [] [] [w 1 6]
 |2=>R 2 [m (s 0),m (s 1),C 478 [v (l 0),r (l 1)] [],m (l 2)] [(4,3)] [1]
 |3=>R 3 [m (s 4),y .gtr (l 0) (i 0)] [(5,1)] []
 |4=>Q 5 [m (s 3),m (s 0),C 492 [v (l 1)] [2,3],M 4 6 1 [l 2],p 5 6 80 (l 0) (l 3),m (l 4)] [(3,5)] [] [2,3,4,5] [w 5 6]
 |5=>R 4 [m (s 4),y .sub (l 0) (i 1),m (l 1)] [(4,2)] []
 |_=>R 6 [m (s 3),m (l 0)] [(2,1)] [0,3,4]
def Lj:Bl:=⟨6,7,[0,1],1,false,[],j (d (D9 0)) (j (d (D9 1)) (j (j (d (D9 2)) (.block 0 (.loop (j (j (d (D9 3)) (h 5 (.skip) (.exit 0))) (j (.block 1 (d (D9 4))) (d (D9 5))))))) (j (d (D9 6)) (.ret)))),[.slot 2]⟩
def Aet:List Tmp:=[0,1,4,5,6,13]
def A7:Nat→Bj
 |0=>R 0 [a 1 [o,o,o,N 1,N 1,c]] [(1,0)] []
 |1=>R 1 [m (s 0),C 478 [v (l 0),r (i 12)] []] [(2,1)] []
 |2=>R 2 [y .eql (s 2) (i 0),m (l 0)] [(3,1)] []
 |3=>R 3 [b [o,o,o,N 1,N 1,c] [(0,1,i 2)],W 6 (s 1) (l 0)] [] [0,2]
 |4=>R 4 [y .eql (s 2) (i 1),m (l 0)] [(4,1),(10,1)] []
 |5=>R 5 [y .eql (s 2) (i 2),m (l 0)] [(4,1),(10,1)] []
 |6=>R 6 [b [o,o,o,N 1,N 1,c] [(0,1,i 3)],W 6 (s 1) (l 0)] [] [0,2]
 |7=>R 7 [y .eql (s 2) (i 3),m (l 0)] [(5,1)] []
 |8=>R 8 [m (s 0),C 478 [v (l 0),r (i 5)] [],y .add (i 1) (l 1),b [o,o,o,N 1,N 1,c] [(0,1,i 4),(1,1,l 2)],W 6 (s 1) (l 3)] [] [0,2]
 |9=>R 9 [y .eql (s 2) (i 4),m (l 0)] [(6,1)] []
 |10=>R 10 [m (s 0),C 478 [v (l 0),r (i 6)] [],y .add (i 1) (l 1),b [o,o,o,N 1,N 1,c] [(0,1,i 5),(1,1,l 2)],W 6 (s 1) (l 3)] [] [0,2]
 |11=>R 11 [y .eql (s 2) (i 5),m (l 0)] [(7,1)] []
 |12=>R 12 [m (s 0),C 478 [v (l 0),r (i 5)] [],m (s 0),C 494 [v (l 2)] [2,3],b [o,o,o,N 1,N 1,c] [(0,1,i 6),(1,1,l 1),(2,4,l 3)],W 6 (s 1) (l 4)] [] [0,2]
 |13=>R 13 [y .eql (s 2) (i 6),m (l 0)] [(8,1)] []
 |14=>R 14 [m (s 0),C 478 [v (l 0),r (i 5)] [],b [o,o,o,N 1,N 1,c] [(0,1,i 7),(1,1,l 1)],W 6 (s 1) (l 2)] [] [0,2]
 |15=>R 15 [y .eql (s 2) (i 7),m (l 0)] [(9,1)] [2]
 |16=>R 16 [m (s 0),C 478 [v (l 0),r (i 3)] [],y .add (i 1) (l 1),b [o,o,o,N 1,N 1,c] [(0,1,i 8),(1,1,l 2)],W 6 (s 1) (l 3)] [] [0]
 |_=>R 17 [m (s 0),C 478 [v (l 0),r (i 5)] [],b [o,o,o,N 1,N 1,c] [(0,1,i 1),(1,1,l 1)],W 6 (s 1) (l 2)] [] [0]
def MI:Bl:=⟨11,4,[0],1,false,[],j (d (A7 0)) (j (j (d (A7 1)) (.block 0 (j (d (A7 2)) (h 3 (j (d (A7 3)) (.ret)) (j (j (d (A7 4)) (h 4 (.skip) (d (A7 5)))) (h 10 (j (d (A7 6)) (.ret)) (j (d (A7 7)) (h 5 (j (d (A7 8)) (.ret)) (j (d (A7 9)) (h 6 (j (d (A7 10)) (.ret)) (j (d (A7 11)) (h 7 (j (d (A7 12)) (.ret)) (j (d (A7 13)) (h 8 (j (d (A7 14)) (.ret)) (j (d (A7 15)) (h 9 (j (d (A7 16)) (.ret)) (.skip))))))))))))))))) (j (d (A7 17)) (.ret))),[.cell 1 (some 6)]⟩
def Afc:List Tmp:=[0,2,4,5,8,12,18,24,31,36,8]
def CY:Nat→Bj
 |0=>R 0 [x 0 (s 0),x 1 (s 1),a 2 [c,o,N 1]] [(6,0),(7,1),(8,2)] [0,1]
 |1=>R 1 [m (s 2),m (s 3),P 2 (s 7),C 343 [r (l 0),r (l 1),r (l 2)] [3],m (l 3),X (l 4) 0,X (l 4) 1,a 4 [o,N 2],W 2 (l 7) (l 5),m (l 6)] [(9,7),(10,9)] [2,3]
 |2=>R 2 [m (s 10),n (l 0)] [(13,1)] [10]
 |3=>R 3 [b [c,o,N 1] [],W 3 (s 8) (l 0)] [] [4,5,6,7,9]
 |4=>R 4 [P 2 (s 9),a 5 [o,N 2],W 2 (l 1) (l 0)] [(11,1)] []
 |5=>R 5 [m (s 5),e (l 0),m (i 0)] [(14,1),(15,2)] [5]
 |6=>R 6 [y .lss (s 15) (s 14)] [(16,0)] [14,15]
 |7=>T 10 [D (m (s 4)) [] [],D (P 2 (s 7)) [1] [],D (C 345 [r (l 1)] [6]) [6] [6],D (P 2 (s 9)) [4] [],D (C 346 [r (l 3)] [7]) [3,7] [7],D (M 8 1 2 [l 2,l 4]) [6,7,8] [6,7,8],D (C 347 [r (l 0),r (l 5),r (i 1)] []) [8] [],D (m (l 6)) [] []] [(12,7)] [7,9]
 |8=>T 11 [D (P 2 (s 6)) [0] [],D (P 2 (s 11)) [5] [],D (C 348 [r (l 0),r (l 1)] []) [3] [],D (n (l 2)) [] [],D (m (l 3)) [] [],H 4 (m (s 4)) [] [],H 4 (P 2 (s 6)) [0] [],H 4 (C 345 [r (l 6)] [9]) [9] [9],H 4 (P 2 (s 11)) [5] [],H 4 (C 346 [r (l 8)] [10]) [3,10] [10],H 4 (M 11 1 2 [l 7,l 9]) [9,10,11] [9,10,11],H 4 (m (s 12)) [] [],H 4 (C 349 [r (l 5),r (l 10),r (i 1),r (l 11)] []) [11] [],H 4 (n (l 12)) [] [],D (k (l 4) t (l 13)) [] []] [(17,14)] [4,6,12]
 |9=>R 12 [b [c,o,N 1] [],W 3 (s 8) (l 0)] [] [11]
 |_=>T 13 [D (F (s 11) 0) [] [],D (L (l 0)) [5] [],D (F (s 11) 1) [] [],D (L (l 2)) [5] [],D (C 317 [r (l 3)] [12]) [3,12] [12],D (b [c,o,N 1] [(0,1,t),(1,1,l 1),(2,1,l 4)]) [] [],D (W 3 (s 8) (l 5)) [2] [2]] [] [11]
def WC:Bl:=⟨18,13,[0,1,2,3,4,5],0,false,[],j (d (CY 0)) (j (d (CY 1)) (j (j (d (CY 2)) (h 13 (j (d (CY 3)) (.ret)) (.skip))) (j (d (CY 4)) (j (j (d (CY 5)) (.block 0 (.loop (j (d (CY 6)) (j (h 16 (.skip) (.exit 0)) (j (.block 1 (j (.stuck) (.stuck))) (.stuck))))))) (j (d (CY 7)) (j (j (d (CY 8)) (h 17 (j (d (CY 9)) (.ret)) (.skip))) (j (d (CY 10)) (.ret)))))))),[.cell 8 (some 3)]⟩
def AkV:List Tmp:=[0,1,2,3,4,5,6,7,12,13,14,15,18,27,31,32,33,61]
def BG:Nat→Bj
 |0=>R 0 [m (z 2)] [] [2]
 |1=>R 1 [m (s 1),C 310 [r (l 0)] [],m (l 1)] [(3,2)] []
 |2=>R 2 [m (s 0),C 311 [r (l 0)] [0],m (l 1)] [(4,2)] []
 |3=>R 3 [m (s 0),C 312 [r (l 0)] [],n (l 1),m (l 2),G 3 (m (s 0)),G 3 (e (l 4)),G 3 (y .geq (l 5) (i 6)),k (l 3) t (l 6),m (l 7),G 8 (m (s 0)),G 8 (m (s 3)),G 8 (C 309 [r (l 9),r (l 10)] []),G 8 (y .geq (l 11) (i 0)),k (l 8) t (l 12)] [(8,13)] []
 |4=>R 4 [m (s 4),m (l 0)] [(2,1)] [0,1,3,4]
 |5=>Q 5 [m (s 3),b [o,N 1] [(0,1,l 0)],a 1 [o,N 1],W 2 (l 2) (l 1)] [(5,2)] [3] [] [.ownc 1 1 9]
 |6=>R 6 [m (s 1),C 313 [r (l 0),r (i 2),r (i 3)] [],m (l 1)] [(6,2)] []
 |7=>R 7 [m (s 6),y .gtr (l 0) (i 0)] [(9,1)] []
 |8=>Y 9 [D (F (s 5) 1) [] [],D (L (l 0)) [1] [],D (m (s 1)) [] [],D (C 313 [r (l 2),r (i 3),r (i 256)] []) [] [],D (M 2 1 1 [l 3]) [2] [2],D (q 3 1 8 (l 1) (l 4)) [2,3,9] [3,9],D (F (s 5) 1) [] [],D (W 1 (l 6) (l 5)) [1] [1]] [] [] [2,3] [w 3 9]
 |9=>R 8 [m (s 6),y .sub (l 0) (i 1),m (l 1)] [(6,2)] []
 |10=>R 10 [m (s 1),m (s 0),e (l 1),y .add (l 2) (i 1),C 313 [r (l 0),r (i 1),r (l 3)] [],m (l 4)] [(7,5)] [0,1,6]
 |_=>T 11 [D (M 4 2 0 []) [4] [4],D (m (s 4)) [] [],D (m (s 7)) [] [],D (.slice 2 (l 1) none (some (l 2))) [0] [],D (p 5 2 32 (l 0) (l 3)) [0,4,5,100000] [0,4,5,100000],D (P 2 (s 5)) [1] [],D (M 6 2 1 [l 5]) [6,9] [6,9],D (p 7 2 32 (l 4) (l 6)) [5,6,7] [5,6,7],D (m (s 4)) [] [],D (m (s 7)) [] [],D (.slice 2 (l 8) (some (l 9)) none) [0] [],D (p 8 2 32 (l 7) (l 10)) [0,7,8,100000] [0,7,8,100000],D (m (l 11)) [] []] [(2,12)] [4,5,7]
def Q8:Bl:=⟨10,10,[0,1],0,false,[],j (d (BG 0)) (j (d (BG 1)) (j (d (BG 2)) (j (j (d (BG 3)) (h 8 (j (d (BG 4)) (.ret)) (.skip))) (j (d (BG 5)) (j (j (d (BG 6)) (.block 0 (.loop (j (j (d (BG 7)) (h 9 (.skip) (.exit 0))) (j (.block 1 (d (BG 8))) (d (BG 9))))))) (j (d (BG 10)) (j (d (BG 11)) (.ret)))))))),[.slot 2]⟩
def Ad9:List Tmp:=[0,1,4,5,6,7,8,9,27,34]
attribute [simp] Gz Qa E8 Pj DJ Pd Fe Pt Dz Pq Fh Pk FM RA E9 Pf UM TP Bv MR Cj Pb D9 Lj A7 MI CY WC BG Q8
end Go.Eng.T
namespace Go.Eng.T
set_option maxRecDepth 20000
set_option maxHeartbeats 1000000
theorem Aqt (D:Dn):Pp (Body D Rf):=by
 intro xs ys h1 h2
 unfold maxLen at h1 h2
 by_cases hl:xs.length=ys.length
 rotate_left
 ·have hl':¬(xs.length:Int)=ys.length:=by omega
  have:xs≠ys:=fun h=>hl (by rw[h])
  simp -implicitDefEqProofs [hl',this]
 have hl':(xs.length:Int)=ys.length:=by omega
 simp -implicitDefEqProofs [hl']
 refine Ad (fun k s=>∃j,j+k=xs.length∧xs.take j=ys.take j∧s=⟨[.sl 1 1 xs.length (ints xs),.sl 1 1 ys.length (ints ys),.undef,I j,.undef,.undef,.undef],[]⟩) ?_ (xs.length) _ ⟨0,by simp,by simp,by simp⟩
 intro k s ⟨j,hj,hp,hs⟩
 subst hs
 by_cases hjn:j<xs.length
 ·have hw:IntKind.i64.wrap ((j:Int)+1)=(j+1:Nat):=by rw[Ab (by omega) (by omega)];simp
  have hy:j<ys.length:=by omega
  by_cases he:xs[j]=ys[j]
  ·simp -implicitDefEqProofs [hjn,hy,he]
   exact⟨k-1,by omega,j+1,by omega,Zx hjn hy hp he,by simp[hw]⟩
  ·have hne:xs≠ys:=fun h=>he (by simp[h])
   simp -implicitDefEqProofs [hjn,hy,he,hne]
 ·obtain rfl:xs=ys:=Ad5 (by omega) hl hp
  simp -implicitDefEqProofs [hjn]
theorem ACw (D:Dn):Pp (Body D Ih):=by
 intro xs ys h1 h2
 unfold maxLen at h1 h2
 by_cases hl:xs.length=ys.length
 rotate_left
 ·have hl':¬(xs.length:Int)=ys.length:=by omega
  have:xs≠ys:=fun h=>hl (by rw[h])
  simp -implicitDefEqProofs [hl',this]
 have hl':(xs.length:Int)=ys.length:=by omega
 simp -implicitDefEqProofs [hl']
 refine Ad (fun k s=>∃j,j+k=xs.length∧xs.take j=ys.take j∧s=⟨[.sl 1 1 xs.length (ints xs),.sl 1 1 ys.length (ints ys),.undef,.undef,.undef,I ys.length,I j,.undef,.undef],[]⟩) ?_ (xs.length) _ ⟨0,by simp,by simp,by simp⟩
 intro k s ⟨j,hj,hp,hs⟩
 subst hs
 by_cases hjn:j<xs.length
 ·have hw:IntKind.i64.wrap ((j:Int)+1)=(j+1:Nat):=by rw[Ab (by omega) (by omega)];simp
  have hy:j<ys.length:=by omega
  by_cases he:xs[j]=ys[j]
  ·simp -implicitDefEqProofs [hjn,hy,he]
   exact⟨k-1,by omega,j+1,by omega,Zx hjn hy hp he,by simp[hw]⟩
  ·have hne:xs≠ys:=fun h=>he (by simp[h])
   simp -implicitDefEqProofs [hjn,hy,he,hne]
 ·obtain rfl:xs=ys:=Ad5 (by omega) hl hp
  simp -implicitDefEqProofs [hjn]
abbrev Rs (R:Rel):Prop:=∀a b:List Ext,UY a→UY b→R [.sl 1 2 a.length (a.flatMap Bw),.sl 1 2 b.length (b.flatMap Bw)] [] (B (decide (a=b))) []
abbrev VZ (R:Rel):Prop:=∀a b:Ext,a.body.length≤4194304→b.body.length≤4194304→R [arg (Bw a),arg (Bw b)] [] (B (decide (a=b))) []
theorem ext_eq {a b:Ext} (h1:a.tag=b.tag) (h2:a.body=b.body):a=b:=by cases a;cases b;simp_all
theorem ApX (D:Dn) (hE:Pp (D Xt)):Rs (Body D Qk):=by
 intro a b ha hb
 have h1:=ha.1
 have h2:=hb.1
 by_cases hl:a.length=b.length
 rotate_left
 ·have hl':¬(a.length:Int)=b.length:=by omega
  have:a≠b:=fun h=>hl (by rw[h])
  simp -implicitDefEqProofs [hl',this]
 have hl':(a.length:Int)=b.length:=by omega
 simp -implicitDefEqProofs [hl']
 refine Ad (fun k s=>∃j,j+k=a.length∧a.take j=b.take j∧s=⟨[.sl 1 2 a.length (a.flatMap Bw),.sl 1 2 b.length (b.flatMap Bw),.undef,I j,.undef,.undef,.undef],[]⟩) ?_ (a.length) _ ⟨0,by simp,by simp,by simp⟩
 intro k s ⟨j,hj,hp,hs⟩
 subst hs
 by_cases hjn:j<a.length
 ·have hw:IntKind.i64.wrap ((j:Int)+1)=(j+1:Nat):=by rw[Ab (by omega) (by omega)];simp
  have hy:j<b.length:=by omega
  by_cases g1:a[j].tag=b[j].tag
  rotate_left
  ·have hne:a≠b:=fun h=>g1 (by simp[h])
   simp -implicitDefEqProofs [hjn,hy,g1,hne]
  simp -implicitDefEqProofs [hjn,hy,g1]
  refine Aa (hE a[j].body b[j].body (by have:=Ns ha hjn;unfold maxLen;omega) (by have:=Ns hb hy;unfold maxLen;omega)) ?_
  by_cases g2:a[j].body=b[j].body
  ·simp -implicitDefEqProofs [g2]
   exact⟨k-1,by omega,j+1,by omega,Zx hjn hy hp (ext_eq g1 g2),by simp[hw]⟩
  ·have hne:a≠b:=fun h=>g2 (by simp[h])
   simp -implicitDefEqProofs [g2,hne]
 ·obtain rfl:a=b:=Ad5 (by omega) hl hp
  simp -implicitDefEqProofs [hjn]
theorem AwB (D:Dn) (hE:Pp (D Lc)):VZ (Body D Sv):=by
 intro a b ha hb
 by_cases g1:a.tag=b.tag
 rotate_left
 ·have hne:a≠b:=fun h=>g1 (by simp[h])
  simp -implicitDefEqProofs [g1,hne]
 simp -implicitDefEqProofs [g1]
 refine Aa (hE a.body b.body (by unfold maxLen;omega) (by unfold maxLen;omega)) ?_
 by_cases g2:a.body=b.body
 ·have e:=ext_eq g1 g2
  simp -implicitDefEqProofs [g2,e]
 ·have hne:a≠b:=fun h=>g2 (by simp[h])
  simp -implicitDefEqProofs [g2,hne]
abbrev Wh (D:Dn) (R:Rel):Prop:=∀(a b:List Ext) (g:Nat),UY a→UY b→VZ (D g)→R [.sl 1 2 a.length (a.flatMap Bw),.sl 1 2 b.length (b.flatMap Bw),.fn g []] [] (B (decide (a=b))) []
theorem AsA (D:Dn):Wh D (Body D Bt):=by
 intro a b g ha hb hg
 have h1:=ha.1
 have h2:=hb.1
 by_cases hl:a.length=b.length
 rotate_left
 ·have hl':¬(a.length:Int)=b.length:=by omega
  have:a≠b:=fun h=>hl (by rw[h])
  simp -implicitDefEqProofs [hl',this]
 have hl':(a.length:Int)=b.length:=by omega
 simp -implicitDefEqProofs [hl']
 refine Ad (fun k s=>∃j o0 o1,j+k=a.length∧a.take j=b.take j∧s=⟨[.undef,.sl 1 2 b.length (b.flatMap Bw),.fn g [],.undef,.undef,.undef,.undef,.undef,.sl 1 2 a.length (a.flatMap Bw),I b.length,I j,.undef,.undef],[o0,o1]⟩) ?_ (a.length) _ ⟨0,.free,.free,by simp,by simp,by simp⟩
 intro k s ⟨j,o0,o1,hj,hp,hs⟩
 subst hs
 by_cases hjn:j<a.length
 ·have hw:IntKind.i64.wrap ((j:Int)+1)=(j+1:Nat):=by rw[Ab (by omega) (by omega)];simp
  have hy:j<b.length:=by omega
  simp -implicitDefEqProofs [hjn,hy,↓RJ RN]
  refine Aa (hg a[j] b[j] (Ns ha hjn) (Ns hb hy)) ?_
  by_cases g2:a[j]=b[j]
  ·simp -implicitDefEqProofs [g2]
   exact⟨k-1,by omega,j+1,by omega,Zx hjn hy hp g2,by simp[hw]⟩
  ·have hne:a≠b:=fun h=>g2 (by simp[h])
   simp -implicitDefEqProofs [g2,hne]
 ·obtain rfl:a=b:=Ad5 (by omega) hl hp
  simp -implicitDefEqProofs [hjn]
theorem AqP (D:Dn) (h1:VZ (D AkT)) (hE:Wh D (D FB)):Rs (Body D Rk):=by
 intro a b ha hb
 simp -implicitDefEqProofs
 refine Aa (hE a b _ ha hb h1) ?_
 simp -implicitDefEqProofs
abbrev Mc (R:Rel):Prop:=∀a b:Hello,hB a→hB b→R [arg (CP a),arg (CP b)] [] (B (decide (a=b))) []
theorem Amv {a b:Hello} (h1:a.versions=b.versions) (h2:a.exts=b.exts):a=b:=by cases a;cases b;simp_all
theorem AkO (D:Dn) (hE:Pp (D Xt)) (hX:Rs (D Xr)):Mc (Body D Na):=by
 intro a b ha hb
 simp -implicitDefEqProofs
 refine Aa (hE a.versions b.versions (by have:=ha.1;unfold maxLen;omega) (by have:=hb.1;unfold maxLen;omega)) ?_
 by_cases g1:a.versions=b.versions
 rotate_left
 ·have hne:a≠b:=fun h=>g1 (by simp[h])
  simp -implicitDefEqProofs [g1,hne]
 simp -implicitDefEqProofs [g1]
 refine Aa (hX a.exts b.exts ha.2 hb.2) ?_
 by_cases g2:a.exts=b.exts
 ·have e:=Amv g1 g2
  simp -implicitDefEqProofs [g2,e]
 ·have hne:a≠b:=fun h=>g2 (by simp[h])
  simp -implicitDefEqProofs [g2,hne]
theorem Ak5 (D:Dn) (hE:Pp (D Lc)) (hX:Rs (D Ai7)):Mc (Body D M4):=by
 intro a b ha hb
 simp -implicitDefEqProofs
 refine Aa (hE a.versions b.versions (by have:=ha.1;unfold maxLen;omega) (by have:=hb.1;unfold maxLen;omega)) ?_
 by_cases g1:a.versions=b.versions
 rotate_left
 ·have hne:a≠b:=fun h=>g1 (by simp[h])
  simp -implicitDefEqProofs [g1,hne]
 simp -implicitDefEqProofs [g1]
 refine Aa (hX a.exts b.exts ha.2 hb.2) ?_
 by_cases g2:a.exts=b.exts
 ·have e:=Amv g1 g2
  simp -implicitDefEqProofs [g2,e]
 ·have hne:a≠b:=fun h=>g2 (by simp[h])
  simp -implicitDefEqProofs [g2,hne]
theorem Ao4:∀ {path:List Gu} {h:Hello},hB h→hB (Ik path h).1
 | [],h,hh=>hh
 | b::r,h,hh=>by
  unfold Ik
  split
  ·exact Ao4 (ArN hh)
  ·exact AkP
theorem Qe {path:List Gu} {h:Hello} (hh:hB h):hB (Ba path h).1:=by
 unfold Ba
 split
 ·exact Ao4 hh
 ·exact AkP
theorem Agu:∀ {path:List Gu} {h:Hello},(Ik path h).2=true→(Ik path h).1.versions=h.versions
 | [],h,_=>rfl
 | b::r,h,hk=>by
  unfold Ik at hk⊢
  split at hk
  ·rename_i hb
   rw[if_pos hb,Agu hk]
   unfold BM at hb⊢
   split at hb
   ·rename_i hc;rw[if_pos hc]
   ·cases hb
  ·cases hk
theorem AoI {path:List Gu} {h:Hello} (hk:(Ba path h).2=true):(Ba path h).1.versions=h.versions:=by
 unfold Ba at hk⊢
 split at hk
 ·rename_i hc;rw[if_pos hc];exact Agu hk
 ·cases hk
def Dt (h:Hello) (path:List Gu):Bool:=(Ba path h).2&&decide ((Ba path h).1=h)
abbrev Gi (R:Rel):Prop:=∀(h:Hello) (path:List Gu),hB h→lnS JI path→R [arg (CP h),.sl 1 4 path.length (path.flatMap Dy)] [] (B (Dt h path)) []
theorem Amw (D:Dn) (hP:FV (D ML)) (hQ:Mc (D AcT)):Gi (Body D MZ):=by
 intro h path hh hb
 simp -implicitDefEqProofs
 refine Aa (hP path h hb hh) ?_
 have hr:=Qe (path:=path) hh
 have e:Dt h path=((Ba path h).2&&decide ((Ba path h).1=h)):=rfl
 generalize Ba path h=r at hr e
 by_cases g1:r.2=true
 rotate_left
 ·simp -implicitDefEqProofs [g1,e]
 simp -implicitDefEqProofs [g1]
 refine Aa (hQ r.1 h hr hh) ?_
 simp -implicitDefEqProofs [e,g1]
theorem AjI (D:Dn) (hP:FV (D MF)) (hQ:Mc (D Ad2)):Gi (Body D MJ):=by
 intro h path hh hb
 simp -implicitDefEqProofs
 refine Aa (hP path h hb hh) ?_
 have hr:=Qe (path:=path) hh
 have e:Dt h path=((Ba path h).2&&decide ((Ba path h).1=h)):=rfl
 generalize Ba path h=r at hr e
 by_cases g1:r.2=true
 rotate_left
 ·simp -implicitDefEqProofs [g1,e]
 simp -implicitDefEqProofs [g1]
 refine Aa (hQ r.1 h hr hh) ?_
 simp -implicitDefEqProofs [e,g1]
end Go.Eng.T
namespace Go.Eng.T
set_option maxRecDepth 20000
set_option maxHeartbeats 1000000
def Jc (path:List Gu) (vs:List Int) (x:Ext):Bool:= !Dt ⟨vs.take 1,[x]⟩ path
def Fu (path:List Gu) (vs:List Int) (l:List Ext):List Int:=if EK l&&isOpen path vs then Ap (l.filter (Jc path vs))else []
abbrev Ml (R:Rel):Prop:=∀(path:List Gu) (vs:List Int) (l:List Ext),lnS JI path→vs.length≤4194304→UY l→R [.sl 1 4 path.length (path.flatMap Dy),.sl 1 1 vs.length (ints vs),.sl 1 2 l.length (l.flatMap Bw)] [] (.sl 0 1 (Fu path vs l).length (ints (Fu path vs l))) []
theorem AuH {path:List Gu} {vs:List Int} (h:isOpen path vs=true):0<vs.length:=by
 unfold isOpen at h
 simp only[Bool.and_eq_true]at h
 exact XM h.1
theorem Al3 {p:Ext→Bool} {l:List Ext} {j:Nat} (h:j<l.length):Ap ((l.take (j+1)).filter p)=Ap ((l.take j).filter p)++(if p l[j]then [l[j].tag]else []):=by
 rw[Abr h]
 unfold Ap
 rw[List.map_append]
 split<;>simp
theorem Apd {p:Ext→Bool} {l:List Ext} {j:Nat}:(Ap ((l.take j).filter p)).length≤j:=by
 unfold Ap
 rw[List.length_map]
 exact Aff
theorem Axg {path:List Gu} {vs:List Int} {x:Ext}:Jc path vs x= !((Ba path ⟨vs.take 1,[x]⟩).2&&decide ((Ba path ⟨vs.take 1,[x]⟩).1.exts=[x])):=by
 unfold Jc Dt
 by_cases h:(Ba path ⟨vs.take 1,[x]⟩).2=true
 ·have hv:=AoI h
  have e:decide ((Ba path ⟨vs.take 1,[x]⟩).1=⟨vs.take 1,[x]⟩)=decide ((Ba path ⟨vs.take 1,[x]⟩).1.exts=[x]):=by
   rw[decide_eq_decide]
   constructor
   ·intro h1;rw[h1]
   ·intro h1;exact Amv hv h1
  rw[e]
 ·simp[h]
theorem Ate (D:Dn) (hA:Gc (D KW)) (hO:Hz (D Vb)) (hH:Gr (D VF)) (hP:FV (D ML)) (hX:Rs (D Xr)):Ml (Body D Tp):=by
 intro path vs l hb hv hl
 have hll:=hl.1
 simp -implicitDefEqProofs
 refine Aa (hA l hl) ?_
 by_cases h1:EK l=true
 rotate_left
 ·simp -implicitDefEqProofs [h1,Fu]
 simp -implicitDefEqProofs [h1]
 refine Aa (hO path vs hb hv) ?_
 by_cases h2:isOpen path vs=true
 rotate_left
 ·simp -implicitDefEqProofs [h2,h1,Fu]
 have e:Fu path vs l=Ap (l.filter (Jc path vs)):=by unfold Fu;rw[h1,h2];rfl
 have hpos:=AuH h2
 have h1l:(1:Int)≤vs.length:=by omega
 have h1n:1≤vs.length:=by omega
 have hlen:(vs.take 1).length=1:=by simp;omega
 have hmin:min 1 vs.length=1:=by omega
 rw[e]
 simp -implicitDefEqProofs [h2]
 refine Ad (fun k s=>∃j o1 o2 o3 o4 o5 o6 o7 o8,j+k=l.length∧s=⟨[.sl 1 4 path.length (path.flatMap Dy),.sl 1 1 vs.length (ints vs),.sl 1 2 l.length (l.flatMap Bw),.undef,.arr 9,I j,.undef,.undef,.undef,.undef,.undef,.undef],[.free,o1,o2,o3,o4,o5,o6,o7,o8,.arr 1 0 (Ap ((l.take j).filter (Jc path vs))).length (ints (Ap ((l.take j).filter (Jc path vs))))]⟩) ?_ (l.length) _ ⟨0,.free,.free,.free,.free,.free,.free,.free,.free,by simp,by simp[Ap,ints]⟩
 intro k s ⟨j,o1,o2,o3,o4,o5,o6,o7,o8,hj,hs⟩
 subst hs
 by_cases hjn:j<l.length
 ·have hw:IntKind.i64.wrap ((j:Int)+1)=(j+1:Nat):=by rw[Ab (by omega) (by omega)];simp
  have hst:=Al3 (p:=Jc path vs) hjn
  have hfl:=Apd (p:=Jc path vs) (l:=l) (j:=j)
  have hb1:((Ap ((l.take j).filter (Jc path vs))).length+1)*8≤1099511627776:=by omega
  have hw1:IntKind.i64.wrap ((j:Int)+1)=(j:Int)+1:=Ab (by omega) (by omega)
  have hj1:j+1≤l.length:=by omega
  have hj2:(j:Int)+1≤l.length:=by omega
  have hjj:(j:Int)≤(j:Int)+1:=by omega
  have h11:j+1-j=1:=by omega
  simp -implicitDefEqProofs [hjn,h1l,h1n]
  have hh:=hH (vs.take 1) (by omega)
  rw[hlen]at hh
  refine Aa (hh) ?_
  have hdt:(l.drop j).take 1=[l[j]]:=by rw[List.drop_eq_getElem_cons hjn];rfl
  simp -implicitDefEqProofs [hmin,hw1,hj1,hj2,hjj,h11,hdt]
  have hhB:hB ⟨vs.take 1,[l[j]]⟩:=⟨by simp;omega,by simp,by intro x hx;simp at hx;subst hx;exact Ns hl hjn⟩
  have hp:=hP path ⟨vs.take 1,[l[j]]⟩ hb hhB
  have hr:=Qe (path:=path) hhB
  have hq:=Axg (path:=path) (vs:=vs) (x:=l[j])
  simp -implicitDefEqProofs [hmin,arg]at hp
  refine Aa (hp) ?_
  generalize Ba path ⟨vs.take 1,[l[j]]⟩=r at hr hq
  by_cases g1:r.2=true
  rotate_left
  ·have h3:Jc path vs l[j]=true:=by rw[hq];simp[g1]
   rw[if_pos h3]at hst
   simp -implicitDefEqProofs [g1,hjn,hb1]
   exact⟨k-1,by omega,j+1,by omega,by simp[hw],by rw[hst];simp,by rw[hst]⟩
  simp -implicitDefEqProofs [g1]
  have hx:=hX r.1.exts [l[j]] hr.2 hhB.2
  simp -implicitDefEqProofs [arg]at hx
  refine Aa (hx) ?_
  by_cases g2:r.1.exts=[l[j]]
  ·have h3:¬Jc path vs l[j]=true:=by rw[hq];simp[g1,g2]
   rw[if_neg h3,List.append_nil]at hst
   simp -implicitDefEqProofs [g2]
   exact⟨k-1,by omega,j+1,by omega,by simp[hw],by rw[hst],by rw[hst]⟩
  ·have h3:Jc path vs l[j]=true:=by rw[hq];simp[g2]
   rw[if_pos h3]at hst
   simp -implicitDefEqProofs [g2,hjn,hb1]
   exact⟨k-1,by omega,j+1,by omega,by simp[hw],by rw[hst];simp,by rw[hst]⟩
 ·have e2:(l.take j).filter (Jc path vs)=l.filter (Jc path vs):=AfI (by omega)
  simp -implicitDefEqProofs [hjn,e2]
theorem As5 (D:Dn) (hA:Gc (D K9)) (hO:Hz (D Agr)) (hP:Gi (D TH)):Ml (Body D Tg):=by
 intro path vs l hb hv hl
 have hll:=hl.1
 simp -implicitDefEqProofs
 refine Aa (hO path vs hb hv) ?_
 by_cases h2:isOpen path vs=true
 rotate_left
 ·simp -implicitDefEqProofs [h2,Fu]
 simp -implicitDefEqProofs [h2]
 refine Aa (hA l hl) ?_
 by_cases h1:EK l=true
 rotate_left
 ·simp -implicitDefEqProofs [h1,Fu]
 have e:Fu path vs l=Ap (l.filter (Jc path vs)):=by unfold Fu;rw[h1,h2];rfl
 have hpos:=AuH h2
 have h1l:(1:Int)≤vs.length:=by omega
 have h1n:1≤vs.length:=by omega
 have hlen:(vs.take 1).length=1:=by simp;omega
 have hmin:min 1 vs.length=1:=by omega
 rw[e]
 simp -implicitDefEqProofs [h1]
 refine Ad (fun k s=>∃j v5 o1 o2 o3 o4,j+k=l.length∧s=⟨[.sl 1 4 path.length (path.flatMap Dy),.sl 1 1 vs.length (ints vs),.undef,.undef,.arr 5,v5,.undef,.sl 1 2 l.length (l.flatMap Bw),I l.length,I j,.undef,.undef],[.free,o1,o2,o3,o4,.arr 1 0 (Ap ((l.take j).filter (Jc path vs))).length (ints (Ap ((l.take j).filter (Jc path vs))))]⟩) ?_ (l.length) _ ⟨0,.undef,.free,.free,.free,.free,by simp,by simp[Ap,ints]⟩
 intro k s ⟨j,v5,o1,o2,o3,o4,hj,hs⟩
 subst hs
 by_cases hjn:j<l.length
 ·have hw:IntKind.i64.wrap ((j:Int)+1)=(j+1:Nat):=by rw[Ab (by omega) (by omega)];simp
  have hst:=Al3 (p:=Jc path vs) hjn
  have hfl:=Apd (p:=Jc path vs) (l:=l) (j:=j)
  have hb1:((Ap ((l.take j).filter (Jc path vs))).length+1)*8≤1099511627776:=by omega
  have hhB:hB ⟨vs.take 1,[l[j]]⟩:=⟨by simp;omega,by simp,by intro x hx;simp at hx;subst hx;exact Ns hl hjn⟩
  simp -implicitDefEqProofs [hjn,h1l,h1n]
  have hp:=hP ⟨vs.take 1,[l[j]]⟩ path hhB hb
  have hq:Jc path vs l[j]= !Dt ⟨vs.take 1,[l[j]]⟩ path:=rfl
  simp -implicitDefEqProofs [hmin,arg]at hp
  refine Aa (hp) ?_
  generalize Dt ⟨vs.take 1,[l[j]]⟩ path=r at hq
  by_cases g1:r=true
  ·have h3:¬Jc path vs l[j]=true:=by rw[hq,g1];simp
   rw[if_neg h3,List.append_nil]at hst
   simp -implicitDefEqProofs [g1]
   exact⟨k-1,by omega,j+1,by omega,by simp[hw],by rw[hst],by rw[hst]⟩
  ·have h3:Jc path vs l[j]=true:=by rw[hq];simpa using g1
   rw[if_pos h3]at hst
   simp -implicitDefEqProofs [g1,hjn,hb1]
   exact⟨k-1,by omega,j+1,by omega,by simp[hw],by rw[hst];simp,by rw[hst]⟩
 ·have e2:(l.take j).filter (Jc path vs)=l.filter (Jc path vs):=AfI (by omega)
  simp -implicitDefEqProofs [hjn,e2]
end Go.Eng.T
namespace Go.Eng.T
set_option maxRecDepth 20000
set_option maxHeartbeats 1000000
theorem Ls (a b:List Int):(leftOf a b).length≤a.length:=List.length_filter_le _ _
def Fz (h:Hello) (lv lt:List Int):Hello×Bool:=if CB h&& !decide (leftOf h.versions lv=[])then(⟨leftOf h.versions lv,kept (fun t=> !decide (t∈lt)) h.exts⟩,true)else(AQ,false)
abbrev Kc (R:Rel):Prop:=∀(h:Hello) (lv lt:List Int),hB h→lv.length≤4194304→lt.length≤4194304→R [arg (CP h),.sl 1 1 lv.length (ints lv),.sl 1 1 lt.length (ints lt)] [] (.tup [.agg (CP (Fz h lv lt).1),B (Fz h lv lt).2]) []
theorem AqM (D:Dn) (hI:Eo (D GJ)) (hH:PX (D GA)):Kc (Body D Qi):=by
 intro h lv lt hh hv ht
 have hvl:=hh.1
 have hxl:=hh.2.1
 simp -implicitDefEqProofs
 refine Aa (hI h hh) ?_
 by_cases h1:CB h=true
 rotate_left
 ·simp -implicitDefEqProofs [h1,Fz,AQ]
 have e1:leftOf h.versions lv=h.versions.filter (fun v=> !decide (v∈lv)):=rfl
 unfold Fz
 rw[h1,e1]
 generalize hp:(fun v=> !decide (v∈lv))=p
 generalize hq:(fun t=> !decide (t∈lt))=q
 obtain⟨vs,hvs⟩:∃vs,vs=h.versions.filter p:=⟨_,rfl⟩
 rw[←hvs]
 simp -implicitDefEqProofs [h1]
 refine Ad (fun k s=>∃j o3 o4,j+k=h.versions.length∧s=⟨[.undef,.sl 1 1 lv.length (ints lv),.sl 1 1 lt.length (ints lt),.ptr 0 0,.ptr 1 0,.undef,.ptr 2 0,I j,.undef,.undef,.undef,.undef,.undef,.undef,.undef],[.var ((CP h).map (AL 1)),.var [.nil 1,.nil 2],.var [.arr 9,.arr 10],o3,o4,.free,.free,.free,.free,.arr 1 0 ((h.versions.take j).filter p).length (ints ((h.versions.take j).filter p)),.arr 2 0 0 []]⟩) ?_ (h.versions.length) _ ⟨0,.free,.free,by simp,by simp⟩
 intro k s ⟨j,o3,o4,hj,hs⟩
 subst hs
 by_cases hjn:j<h.versions.length
 ·have hw:IntKind.i64.wrap ((j:Int)+1)=(j+1:Nat):=by rw[Ab (by omega) (by omega)];simp
  have hst:=Kk (p:=p) hjn
  have hfl:=M5 (p:=p) (xs:=h.versions) (j:=j)
  have hb1:(((h.versions.take j).filter p).length+1)*8≤1099511627776:=by omega
  have hpv:p h.versions[j]= !decide (h.versions[j]∈lv):=by rw[←hp]
  simp -implicitDefEqProofs [hjn]
  refine Aa (hH lv h.versions[j] (by unfold maxLen;omega)) ?_
  by_cases h2:h.versions[j]∈lv
  ·have h3:¬p h.versions[j]=true:=by rw[hpv];simpa using h2
   rw[if_neg h3,List.append_nil]at hst
   simp -implicitDefEqProofs [h2]
   exact⟨k-1,by omega,j+1,by omega,by simp[hw],by rw[hst],by rw[hst]⟩
  ·have h3:p h.versions[j]=true:=by rw[hpv];simpa using h2
   rw[if_pos h3]at hst
   simp -implicitDefEqProofs [h2,hjn,hb1]
   exact⟨k-1,by omega,j+1,by omega,by simp[hw],by rw[hst];simp,by rw[hst]⟩
 have e2:=K7 (p:=p) (xs:=h.versions) (j:=j) (by omega)
 rw[←hvs]at e2
 simp -implicitDefEqProofs [hjn,e2]
 refine Ad (fun k s=>∃j o3 o4 o5 o6 o7 o8,j+k=h.exts.length∧s=⟨[.undef,.undef,.sl 1 1 lt.length (ints lt),.ptr 0 0,.ptr 1 0,.undef,.ptr 2 0,.undef,I j,.undef,.undef,.undef,.undef,.undef,.undef],[.var ((CP h).map (AL 1)),.var [.nil 1,.nil 2],.var [.arr 9,.arr 10],o3,o4,o5,o6,o7,o8,.arr 1 0 vs.length (ints vs),.arr 2 0 (kept q (h.exts.take j)).length ((kept q (h.exts.take j)).flatMap Bw)]⟩) ?_ (h.exts.length) _ ⟨0,o3,o4,.free,.free,.free,.free,by simp,by simp[kept]⟩
 intro k s ⟨j,o3,o4,o5,o6,o7,o8,hj,hs⟩
 subst hs
 by_cases hjn:j<h.exts.length
 ·have hw:IntKind.i64.wrap ((j:Int)+1)=(j+1:Nat):=by rw[Ab (by omega) (by omega)];simp
  have hb:=Ns hh.2 hjn
  have hb1:h.exts[j].body.length*8≤1099511627776:=by omega
  have hkl:=Ve (p:=q) (l:=h.exts) (j:=j)
  have hb2:((kept q (h.exts.take j)).length+1)*32≤1099511627776:=by omega
  have hpv:q h.exts[j].tag= !decide (h.exts[j].tag∈lt):=by rw[←hq]
  simp -implicitDefEqProofs [hjn]
  refine Aa (hH lt h.exts[j].tag (by unfold maxLen;omega)) ?_
  by_cases h2:h.exts[j].tag∈lt
  ·have h3:¬q h.exts[j].tag=true:=by rw[hpv];simpa using h2
   have hst:=ZG (p:=q) hjn
   rw[if_neg h3,List.append_nil]at hst
   simp -implicitDefEqProofs [h2]
   exact⟨k-1,by omega,j+1,by omega,by simp[hw],by rw[hst],by rw[hst]⟩
  ·have h3:q h.exts[j].tag=true:=by rw[hpv];simpa using h2
   have hst:=RQ hjn h3
   have hsl:=Jq hjn h3
   simp -implicitDefEqProofs [h2,hjn,hb1,hb2]
   exact⟨k-1,by omega,j+1,by omega,by simp[hw],by rw[←hsl],by rw[←hst]⟩
 have e3:=Vd (p:=q) (l:=h.exts) (j:=j) (by omega)
 by_cases g:vs=[]
 ·simp -implicitDefEqProofs [hjn,e3,g,AQ]
 ·have g':¬(vs.length:Int)=0:=by
   intro h0
   exact g (List.eq_nil_of_length_eq_zero (by omega))
  simp -implicitDefEqProofs [hjn,e3,g',g]
abbrev Tx (R:Rel):Prop:=∀(t:Int) (tags:List Int),tags.length≤maxLen→R [I t,.rptr 1 [.sl 0 1 tags.length (ints tags)] 0] [] (B (!decide (t∈tags))) []
theorem Ap0 (D:Dn) (hH:PX (D Bq)):Tx (Body D M9):=by
 intro t tags hl
 simp -implicitDefEqProofs
 refine Aa (hH tags t hl) ?_
 simp -implicitDefEqProofs
theorem Arl (D:Dn) (hI:Eo (D Im)) (hL:Xz (D Ph)) (h1:Tx (D TG)) (hK:Ma D (D J3)):Kc (Body D Rj):=by
 intro h lv lt hh hv ht
 simp -implicitDefEqProofs
 refine Aa (hL h.versions lv hh.1 hv) ?_
 have hll:=Ls h.versions lv
 unfold Fz
 generalize leftOf h.versions lv=vs at hll
 simp -implicitDefEqProofs
 refine Aa (hI h hh) ?_
 by_cases g1:CB h=true
 rotate_left
 ·simp -implicitDefEqProofs [g1,AQ]
 by_cases g:vs=[]
 ·simp -implicitDefEqProofs [g1,g,AQ]
 have g':¬(vs.length:Int)=0:=by
  intro h0
  exact g (List.eq_nil_of_length_eq_zero (by omega))
 simp -implicitDefEqProofs [g1,g',g]
 refine Aa (hK h.exts TG _ (fun t=> !decide (t∈lt)) hh.2 (Aba E5) (Aa1 RN) (fun t=>h1 t lt (by unfold maxLen;omega))) ?_
 simp -implicitDefEqProofs
def fallback (h:Hello) (path:List Gu):Hello×Bool:=Fz h (Bo path h.versions) (Fu path (leftOf h.versions (Bo path h.versions)) h.exts)
abbrev Mg (R:Rel):Prop:=∀(h:Hello) (path:List Gu),hB h→lnS JI path→R [arg (CP h),.sl 1 4 path.length (path.flatMap Dy)] [] (.tup [.agg (CP (fallback h path).1),B (fallback h path).2]) []
theorem Adj (path:List Gu) (vs:List Int) (l:List Ext):(Fu path vs l).length≤l.length:=by
 unfold Fu Ap
 split
 ·rw[List.length_map];exact List.length_filter_le _ _
 ·simp
theorem Asy (D:Dn) (hI:Eo (D GJ)) (hLV:GD (D Abg)) (hL:Xz (D Aar)) (hT:Ml (D Akv)) (hP:Kc (D Aim)):Mg (Body D KO):=by
 intro h path hh hb
 simp -implicitDefEqProofs
 refine Aa (hI h hh) ?_
 by_cases g1:CB h=true
 rotate_left
 ·have e:fallback h path=(AQ,false):=by unfold fallback Fz;simp[g1]
  simp -implicitDefEqProofs [g1,e,AQ]
 have hvl:=hh.1
 have hxl:=hh.2.1
 simp -implicitDefEqProofs [g1]
 refine Aa (hLV path h.versions hb hh.1) ?_
 have hll:=Auv path h.versions
 have e:fallback h path=Fz h (Bo path h.versions) (Fu path (leftOf h.versions (Bo path h.versions)) h.exts):=rfl
 rw[e]
 generalize Bo path h.versions=lv at hll
 simp -implicitDefEqProofs
 refine Aa (hL h.versions lv hh.1 (by omega)) ?_
 have hl2:=Ls h.versions lv
 generalize leftOf h.versions lv=vs at hl2
 simp -implicitDefEqProofs
 refine Aa (hT path vs h.exts hb (by omega) hh.2) ?_
 have hl3:=Adj path vs h.exts
 generalize Fu path vs h.exts=lt at hl3
 simp -implicitDefEqProofs
 refine Aa (hP h lv lt hh (by omega) (by omega)) ?_
 generalize Fz h lv lt=r
 simp -implicitDefEqProofs
theorem Auf (D:Dn) (hLV:GD (D Abi)) (hL:Xz (D Ph)) (hT:Ml (D AlE)) (hP:Kc (D AhH)):Mg (Body D KU):=by
 intro h path hh hb
 have hvl:=hh.1
 have hxl:=hh.2.1
 simp -implicitDefEqProofs [hvl]
 refine Aa (hLV path h.versions hb hh.1) ?_
 have hll:=Auv path h.versions
 have e:fallback h path=Fz h (Bo path h.versions) (Fu path (leftOf h.versions (Bo path h.versions)) h.exts):=rfl
 rw[e]
 generalize Bo path h.versions=lv at hll
 simp -implicitDefEqProofs
 refine Aa (hL h.versions lv hh.1 (by omega)) ?_
 have hl2:=Ls h.versions lv
 generalize leftOf h.versions lv=vs at hl2
 simp -implicitDefEqProofs
 refine Aa (hT path vs h.exts hb (by omega) hh.2) ?_
 have hl3:=Adj path vs h.exts
 generalize Fu path vs h.exts=lt at hl3
 simp -implicitDefEqProofs
 refine Aa (hP h lv lt hh (by omega) (by omega)) ?_
 generalize Fz h lv lt=r
 simp -implicitDefEqProofs
theorem AFu {h:Hello} {lv lt:List Int} (hh:hB h):hB (Fz h lv lt).1:=by
 unfold Fz
 split
 ·exact⟨Nat.le_trans (Ls _ _) hh.1,VW hh.2 (fun t=> !decide (t∈lt))⟩
 ·exact AkP
theorem ArI {h:Hello} {path:List Gu} (hh:hB h):hB (fallback h path).1:=AFu hh
def Cr (h:Hello) (path:List Gu):Hello×Int×Bool:=
 if CB h=true then(if Dt h path=true then(h,1,true)else if(fallback h path).2&&Dt (fallback h path).1 path then((fallback h path).1,2,true)else(AQ,2,false))else(AQ,0,false)
abbrev Me (R:Rel):Prop:=∀(h:Hello) (path:List Gu),hB h→lnS JI path→R [arg (CP h),.sl 1 4 path.length (path.flatMap Dy)] [] (.tup [.agg (CP (Cr h path).1),I (Cr h path).2.1,B (Cr h path).2.2]) []
theorem Asg (D:Dn) (hI:Eo (D GJ)) (hW:Gi (D Adp)) (hC:KZ (D Yh)) (hF:Mg (D ZK)):Me (Body D Sb):=by
 intro h path hh hb
 simp -implicitDefEqProofs
 refine Aa (hI h hh) ?_
 by_cases g1:CB h=true
 rotate_left
 ·simp -implicitDefEqProofs [g1,Cr,AQ]
 simp -implicitDefEqProofs [g1]
 refine Aa (hW h path hh hb) ?_
 by_cases g2:Dt h path=true
 ·simp -implicitDefEqProofs [g2]
  refine Aa (hC h hh) ?_
  simp -implicitDefEqProofs [Cr,g1,g2]
 simp -implicitDefEqProofs [g2]
 refine Aa (hF h path hh hb) ?_
 have hr:=ArI (path:=path) hh
 have e:Cr h path=(if(fallback h path).2&&Dt (fallback h path).1 path then((fallback h path).1,2,true)else(AQ,2,false)):=by unfold Cr;rw[if_pos g1,if_neg g2]
 rw[e]
 generalize fallback h path=r at hr
 by_cases g3:r.2=true
 rotate_left
 ·simp -implicitDefEqProofs [g3,AQ]
 simp -implicitDefEqProofs [g3]
 refine Aa (hW r.1 path hr hb) ?_
 by_cases g4:Dt r.1 path=true
 ·simp -implicitDefEqProofs [g3,g4]
 ·simp -implicitDefEqProofs [g3,g4,AQ]
theorem Aus (D:Dn) (hI:Eo (D Im)) (hW:Gi (D TH)) (hC:KZ (D Xn)) (hF:Mg (D Aae)):Me (Body D SA):=by
 intro h path hh hb
 simp -implicitDefEqProofs
 refine Aa (hI h hh) ?_
 by_cases g1:CB h=true
 rotate_left
 ·simp -implicitDefEqProofs [g1,Cr,AQ]
 simp -implicitDefEqProofs [g1]
 refine Aa (hW h path hh hb) ?_
 by_cases g2:Dt h path=true
 ·simp -implicitDefEqProofs [g2]
  refine Aa (hC h hh) ?_
  simp -implicitDefEqProofs [Cr,g1,g2]
 simp -implicitDefEqProofs [g2]
 refine Aa (hF h path hh hb) ?_
 have hr:=ArI (path:=path) hh
 have e:Cr h path=(if(fallback h path).2&&Dt (fallback h path).1 path then((fallback h path).1,2,true)else(AQ,2,false)):=by unfold Cr;rw[if_pos g1,if_neg g2]
 rw[e]
 generalize fallback h path=r at hr
 by_cases g3:r.2=true
 rotate_left
 ·simp -implicitDefEqProofs [g3,AQ]
 simp -implicitDefEqProofs [g3]
 refine Aa (hW r.1 path hr hb) ?_
 by_cases g4:Dt r.1 path=true
 ·simp -implicitDefEqProofs [g3,g4]
 ·simp -implicitDefEqProofs [g3,g4,AQ]
theorem Ayj {h:Hello} {path:List Gu} (hh:hB h):hB (Cr h path).1:=by
 unfold Cr
 split
 ·split
  ·exact hh
  ·split
   ·exact ArI hh
   ·exact AkP
 ·exact AkP
end Go.Eng.T
namespace Go.Eng.T
set_option maxRecDepth 20000
set_option maxHeartbeats 1000000
def FI:List Int→Int→Nat
 | [],_=>0
 | x::r,v=>if x<v then FI r v+1 else 0
theorem ArM:∀(l:List Int) (v:Int),FI l v≤l.length
 | [],_=>Nat.le_refl 0
 | x::r,v=>by
  have:=ArM r v
  simp only[FI,List.length_cons]
  split<;>omega
theorem AyH {l:List Int} {v:Int} {j:Nat} (h:j<l.length) (hv:l[j]<v):FI (l.drop j) v=FI (l.drop (j+1)) v+1:=by
 rw[List.drop_eq_getElem_cons h]
 simp only[FI,if_pos hv]
theorem Apf {l:List Int} {v:Int} {j:Nat} (h:j<l.length) (hv:¬l[j]<v):FI (l.drop j) v=0:=by
 rw[List.drop_eq_getElem_cons h]
 simp only[FI,if_neg hv]
theorem ADS {l:List Int} {v:Int} {j:Nat} (h:l.length≤j):FI (l.drop j) v=0:=by rw[List.drop_eq_nil_of_le h];rfl
def Abl (l:List Int) (i:Nat) (v:Int):List Int:=l.take i++v::l.drop i
theorem At7 {l:List Int} {i:Nat} {v:Int} (h:i≤l.length):(Abl l i v).length=l.length+1:=by simp[Abl];omega
def F3 (l:List Int) (v:Int):List Int:=if l[FI l v]? =some v then l else Abl l (FI l v) v
theorem VI (l:List Int) (v:Int):(F3 l v).length≤l.length+1:=by
 unfold F3
 split
 ·omega
 ·rw[At7 (ArM l v)];omega
abbrev Uc (R:Rel):Prop:=∀(l:List Int) (v:Int),l.length≤4194304→R [.sl 1 1 l.length (ints l),I v] [] (.sl 0 1 (F3 l v).length (ints (F3 l v))) []
theorem AFZ (D:Dn):Uc (Body D YD):=by
 intro l v hl
 simp -implicitDefEqProofs
 refine Ad (fun k s=>∃j,j+k=l.length∧FI l v=j+FI (l.drop j) v∧s=⟨[.sl 1 1 l.length (ints l),I v,.undef,I j,.undef,.undef],[.free,.free,.free,.free,.free,.free,.free]⟩) ?_ (l.length) _ ⟨0,by simp,by simp,by simp⟩
 intro k s ⟨j,hj,hp,hs⟩
 subst hs
 by_cases hjn:j<l.length
 ·have hw:IntKind.i64.wrap ((j:Int)+1)=(j+1:Nat):=by rw[Ab (by omega) (by omega)];simp
  by_cases hv:l[j]<v
  ·have hst:=AyH hjn hv
   simp -implicitDefEqProofs [hjn,hv]
   exact⟨k-1,by omega,j+1,by omega,by omega,by simp[hw]⟩
  ·have hst:=Apf hjn hv
   have hpe:FI l v=j:=by omega
   have b1:l.length*8≤1099511627776:=by omega
   have b2:j*8≤1099511627776:=by omega
   have b3:(j+1)*8≤1099511627776:=by omega
   have b4:(j+1+(l.length-j))*8≤1099511627776:=by omega
   have hjl:j≤l.length:=by omega
   have hjl':(j:Int)≤l.length:=by omega
   have hmin:min j l.length=j:=by omega
   have htk:List.take (l.length-j) (List.drop j l)=List.drop j l:=List.take_of_length_le (by simp)
   by_cases he:l[j]=v
   ·have e:F3 l v=l:=by unfold F3;rw[hpe,List.getElem?_eq_getElem hjn,he,if_pos rfl]
    rw[e]
    simp -implicitDefEqProofs [hjn,hv,he,b1]
   ·have e:F3 l v=l.take j++v::l.drop j:=by unfold F3 Abl;rw[hpe,List.getElem?_eq_getElem hjn,if_neg (by simpa using he)]
    have el:(F3 l v).length=j+1+(l.length-j):=by rw[e];simp;omega
    simp -implicitDefEqProofs [hjn,hv,he,hjl,hjl',hmin,b2,b3,b4]
    rw[el,e]
    simp[htk,Amz]
 ·have hst:=ADS (v:=v) (l:=l) (j:=j) (by omega)
  have hpe:FI l v=j:=by omega
  have b1:l.length*8≤1099511627776:=by omega
  have b2:j*8≤1099511627776:=by omega
  have b3:(j+1)*8≤1099511627776:=by omega
  have b4:(j+1+(l.length-j))*8≤1099511627776:=by omega
  have hjl:j≤l.length:=by omega
  have hjl':(j:Int)≤l.length:=by omega
  have hmin:min j l.length=j:=by omega
  have htk:List.take (l.length-j) (List.drop j l)=List.drop j l:=List.take_of_length_le (by simp)
  have e:F3 l v=l.take j++v::l.drop j:=by unfold F3 Abl;rw[hpe,List.getElem?_eq_none (by omega),if_neg (by simp)]
  have el:(F3 l v).length=j+1+(l.length-j):=by rw[e];simp;omega
  simp -implicitDefEqProofs [hjn,hjl,hjl',hmin,b2,b3,b4]
  rw[el,e]
  simp[htk,Amz]
end Go.Eng.T
namespace Go.Eng.T
set_option maxRecDepth 20000
set_option maxHeartbeats 1000000
def Aef {α:Type} (f:α→α) (xs:List α) (j:Nat):List α:=(xs.take j).map f++xs.drop j
section
variable {α:Type} {f:α→α} {xs:List α} {j:Nat}
theorem AAu:Aef f xs 0=xs:=by simp[Aef]
theorem ACg (h:xs.length≤j):Aef f xs j=xs.map f:=by simp[Aef,List.take_of_length_le h,List.drop_eq_nil_of_le h]
@[simp] theorem AB9 (h:j≤xs.length):(Aef f xs j).length=xs.length:=by simp[Aef];omega
theorem Asn (h:j<xs.length):(Aef f xs j)[j]'(by rw[AB9 (by omega)];exact h)=xs[j]:=by
 unfold Aef
 have hl:((xs.take j).map f).length=j:=by simp;omega
 have hm:min j xs.length=j:=by omega
 rw[List.getElem_append_right (by omega)]
 simp[hm]
theorem AuG (h:j<xs.length):(Aef f xs j).set j (f xs[j])=Aef f xs (j+1):=by
 unfold Aef
 have hl:((xs.take j).map f).length=j:=by simp;omega
 have ht:xs.take (j+1)=xs.take j++ [xs[j]]:=by simp
 rw[List.set_append_right _ _ (by omega),hl,Nat.sub_self,ht,List.map_append,List.drop_eq_getElem_cons h,List.set_cons_zero,List.append_assoc]
 rfl
theorem AAb (h:j<xs.length) (hf:f xs[j]=xs[j]):Aef f xs (j+1)=Aef f xs j:=by
 rw[←AuG h,hf]
 have:=Asn (f:=f) h
 conv=>lhs;rw[←this]
 simp
end
def G6 (w:World) (e:Aq):Aq:=if 0<Be w.server (EJ e.versions w.rollout.version)then⟨EJ e.versions w.rollout.version,e.tags,e.path,e.cls⟩else e
def leave (w:World):World:={w with ends:=w.ends.map (G6 w),stage:=[]}
abbrev Pg (R:Rel):Prop:=∀w:World,Af w≤4194304→R [arg (Bn w)] [] (.agg (Bn (leave w))) []
theorem AGV (a:List Int) (v:Int):(EJ a v).length≤a.length:=List.length_filter_le _ _
theorem AuM {w:World} (h:Af w≤4194304) {j:Nat} (hj:j<w.ends.length):w.ends[j].versions.length≤4194304:=by
 have:=size_at (f:=Ar) hj
 have e:Ar w.ends[j]=w.ends[j].versions.length+w.ends[j].tags.length+Cu JS w.ends[j].path:=rfl
 unfold Af at h
 omega
theorem Awc {w:World} (h:Af w≤4194304):w.server.length≤4194304:=by unfold Af at h;omega
theorem AiN (D:Dn) (hC:Ga (D Db)) (hW:Md (D OJ)) (hB:DY (D Iy)):Pg (Body D Lx):=by
 intro w h
 have hl:=ER h
 simp -implicitDefEqProofs
 refine Aa (hC w h) ?_
 simp -implicitDefEqProofs
 refine Ad (fun k s=>∃j v5 o9,j+k=w.ends.length∧s=⟨[.undef,.ptr 0 0,.ptr 1 0,.ptr 8 0,.sc (.int .i64 j),v5,.undef,.undef],[.var ((Bn w).map (AL 1)),.var [.nil 1,.nil 1,.sc (.int .i64 0),.nil 4,.sc (.int .i64 0),.nil 1,.sc (.int .i64 0),.sc (.bool false),.sc (.int .i64 0),.sc (.int .i64 0),.nil 5,.nil 8,.sc (.int .i64 0),.sc (.int .i64 0),.sc (.int .i64 0)],.arr 1 0 w.server.length (ints w.server),.arr 1 0 w.tags.length (ints w.tags),.arr 4 0 w.ends.length ((Aef (G6 w) w.ends j).flatMap Ak),.arr 1 0 w.rollout.stages.length (ints w.rollout.stages),.arr 5 0 w.stage.length (w.stage.flatMap A9),.arr 8 0 w.log.length (w.log.flatMap Av),.var [.arr 2,.arr 3,.sc (.int .i64 w.key),.arr 4,.sc (.int .i64 w.rollout.version),.arr 5,.sc (.int .i64 w.rollout.pos),.sc (.bool w.rollout.off),.sc (.int .i64 w.least),.sc (.int .i64 w.percent),.arr 6,.arr 7,.sc (.int .i64 w.now),.sc (.int .i64 w.hurt),.sc (.int .i64 w.reached)],o9,.free]⟩) ?_ w.ends.length _ ⟨0,by simp[AAu]⟩
 intro k s ⟨j,v5,o9,hj,hs⟩
 subst hs
 by_cases hjn:j<w.ends.length
 ·have hw:IntKind.i64.wrap ((j:Int)+1)=(j+1:Nat):=by rw[Ab (by omega) (by omega)];simp
  have hjl:j≤w.ends.length:=by omega
  have hset:=AuG (f:=G6 w) hjn
  have hg:=Asn (f:=G6 w) hjn
  have hvl:=AuM h hjn
  have hwl:=AGV w.ends[j].versions w.rollout.version
  have hf:j*4<w.ends.length*4:=by omega
  simp -implicitDefEqProofs [hjn,hjl,hg]
  refine Aa (hW w.ends[j].versions _ hvl) ?_
  simp -implicitDefEqProofs
  refine Aa (hB w.server _ (Awc h) (by omega)) ?_
  by_cases h1:0<Be w.server (EJ w.ends[j].versions w.rollout.version)
  ·have e:G6 w w.ends[j]=⟨EJ w.ends[j].versions w.rollout.version,w.ends[j].tags,w.ends[j].path,w.ends[j].cls⟩:=by unfold G6;rw[if_pos h1]
   rw[e]at hset
   simp -implicitDefEqProofs [h1,hjn,hjl,hg,hf]
   exact⟨k-1,by omega,j+1,by omega,by simp[hw],by rw[←hset]⟩
  ·have e:G6 w w.ends[j]=w.ends[j]:=by unfold G6;rw[if_neg h1]
   have hsame:=AAb hjn e
   simp -implicitDefEqProofs [h1]
   exact⟨k-1,by omega,j+1,by omega,by simp[hw],by rw[hsame]⟩
 ·have hx:=ACg (f:=G6 w) (xs:=w.ends) (j:=j) (by omega)
  simp -implicitDefEqProofs [hjn,hx,leave]
end Go.Eng.T
namespace Go.Eng.T
end Go.Eng.T
namespace Go.Eng.T
set_option maxRecDepth 20000
set_option maxHeartbeats 2000000
def TT {α:Type} (f:Nat→α→α) (xs:List α) (j:Nat):List α:=xs.mapIdx fun i x=>if i<j then f i x else x
section
variable {α:Type} {f:Nat→α→α} {xs:List α} {j:Nat}
@[simp] theorem AfC:(TT f xs j).length=xs.length:=by simp[TT]
theorem Axq:TT f xs 0=xs:=by
 apply List.ext_getElem
 ·simp
 ·intro n h1 h2;simp[TT]
theorem Aze (h:xs.length≤j):TT f xs j=xs.mapIdx f:=by
 apply List.ext_getElem
 ·simp
 ·intro n h1 h2
  simp only[AfC]at h1
  simp only[TT,List.getElem_mapIdx]
  rw[if_pos (by omega)]
theorem Apo (h:j<xs.length):(TT f xs j)[j]'(by rw[AfC];exact h)=xs[j]:=by simp[TT]
theorem Apu (h:j<xs.length):(TT f xs j).set j (f j xs[j])=TT f xs (j+1):=by
 apply List.ext_getElem
 ·simp
 ·intro n h1 h2
  simp only[List.length_set,AfC]at h1
  rw[List.getElem_set]
  simp only[TT,List.getElem_mapIdx]
  by_cases hn:j=n
  ·subst hn;simp
  ·rw[if_neg hn]
   by_cases hl:n<j
   ·rw[if_pos hl,if_pos (by omega)]
   ·rw[if_neg hl,if_neg (by omega)]
theorem Aw1 (h:j<xs.length) (hf:f j xs[j]=xs[j]):TT f xs (j+1)=TT f xs j:=by
 rw[←Apu h,hf]
 have:=Apo (f:=f) h
 conv=>lhs;rw[←this]
 simp
end
def Jl (w:World) (i:Nat) (e:Aq):Aq:=if isIn w.rollout i w.ends.length=true then⟨F3 e.versions w.rollout.version,e.tags,e.path,e.cls⟩else e
def PK (w:World):Bool:=A8 w.rollout&& !w.rollout.off
def enter (w:World):World:=if PK w=true then {w with ends:=w.ends.mapIdx (Jl w),stage:=[],reached:=max w.reached (w.rollout.pos+1)}else w
abbrev PL (R:Rel):Prop:=∀w:World,Af w≤4194304→R [arg (Bn w)] [] (.agg (Bn (enter w))) []
abbrev Aup (R:Rel):Prop:=∀a b:Int,R [I a,I b] [] (I (max a b)) []
abbrev Axz (R:Rel):Prop:=∀a b:Int,R [I a,I b] [] (I (min a b)) []
theorem AHU (D:Dn):Aup (Body D AfM):=by
 intro a b
 by_cases h:a<b
 ·have e:max a b=b:=by omega
  simp -implicitDefEqProofs [h,e]
 ·have e:max a b=a:=by omega
  simp -implicitDefEqProofs [h,e]
theorem AHM (D:Dn):Axz (Body D AeO):=by
 intro a b
 by_cases h:a<b
 ·have e:min a b=a:=by omega
  simp -implicitDefEqProofs [h,e]
  intro;omega
 ·have e:min a b=b:=by omega
  simp -implicitDefEqProofs [h,e]
  intro;omega
theorem AoD (D:Dn) (hC:Ga (D Db)) (hR:EB (D Hu)) (hI:Aui (D Al1)) (hP:Uc (D Kg)) (hM:Aup (D Apa)):PL (Body D O5):=by
 intro w h
 have hl:=ER h
 have hr:=Og h
 simp -implicitDefEqProofs
 refine Aa (hC w h) ?_
 simp -implicitDefEqProofs
 refine Aa (hR w.rollout hr) ?_
 by_cases h1:A8 w.rollout=true
 rotate_left
 ·have e:enter w=w:=by unfold enter PK;rw[if_neg (by simp[h1])]
  simp -implicitDefEqProofs [h1,e]
 by_cases h2:w.rollout.off=true
 ·have e:enter w=w:=by unfold enter PK;rw[if_neg (by simp[h2])]
  simp -implicitDefEqProofs [h1,h2,e]
 have h2':w.rollout.off=false:=by simpa using h2
 have e:enter w={w with ends:=w.ends.mapIdx (Jl w),stage:=[],reached:=max w.reached (w.rollout.pos+1)}:=by unfold enter PK;rw[if_pos (by simp[h1,h2'])]
 have hp:=Acj h1
 have hwp:IntKind.i64.wrap (w.rollout.pos+1)=w.rollout.pos+1:=Ab (by omega) (by omega)
 simp -implicitDefEqProofs [h1,h2]
 refine Ad (fun k s=>∃j o9,j+k=w.ends.length∧s=⟨[.undef,.ptr 0 0,.ptr 1 0,.ptr 8 0,I j,.undef,.undef,.undef],[.var ((Bn w).map (AL 1)),.var [.nil 1,.nil 1,.sc (.int .i64 0),.nil 4,.sc (.int .i64 0),.nil 1,.sc (.int .i64 0),.sc (.bool false),.sc (.int .i64 0),.sc (.int .i64 0),.nil 5,.nil 8,.sc (.int .i64 0),.sc (.int .i64 0),.sc (.int .i64 0)],.arr 1 0 w.server.length (ints w.server),.arr 1 0 w.tags.length (ints w.tags),.arr 4 0 w.ends.length ((TT (Jl w) w.ends j).flatMap Ak),.arr 1 0 w.rollout.stages.length (ints w.rollout.stages),.arr 5 0 w.stage.length (w.stage.flatMap A9),.arr 8 0 w.log.length (w.log.flatMap Av),.var [.arr 2,.arr 3,.sc (.int .i64 w.key),.arr 4,.sc (.int .i64 w.rollout.version),.arr 5,.sc (.int .i64 w.rollout.pos),.sc (.bool w.rollout.off),.sc (.int .i64 w.least),.sc (.int .i64 w.percent),.arr 6,.arr 7,.sc (.int .i64 w.now),.sc (.int .i64 w.hurt),.sc (.int .i64 w.reached)],o9,.free]⟩) ?_ (w.ends.length) _ ⟨0,.free,by simp,by simp[Axq,h2']⟩
 intro k s ⟨j,o9,hj,hs⟩
 subst hs
 by_cases hjn:j<w.ends.length
 ·have hw:IntKind.i64.wrap ((j:Int)+1)=(j+1:Nat):=by rw[Ab (by omega) (by omega)];simp
  have hset:=Apu (f:=Jl w) hjn
  have hg:=Apo (f:=Jl w) hjn
  have hvl:=AuM h hjn
  have hf:j*4<w.ends.length*4:=by omega
  simp -implicitDefEqProofs [hjn]
  refine Aa (hI w.rollout j w.ends.length hr) ?_
  by_cases h3:isIn w.rollout j w.ends.length=true
  ·have e3:Jl w j w.ends[j]=⟨F3 w.ends[j].versions w.rollout.version,w.ends[j].tags,w.ends[j].path,w.ends[j].cls⟩:=by unfold Jl;rw[if_pos h3]
   rw[e3]at hset
   simp -implicitDefEqProofs [h3,hjn,hg,hf]
   refine Aa (hP w.ends[j].versions _ hvl) ?_
   simp -implicitDefEqProofs [hjn,hg,hf]
   exact⟨k-1,by omega,j+1,by omega,by simp[hw],by rw[←hset]⟩
  ·have e3:Jl w j w.ends[j]=w.ends[j]:=by unfold Jl;rw[if_neg h3]
   have hsame:=Aw1 hjn e3
   simp -implicitDefEqProofs [h3]
   exact⟨k-1,by omega,j+1,by omega,by simp[hw],by rw[hsame]⟩
 ·have hx:=Aze (f:=Jl w) (xs:=w.ends) (j:=j) (by omega)
  simp -implicitDefEqProofs [hjn,hwp,hx]
  refine Aa (hM _ _) ?_
  simp -implicitDefEqProofs [e,h2']
def FW (w:World):World×Bool:=if decide (w.reached=0)&&PK w then(enter w,true)else(w,false)
abbrev WV (R:Rel):Prop:=∀w:World,Af w≤4194304→R [arg (Bn w)] [] (.tup [.agg (Bn (FW w).1),B (FW w).2]) []
theorem ApY (D:Dn) (hC:Ga (D Db)) (hR:EB (D Hu)) (hE:PL (D Vu)):WV (Body D QU):=by
 intro w h
 have hr:=Og h
 by_cases h0:w.reached=0
 rotate_left
 ·have e:FW w=(w,false):=by unfold FW;simp[h0]
  simp -implicitDefEqProofs [h0]
  refine Aa (hC w h) ?_
  simp -implicitDefEqProofs [e]
 simp -implicitDefEqProofs [h0]
 refine Aa (hR w.rollout hr) ?_
 by_cases h1:A8 w.rollout=true
 rotate_left
 ·have e:FW w=(w,false):=by unfold FW PK;simp[h1]
  simp -implicitDefEqProofs [h1]
  have hcs:=hC w h
  simp -implicitDefEqProofs [h0]at hcs
  refine Aa hcs ?_
  clear hcs
  simp -implicitDefEqProofs [e,h0]
 by_cases h2:w.rollout.off=true
 ·have e:FW w=(w,false):=by unfold FW PK;simp[h2]
  simp -implicitDefEqProofs [h1,h2]
  have hcs:=hC w h
  simp -implicitDefEqProofs [h0,h2]at hcs
  refine Aa hcs ?_
  clear hcs
  simp -implicitDefEqProofs [e,h0,h2]
 have h2':w.rollout.off=false:=by simpa using h2
 have e:FW w=(enter w,true):=by unfold FW PK;simp[h0,h1,h2']
 simp -implicitDefEqProofs [h1,h2]
 have hcs:=hE w h
 simp -implicitDefEqProofs [h0,h2]at hcs
 refine Aa hcs ?_
 clear hcs
 simp -implicitDefEqProofs [e]
end Go.Eng.T
namespace Go.Eng.T
set_option maxRecDepth 20000
set_option maxHeartbeats 2000000
open Go.Lib (compact compactUpTo keeps)
abbrev Up (l:List Int):Prop:=l.Pairwise (· < ·)
theorem ACS:∀ {a b:List Int},Up a→Up b→(∀x,x∈a↔x∈b)→a=b
 | [],[],_,_,_=>rfl
 | [],y::b,_,_,h=>by have:=(h y).2 (by simp);simp at this
 | x::a,[],_,_,h=>by have:=(h x).1 (by simp);simp at this
 | x::a,y::b,ha,hb,h=>by
  rw[Up,List.pairwise_cons]at ha hb
  have hxy:x=y:=by
   have h1:=(h x).1 (by simp)
   have h2:=(h y).2 (by simp)
   rcases List.mem_cons.1 h1 with e | h1
   ·exact e
   ·rcases List.mem_cons.1 h2 with e | h2
    ·exact e.symm
    ·have:=hb.1 x h1;have:=ha.1 y h2;omega
  subst hxy
  congr 1
  refine ACS ha.2 hb.2 fun z=>⟨fun hz=> ?_,fun hz=> ?_⟩
  ·rcases List.mem_cons.1 ((h z).1 (by simp[hz]))with e | h1
   ·subst e;have:=ha.1 z hz;omega
   ·exact h1
  ·rcases List.mem_cons.1 ((h z).2 (by simp[hz]))with e | h1
   ·subst e;have:=hb.1 z hz;omega
   ·exact h1
theorem Vt:∀(l:List Int) (v x:Int),x∈F3 l v↔x∈l∨x=v:=by
 intro l v x
 unfold F3
 split
 ·rename_i h
  constructor
  ·exact .inl
  ·rintro (h1 | rfl)
   ·exact h1
   ·exact List.mem_of_getElem? h
 ·unfold Abl
  rw[List.mem_append,List.mem_cons]
  have:x∈l↔x∈l.take (FI l v)∨x∈l.drop (FI l v):=by
   conv=>lhs;rw[←List.take_append_drop (FI l v) l,List.mem_append]
  rw[this]
  constructor
  ·rintro (h1 | h1 | h1)
   ·exact .inl (.inl h1)
   ·exact .inr h1
   ·exact .inl (.inr h1)
  ·rintro ((h1 | h1) | h1)
   ·exact .inl h1
   ·exact .inr (.inr h1)
   ·exact .inr (.inl h1)
theorem AgC:∀(l:List Int) (v x:Int),x∈l.take (FI l v)→x<v
 | [],v,x,h=>by simp at h
 | y::r,v,x,h=>by
  simp only[FI]at h
  split at h
  ·rw[List.take_succ_cons]at h
   rcases List.mem_cons.1 h with rfl | h
   ·assumption
   ·exact AgC r v x h
  ·simp at h
theorem Aqh:∀ {l:List Int} (v:Int),Up l→Up (F3 l v):=by
 intro l v hl
 unfold F3
 split
 ·exact hl
 ·rename_i hne
  unfold Abl Up
  rw[List.pairwise_append,List.pairwise_cons]
  have hb:=AgC l v
  have hafter:∀y,y∈l.drop (FI l v)→v<y:=by
   intro y hy
   by_cases hk:FI l v<l.length
   ·have hs:=Apf (l:=l) (v:=v) hk (by
     intro hlt
     have key:∀(l:List Int) (h:FI l v<l.length),¬l[FI l v]<v:=by
      intro l
      induction l with
      | nil=>intro h;simp at h
      | cons x r ih=>
       intro h
       by_cases hx:x<v
       ·have e:FI (x::r) v=FI r v+1:=by simp[FI,hx]
        have h':FI r v<r.length:=by rw[e]at h;simpa using h
        have:=ih h'
        simp only[e,List.getElem_cons_succ]
        exact this
       ·have e:FI (x::r) v=0:=by simp[FI,hx]
        simp only[e,List.getElem_cons_zero]
        exact hx
     exact key l hk hlt)
    have key:∀(l:List Int) (h:FI l v<l.length),¬l[FI l v]<v:=by
     intro l
     induction l with
     | nil=>intro h;simp at h
     | cons x r ih=>
      intro h
      by_cases hx:x<v
      ·have e:FI (x::r) v=FI r v+1:=by simp[FI,hx]
       have h':FI r v<r.length:=by rw[e]at h;simpa using h
       have:=ih h'
       simp only[e,List.getElem_cons_succ]
       exact this
      ·have e:FI (x::r) v=0:=by simp[FI,hx]
       simp only[e,List.getElem_cons_zero]
       exact hx
    have h1:=key l hk
    have h2:l[FI l v]≠v:=by
     intro e;apply hne;rw[List.getElem?_eq_getElem hk,e]
    rw[List.drop_eq_getElem_cons hk]at hy
    have hp:(l[FI l v]::l.drop (FI l v+1)).Pairwise (· < ·):=by rw[←List.drop_eq_getElem_cons hk];exact hl.drop
    rw[List.pairwise_cons]at hp
    rcases List.mem_cons.1 hy with rfl | hy
    ·omega
    ·have:=hp.1 y hy;omega
   ·rw[List.drop_eq_nil_of_le (by omega)]at hy;simp at hy
  refine⟨hl.take,⟨hafter,hl.drop⟩,fun a ha b hb'=> ?_⟩
  have h1:=hb a ha
  rcases List.mem_cons.1 hb' with rfl | hb'
  ·exact h1
  ·have:=hafter b hb';omega
def Wi (l:List Int) (xs:List Int):List Int:=xs.foldl F3 l
theorem Ao5:∀ {xs l:List Int},Up l→Up (Wi l xs)
 | [],_,h=>h
 | x::xs,l,h=>Ao5 (xs:=xs) (Aqh x h)
theorem Al5:∀(xs l:List Int) (x:Int),x∈Wi l xs↔x∈l∨x∈xs
 | [],l,x=>by simp[Wi]
 | y::xs,l,x=>by
  have:=Al5 xs (F3 l y) x
  unfold Wi at *
  rw[List.foldl_cons,this,Vt,List.mem_cons]
  constructor
  ·rintro ((h | h) | h)
   ·exact .inl h
   ·exact .inr (.inl h)
   ·exact .inr (.inr h)
  ·rintro (h | h | h)
   ·exact .inl (.inl h)
   ·exact .inl (.inr h)
   ·exact .inr h
theorem As0 (zs:List Int) (x:Int):x∈compact zs↔x∈zs:=by
 have hget:∀i,i<zs.length→zs.toArray[i]! =zs[i]! :=fun i _=>by simp
 unfold compact compactUpTo
 simp only[List.mem_map,List.mem_filter,List.mem_range]
 constructor
 ·rintro ⟨i,⟨hi,_⟩,rfl⟩
  rw[hget i hi,getElem!_pos zs i hi]
  exact List.getElem_mem hi
 ·intro hx
  have key:∀n,(h:n<zs.length)→zs[n]=x→∃i,(i<zs.length∧keeps zs.toArray i=true)∧zs.toArray[i]! =x:=by
   intro n
   induction n with
   | zero=>intro h e;exact⟨0,⟨h,by simp[keeps]⟩,by rw[hget 0 h,getElem!_pos zs 0 h,e]⟩
   | succ n ih=>
    intro h e
    by_cases hk:zs[n]=x
    ·exact ih (by omega) hk
    ·refine⟨n+1,⟨h,?_⟩,by rw[hget _ h,getElem!_pos zs _ h,e]⟩
     unfold keeps
     rw[show n+1-1=n by omega,hget _ h,hget n (by omega),getElem!_pos zs _ h,getElem!_pos zs n (by omega),e]
     simp
     exact fun h=>hk h.symm
  obtain⟨n,hn,e⟩:=List.getElem_of_mem hx
  exact key n hn e
theorem AwQ (zs:List Int) (h:zs.Pairwise (·≤·)):Up (compact zs):=by
 have hget:∀i,i<zs.length→zs.toArray[i]! =zs[i]! :=fun i _=>by simp
 unfold compact compactUpTo Up
 rw[List.pairwise_map]
 have hr:((List.range zs.length).filter (keeps zs.toArray)).Pairwise (· < ·):=List.Pairwise.filter _ List.pairwise_lt_range
 refine hr.imp_of_mem ?_
 intro i j hi hj hij
 simp only[List.mem_filter,List.mem_range]at hi hj
 have hk:=hj.2
 unfold keeps at hk
 have h0:¬j=0:=by omega
 simp only[h0,false_or,decide_eq_true_eq]at hk
 rw[hget j hj.1,hget (j-1) (by omega),getElem!_pos zs j hj.1,getElem!_pos zs (j-1) (by omega)]at hk
 rw[hget i hi.1,hget j hj.1,getElem!_pos zs i hi.1,getElem!_pos zs j hj.1]
 rw[List.pairwise_iff_getElem]at h
 have h1:=h (j-1) j (by omega) hj.1 (by omega)
 have h2:zs[i]≤zs[j-1]:=by
  by_cases e:i=j-1
  ·simp[e]
  ·exact h i (j-1) hi.1 (by omega) (by omega)
 omega
def AcO (l:List Int):List Int:=l.mergeSort fun x y=>decide (x≤y)
theorem AfE (l:List Int):(AcO l).length=l.length:=by simp[AcO]
theorem AAP (l:List Int) (x:Int):x∈AcO l↔x∈l:=by simp[AcO]
theorem ACA (l:List Int):(AcO l).Pairwise (·≤·):=by
 have:=List.pairwise_mergeSort (le:=fun x y:Int=>decide (x≤y)) (fun a b c h1 h2=>by simp at *;omega) (fun a b=>by simp;omega) l
 exact this.imp fun h=>by simpa using h
theorem Aqv (l:List Int):compact (AcO l)=Wi [] l:=by
 refine ACS (AwQ _ (ACA l)) (Ao5 List.Pairwise.nil) fun x=> ?_
 rw[As0,AAP,Al5]
 simp
abbrev ADY (R:Rel):Prop:=∀l:List Int,l.length≤4194304→R [.arr 0] [.arr 1 0 l.length (ints l)] (.tup []) [.arr 1 0 l.length (ints (AcO l))]
abbrev CompactS (R:Rel):Prop:=∀l:List Int,l.length≤4194304→R [.arr 0] [.arr 1 0 l.length (ints l)] (.sl 0 1 (compact l).length (ints (compact l))) [.dead]
def Tz (w:World) (xs:List CO):List Int:=(xs.filter (MC w)).map (·.fin)
def Ad6 (w:World):List Int:=Wi [] (Tz w w.log)
theorem Av4 {w:World} {xs:List CO} {j:Nat} (h:j<xs.length):Tz w (xs.take (j+1))=Tz w (xs.take j)++(if MC w xs[j]then [xs[j].fin]else []):=by
 unfold Tz
 rw[Abr h]
 by_cases hp:MC w xs[j]=true<;>simp[hp]
theorem Aza {w:World} {xs:List CO} {j:Nat} (h:xs.length≤j):Tz w (xs.take j)=Tz w xs:=by rw[List.take_of_length_le h]
theorem App {w:World} {xs:List CO} {j:Nat}:(Tz w (xs.take j)).length≤j:=by
 unfold Tz
 rw[List.length_map]
 exact Aff
theorem AvY:∀(xs l:List Int),(Wi l xs).length≤l.length+xs.length
 | [],l=>by simp[Wi]
 | x::xs,l=>by
  have h1:=AvY xs (F3 l x)
  have h2:=VI l x
  unfold Wi at *
  simp only[List.foldl_cons,List.length_cons]
  omega
abbrev ZB (R:Rel):Prop:=∀w:World,Af w≤4194304→R [arg (Bn w)] [] (.sl 0 1 (Ad6 w).length (ints (Ad6 w))) []
theorem Aux (D:Dn) (hB:AsD (D AcV)) (hS:ADY (D Vr)) (hC:CompactS (D R9)):ZB (Body D QJ):=by
 intro w hsz
 have hl:=Zv hsz
 have hres:Ad6 w=compact (AcO (Tz w w.log)):=(Aqv _).symm
 rw[hres]
 simp -implicitDefEqProofs
 refine Ad (fun k s=>∃j v4 o2 o3 o4,j+k=w.log.length∧s=⟨[.undef,.ptr 0 0,.undef,.arr 6,v4,.sl 1 8 w.log.length (w.log.flatMap Av),I w.log.length,I j,.undef,.undef],[.var ((Bn w).map (AL 1)),.free,o2,o3,o4,.free,.arr 1 0 (Tz w (w.log.take j)).length (ints (Tz w (w.log.take j)))]⟩) ?_ (w.log.length) _ ⟨0,.undef,.free,.free,.free,by simp,by simp[Tz]⟩
 intro k s ⟨j,v4,o2,o3,o4,hj,hs⟩
 subst hs
 by_cases hjn:j<w.log.length
 ·have hw:IntKind.i64.wrap ((j:Int)+1)=(j+1:Nat):=by rw[Ab (by omega) (by omega)];simp
  have hst:=Av4 (w:=w) hjn
  have hfl:=App (w:=w) (xs:=w.log) (j:=j)
  have hbd:((Tz w (w.log.take j)).length+1)*8≤1099511627776:=by omega
  simp -implicitDefEqProofs [hjn]
  refine Aa (hB w w.log[j] (AsJ hsz hjn)) ?_
  by_cases h1:MC w w.log[j]=true
  ·rw[if_pos h1]at hst
   simp -implicitDefEqProofs [h1,hjn,hbd]
   exact⟨k-1,by omega,j+1,by omega,by simp[hw],by rw[hst];simp,by rw[hst]⟩
  ·rw[if_neg h1,List.append_nil]at hst
   simp -implicitDefEqProofs [h1]
   exact⟨k-1,by omega,j+1,by omega,by simp[hw],by rw[hst],by rw[hst]⟩
 ·have hx:=Aza (w:=w) (xs:=w.log) (j:=j) (by omega)
  have hfl:=App (w:=w) (xs:=w.log) (j:=w.log.length)
  rw[List.take_length]at hfl
  simp -implicitDefEqProofs [hjn,hx]
  refine Aa (hS _ (by omega)) ?_
  simp -implicitDefEqProofs [AfE]
  have hc:=hC (AcO (Tz w w.log)) (by rw[AfE];omega)
  rw[AfE]at hc
  refine Aa (hc) ?_
  simp -implicitDefEqProofs
def Arr (r:BL) (i:Nat):BL:=⟨r.version,r.stages,i,r.off⟩
def SG (r:BL) (n:Int):Nat→Int
 | 0=>0
 | k+1=>max (SG r n k) (countIn (Arr r k) n)
def P8 (r:BL) (n s:Int):Int:=if A8 r=true∧Po s 1 r.stages.length then SG r n s.toNat else 0
abbrev Zg (R:Rel):Prop:=∀(r:BL) (n s:Int),r.stages.length≤4194304→R [arg (F7 r),I n,I s] [] (I (P8 r n s)) []
theorem Atz (D:Dn) (hR:EB (D QX)) (hI:Qo (D BB)) (hC:Qh (D Aor)):Zg (Body D SI):=by
 intro r n st hl
 simp -implicitDefEqProofs
 refine Aa (hR r hl) ?_
 by_cases h1:A8 r=true
 rotate_left
 ·have e:P8 r n st=0:=by unfold P8;rw[if_neg (by simp[h1])]
  simp -implicitDefEqProofs [h1,e]
 simp -implicitDefEqProofs [h1]
 refine Aa (hI _ _ _) ?_
 by_cases h2:Po st 1 r.stages.length
 rotate_left
 ·have e:P8 r n st=0:=by unfold P8;rw[if_neg (fun h=>h2 h.2)]
  simp -implicitDefEqProofs [h2,e]
 obtain⟨m,rfl⟩:∃m:Nat,st=m:=⟨st.toNat,by have:=h2.1;omega⟩
 have hm:m≤r.stages.length:=by have:=h2.2;omega
 have e:P8 r n m=SG r n m:=by unfold P8;rw[if_pos ⟨h1,h2⟩];simp
 rw[e]
 simp -implicitDefEqProofs [h2]
 refine Ad (fun k s=>∃j at0,j+k=m∧s=⟨[.undef,I n,.undef,.ptr 0 0,.undef,I (SG r n j),.undef,.undef,I m,I j,.undef],[.var [.sc (.int .i64 r.version),.sl 1 1 r.stages.length (ints r.stages),.sc (.int .i64 at0),.sc (.bool r.off)]]⟩) ?_ (m) _ ⟨0,r.pos,by simp,by simp[SG]⟩
 intro k s ⟨j,at0,hj,hs⟩
 subst hs
 by_cases hjn:j<m
 ·have hw:IntKind.i64.wrap ((j:Int)+1)=(j+1:Nat):=by rw[Ab (by omega) (by omega)];simp
  simp -implicitDefEqProofs [hjn]
  refine Aa (hC (Arr r j) n hl) ?_
  by_cases hmx:SG r n j<countIn (Arr r j) n
  ·have em:SG r n (j+1)=countIn (Arr r j) n:=by simp only[SG];omega
   simp -implicitDefEqProofs [hmx]
   exact⟨k-1,by omega,j+1,by omega,by rw[em],by simp[hw]⟩
  ·have em:SG r n (j+1)=SG r n j:=by simp only[SG];omega
   simp -implicitDefEqProofs [hmx]
   exact⟨k-1,by omega,j+1,by omega,by rw[em],by simp[hw]⟩
 ·obtain rfl:j=m:=by omega
  simp -implicitDefEqProofs
def ACG (r:BL):BL:=⟨r.version,r.stages,r.pos,false⟩
def Vo (w:World):Bool:=decide (((Ad6 w).length:Int)≤P8 (ACG w.rollout) w.ends.length w.reached)
abbrev Te (R:Rel):Prop:=∀w:World,Af w≤4194304→R [arg (Bn w)] [] (B (Vo w)) []
theorem AqG (D:Dn) (hH:ZB (D Aks)) (hM:Zg (D Alt)):Te (Body D QZ):=by
 intro w hsz
 simp -implicitDefEqProofs
 refine Aa (hH w hsz) ?_
 simp -implicitDefEqProofs
 refine Aa (hM (ACG w.rollout) _ _ (Og hsz)) ?_
 simp -implicitDefEqProofs [Vo]
end Go.Eng.T
namespace Go.Eng.T
set_option maxRecDepth 20000
theorem Awh {w:World} (h:Af w≤4194304):∀(j:Nat) (hj:j<w.stage.length),w.stage[j].up.length≤maxLen:=by
 intro j hj
 have:=size_at (f:=DW) hj
 unfold Af at h
 have e:DW w.stage[j]=YJ w.stage[j].deal+w.stage[j].up.length:=rfl
 unfold maxLen;omega
def RL (w:World):Int:=P9 (cntF (goodD w.rollout.version) w.stage) (cntF (NK w.rollout.version) w.stage) w.least w.percent
abbrev W9 (R:Rel):Prop:=∀w:World,Af w≤4194304→R [arg (Bn w)] [] (I (RL w)) []
theorem Aqj (D:Dn) (hM:Vq (D AlL)) (hS:Y4 (D AlW)):W9 (Body D Qj):=by
 intro w h
 simp -implicitDefEqProofs
 refine Aa (hM w.stage _ (by have:=AgA h;unfold maxLen;omega) (Awh h)) ?_
 simp -implicitDefEqProofs
 refine Aa (hS _ _ _ _) ?_
 simp -implicitDefEqProofs [RL]
end Go.Eng.T
namespace Go.Eng.T
set_option maxRecDepth 20000
set_option maxHeartbeats 2000000
def Adf (r:BL):Bool:=A8 r&&(!r.off&& !decide (r.pos=(r.stages.length:Int)-1))
def Df (r:BL):BL×Bool:=if Adf r=true then(⟨r.version,r.stages,r.pos+1,r.off⟩,true)else(r,false)
abbrev Xa (R:Rel):Prop:=∀r:BL,BX r≤4194304→R [arg (F7 r)] [] (.tup [.agg (F7 (Df r).1),B (Df r).2]) []
theorem Aq4 (D:Dn) (hC:NZ (D UI)) (hR:EB (D Hu)):Xa (Body D QV):=by
 intro r h
 have hl:r.stages.length≤4194304:=h
 have hw1:IntKind.i64.wrap ((r.stages.length:Int)-1)=(r.stages.length:Int)-1:=Ab (by omega) (by omega)
 simp -implicitDefEqProofs
 refine Aa (hC r h) ?_
 simp -implicitDefEqProofs
 refine Aa (hR r hl) ?_
 by_cases h1:A8 r=true
 rotate_left
 ·have e:Df r=(r,false):=by unfold Df Adf;rw[if_neg (by simp[h1])]
  simp -implicitDefEqProofs [h1,e]
 by_cases h2:r.off=true
 ·have e:Df r=(r,false):=by unfold Df Adf;rw[if_neg (by simp[h2])]
  simp -implicitDefEqProofs [h1,h2,e]
 have h2':r.off=false:=by simpa using h2
 have hp:=Acj h1
 have hwp:IntKind.i64.wrap (r.pos+1)=r.pos+1:=Ab (by omega) (by omega)
 obtain⟨ver,stg,pos,off⟩:=r
 dsimp only at *
 subst h2'
 by_cases h3:pos=(stg.length:Int)-1
 ·have e:Df ⟨ver,stg,pos,false⟩=(⟨ver,stg,pos,false⟩,false):=by unfold Df Adf;rw[if_neg (by simp[h3])]
  subst h3
  simp -implicitDefEqProofs [h1,hw1,e]
 have e:Df ⟨ver,stg,pos,false⟩=(⟨ver,stg,pos+1,false⟩,true):=by unfold Df Adf;rw[if_pos (by simp[h1,h3])]
 simp -implicitDefEqProofs [h1,hw1,h3,hwp,e]
def Ajh (r:BL):Bool:=A8 r&& !r.off
def DU (r:BL):BL×Bool:=if Ajh r=true then(⟨r.version,r.stages,0,true⟩,true)else(r,false)
abbrev WX (R:Rel):Prop:=∀r:BL,BX r≤4194304→R [arg (F7 r)] [] (.tup [.agg (F7 (DU r).1),B (DU r).2]) []
theorem Aqk (D:Dn) (hC:NZ (D UI)) (hR:EB (D Hu)):WX (Body D Qp):=by
 intro r h
 have hl:r.stages.length≤4194304:=h
 simp -implicitDefEqProofs
 refine Aa (hC r h) ?_
 simp -implicitDefEqProofs
 refine Aa (hR r hl) ?_
 by_cases h1:A8 r=true
 rotate_left
 ·have e:DU r=(r,false):=by unfold DU Ajh;rw[if_neg (by simp[h1])]
  simp -implicitDefEqProofs [h1,e]
 by_cases h2:r.off=true
 ·have e:DU r=(r,false):=by unfold DU Ajh;rw[if_neg (by simp[h2])]
  simp -implicitDefEqProofs [h1,h2,e]
 have e:DU r=(⟨r.version,r.stages,0,true⟩,true):=by unfold DU Ajh;rw[if_pos (by simp[h1,h2])]
 simp -implicitDefEqProofs [h1,h2,e]
def AmE (l:List Int) (v:Int):Bool:=AU l&&(decide (InV v 1 9)&& !decide (v∈l))
def UK (l:List Int) (v:Int):List Int×Bool:=if AmE l v=true then(F3 l v,true)else(l,false)
abbrev Ua (R:Rel):Prop:=∀(l:List Int) (v:Int),l.length≤4194304→R [.sl 1 1 l.length (ints l),I v] [] (.tup [.sl 0 1 (UK l v).1.length (ints (UK l v).1),B (UK l v).2]) []
theorem AmU (D:Dn) (hA:BA (D Di)) (hI:Qo (D BF)) (hH:PX (D GA)) (hP:Uc (D Kg)):Ua (Body D Oc):=by
 intro l v hl
 have hl8:l.length*8≤1099511627776:=by omega
 have hl9:(l.length+1)*8≤1099511627776:=by omega
 simp -implicitDefEqProofs [hl8]
 refine Aa (hA l (by unfold maxLen;omega)) ?_
 by_cases h1:AU l=true
 rotate_left
 ·have e:UK l v=(l,false):=by unfold UK AmE;rw[if_neg (by simp[h1])]
  simp -implicitDefEqProofs [h1,e,hl8]
 simp -implicitDefEqProofs [h1]
 refine Aa (hI _ _ _) ?_
 by_cases h2:InV v 1 9
 rotate_left
 ·have e:UK l v=(l,false):=by unfold UK AmE;rw[if_neg (by simp[h2])]
  simp -implicitDefEqProofs [h2,e,hl8]
 simp -implicitDefEqProofs [h2]
 refine Aa (hH l v (by unfold maxLen;omega)) ?_
 by_cases h3:v∈l
 ·have e:UK l v=(l,false):=by unfold UK AmE;rw[if_neg (by simp[h3])]
  simp -implicitDefEqProofs [h3,e,hl8]
 have e:UK l v=(F3 l v,true):=by unfold UK AmE;rw[if_pos (by simp[h1,h2,h3])]
 simp -implicitDefEqProofs [h3]
 refine Aa (hP l v hl) ?_
 simp -implicitDefEqProofs [e]
theorem up9:∀ {l:List Int} {a:Int},Up l→(∀x,x∈l→a<x∧x≤9)→(l.length:Int)≤9-a∨l=[]
 | [],_,_,_=> .inr rfl
 | x::r,a,h,hb=>by
  rw[Up,List.pairwise_cons]at h
  have h0:=hb x (by simp)
  have:=up9 (l:=r) (a:=x) h.2 (fun y hy=>⟨h.1 y hy,(hb y (by simp[hy])).2⟩)
  left
  rcases this with h1 | rfl
  ·simp only[List.length_cons];omega
  ·simp;omega
theorem AtM {l:List Int} (h:AU l=true):l.length≤9:=by
 have:=up9 (l:=l) (a:=0) (Apy h) (fun x hx=>by have:=AxI h x hx;exact⟨by omega,by omega⟩)
 rcases this with h1 | rfl
 ·omega
 ·simp
def IX (w:World) (v:Int):World×Bool:=({w with server:=(UK w.server v).1},(UK w.server v).2)
abbrev TF (R:Rel):Prop:=∀(w:World) (v:Int),Af w≤4194304→R [arg (Bn w),I v] [] (.tup [.agg (Bn (IX w v).1),B (IX w v).2]) []
theorem AE7 {l:List Int} {v:Int} (h:(UK l v).2=false):(UK l v).1=l:=by
 unfold UK at *
 split at h
 ·cases h
 ·rename_i hc;rw[if_neg hc]
theorem AoN (D:Dn) (hC:Ga (D Db)) (hA:Ua (D Af8)):TF (Body D O8):=by
 intro w v hsz
 simp -implicitDefEqProofs
 refine Aa (hC w hsz) ?_
 simp -implicitDefEqProofs
 refine Aa (hA w.server v (Ms hsz).1) ?_
 have hno:=AE7 (l:=w.server) (v:=v)
 have e:IX w v=({w with server:=(UK w.server v).1},(UK w.server v).2):=rfl
 rw[e]
 generalize UK w.server v=r at hno
 by_cases h1:r.2=true
 ·simp -implicitDefEqProofs [h1]
 ·have:=hno (by simpa using h1)
  simp -implicitDefEqProofs [h1,this]
theorem ADu (l:List Int) (v:Int):(UK l v).1.length≤l.length+1:=by
 unfold UK
 split
 ·exact VI l v
 ·dsimp only;omega
theorem Anf (w:World) (v:Int):Af (IX w v).1≤Af w+1:=by
 have:=ADu w.server v
 simp only[IX,Af]
 omega
end Go.Eng.T
namespace Go.Eng.T
set_option maxRecDepth 20000
set_option maxHeartbeats 1000000
theorem ABK {D:Dn} {c:Cf} {a:SC} {Q:Out→St→Prop} {s:St} (h:swp D c a (fun o s'=>match o with | .normal=>False | o=>Q o s') s):swp D c (.loop a) Q s:=⟨1,h⟩
def inB (t:Int):Bool:=decide (Pv t 0 255)
def AgN (b:List Int) (t:Int):Bool:= !decide (t∈b)&&inB t
def Wq (h x:Hello):List Int:=leftOf h.versions x.versions++((Ap h.exts).filter (AgN (Ap x.exts))).map (fun t=>1000+t)
theorem Azx (a b:List Int):(leftOf a b).filter inB=a.filter (AgN b):=by
 unfold leftOf
 rw[List.filter_filter]
 congr 1
 funext t
 unfold AgN
 cases inB t<;>cases decide (t∈b)<;>rfl
abbrev Qd (R:Rel):Prop:=∀h x:Hello,hB h→hB x→R [arg (CP h),arg (CP x)] [] (.sl 0 1 (Wq h x).length (ints (Wq h x))) []
theorem ApJ {p:Int→Bool} {a l:List Int} {j:Nat} (h:j<l.length):
 a++((l.take (j+1)).filter p).map (fun t=>1000+t)=(a++((l.take j).filter p).map (fun t=>1000+t))++(if p l[j]then [1000+l[j]]else []):=by
 rw[Kk h,List.map_append,List.append_assoc]
 split<;>simp
theorem AsC {p:Int→Bool} {a l:List Int} {j:Nat}:(a++((l.take j).filter p).map (fun t=>1000+t)).length≤a.length+j:=by
 have:=M5 (p:=p) (xs:=l) (j:=j)
 simp only[List.length_append,List.length_map];omega
theorem Axa (D:Dn) (hL:Xz (D Aar)) (hX:Rb (D TJ)) (hI:Qo (D BF)):Qd (Body D Ui):=by
 intro h x hh hx
 have hxl:=hx.2.1
 have hhl:=hh.2.1
 have hvl:=hh.1
 simp -implicitDefEqProofs
 refine Aa (hL h.versions x.versions hh.1 hx.1) ?_
 have hal:=Ls h.versions x.versions
 have e:Wq h x=leftOf h.versions x.versions++((Ap h.exts).filter (AgN (Ap x.exts))).map (fun t=>1000+t):=rfl
 rw[e]
 have hpd:∀t,AgN (Ap x.exts) t=(!decide (t∈Ap x.exts)&&inB t):=fun t=>rfl
 generalize leftOf h.versions x.versions=a at hal
 generalize AgN (Ap x.exts)=p at hpd
 have htl:(Ap h.exts).length=h.exts.length:=M0 _
 have hte:∀j (hj:j<h.exts.length),(Ap h.exts)[j]'(by omega)=h.exts[j].tag:=fun j hj=>by simp[Ap]
 obtain⟨l,hl⟩:∃l,l=Ap h.exts:=⟨_,rfl⟩
 rw[←hl]at htl⊢
 simp -implicitDefEqProofs
 refine Ad (fun k s=>∃j o3 o4,j+k=h.exts.length∧s=⟨[.undef,.undef,.ptr 0 0,.ptr 1 0,.undef,.arr 5,I j,.undef,.undef],[.var ((CP h).map (AL 1)),.var ((CP x).map (AL 1)),.free,o3,o4,.arr 1 0 (a++((l.take j).filter p).map (fun t=>1000+t)).length (ints (a++((l.take j).filter p).map (fun t=>1000+t)))]⟩) ?_ (h.exts.length) _ ⟨0,.free,.free,by simp,by simp⟩
 intro k s ⟨j,o3,o4,hj,hs⟩
 subst hs
 by_cases hjn:j<h.exts.length
 ·have hw:IntKind.i64.wrap ((j:Int)+1)=(j+1:Nat):=by rw[Ab (by omega) (by omega)];simp
  have hjl:j<l.length:=by omega
  have hlt:l[j]=h.exts[j].tag:=by subst hl;exact hte j hjn
  have hst:=ApJ (p:=p) (a:=a) hjl
  have hfl:=AsC (p:=p) (a:=a) (l:=l) (j:=j)
  have hb1:((a++((l.take j).filter p).map (fun t=>1000+t)).length+1)*8≤1099511627776:=by omega
  have hpt:=hpd l[j]
  rw[hlt]at hst hpt
  generalize a++((l.take j).filter p).map (fun t=>1000+t)=r at hst hfl hb1
  simp -implicitDefEqProofs [hjn]
  refine Aa (hX x.exts h.exts[j].tag (by unfold maxLen;omega)) ?_
  by_cases h1:h.exts[j].tag∈Ap x.exts
  ·have h3:¬p h.exts[j].tag=true:=by rw[hpt];simp[h1]
   have h1':¬JH x.exts h.exts[j].tag<0:=by rw[Mk];simpa using h1
   rw[if_neg h3,List.append_nil]at hst
   simp -implicitDefEqProofs [h1']
   have hsl:=congrArg List.length hst
   simp only[List.length_append,List.length_map]at hsl
   exact⟨k-1,by omega,j+1,by omega,by simp[hw],by omega,by rw[hst]⟩
  have h1':JH x.exts h.exts[j].tag<0:=by rw[Mk];exact h1
  simp -implicitDefEqProofs [h1',hjn]
  refine Aa (hI _ _ _) ?_
  by_cases h2:Pv h.exts[j].tag 0 255
  ·have h3:p h.exts[j].tag=true:=by rw[hpt];simp[h1,inB,h2]
   rw[if_pos h3]at hst
   have hw2:IntKind.i64.wrap (1000+h.exts[j].tag)=1000+h.exts[j].tag:=Ab (by have:=h2.1;omega) (by have:=h2.2;omega)
   simp -implicitDefEqProofs [h2,hjn,hb1,hw2]
   have hsl:=congrArg List.length hst
   simp only[List.length_append,List.length_map,List.length_cons,List.length_nil]at hsl
   exact⟨k-1,by omega,j+1,by omega,by simp[hw],by omega,by rw[hst]⟩
  ·have h3:¬p h.exts[j].tag=true:=by rw[hpt];simp[h1,inB,h2]
   rw[if_neg h3,List.append_nil]at hst
   simp -implicitDefEqProofs [h2]
   have hsl:=congrArg List.length hst
   simp only[List.length_append,List.length_map]at hsl
   exact⟨k-1,by omega,j+1,by omega,by simp[hw],by omega,by rw[hst]⟩
 ·have e2:=K7 (p:=p) (xs:=l) (j:=j) (by omega)
  simp -implicitDefEqProofs [hjn,e2]
theorem AwW (D:Dn) (hL:Xz (D Ph)) (hT:Lp (D Rz)) (hI:Qo (D BB)):Qd (Body D UU):=by
 intro h x hh hx
 have hxl:=hx.2.1
 have hhl:=hh.2.1
 have hvl:=hh.1
 simp -implicitDefEqProofs
 refine Aa (hL h.versions x.versions hh.1 hx.1) ?_
 have hal:=Ls h.versions x.versions
 have e:Wq h x=leftOf h.versions x.versions++((Ap h.exts).filter (AgN (Ap x.exts))).map (fun t=>1000+t):=rfl
 rw[e,←Azx]
 generalize leftOf h.versions x.versions=a at hal
 simp -implicitDefEqProofs
 refine Aa (hT h.exts hh.2.1) ?_
 simp -implicitDefEqProofs
 refine Aa (hT x.exts hx.2.1) ?_
 simp -implicitDefEqProofs
 refine Aa (hL (Ap h.exts) (Ap x.exts) (by rw[M0];omega) (by rw[M0];omega)) ?_
 have hll:=Ls (Ap h.exts) (Ap x.exts)
 rw[M0]at hll
 generalize leftOf (Ap h.exts) (Ap x.exts)=l at hll
 generalize hpd:inB=p
 simp -implicitDefEqProofs
 refine Ad (fun k s=>∃j v6 o6 o7,j+k=l.length∧s=⟨[.undef,.undef,.undef,.undef,.undef,.arr 8,v6,.arr 5,I l.length,I j,.undef,.undef],[.var ((CP h).map (AL 1)),.var ((CP x).map (AL 1)),.free,.arr 1 0 (Ap h.exts).length (ints (Ap h.exts)),.arr 1 0 (Ap x.exts).length (ints (Ap x.exts)),.arr 1 0 l.length (ints l),o6,o7,.arr 1 0 (a++((l.take j).filter p).map (fun t=>1000+t)).length (ints (a++((l.take j).filter p).map (fun t=>1000+t)))]⟩) ?_ (l.length) _ ⟨0,.undef,.free,.free,by simp,by simp⟩
 intro k s ⟨j,v6,o6,o7,hj,hs⟩
 subst hs
 by_cases hjn:j<l.length
 ·have hw:IntKind.i64.wrap ((j:Int)+1)=(j+1:Nat):=by rw[Ab (by omega) (by omega)];simp
  have hst:=ApJ (p:=p) (a:=a) hjn
  have hfl:=AsC (p:=p) (a:=a) (l:=l) (j:=j)
  have hb1:((a++((l.take j).filter p).map (fun t=>1000+t)).length+1)*8≤1099511627776:=by omega
  have hpt:p l[j]=inB l[j]:=by rw[hpd]
  generalize a++((l.take j).filter p).map (fun t=>1000+t)=r at hst hfl hb1
  simp -implicitDefEqProofs [hjn]
  refine Aa (hI _ _ _) ?_
  by_cases h2:Pv l[j] 0 255
  ·have h3:p l[j]=true:=by rw[hpt];simp[inB,h2]
   rw[if_pos h3]at hst
   have hw2:IntKind.i64.wrap (1000+l[j])=1000+l[j]:=Ab (by have:=h2.1;omega) (by have:=h2.2;omega)
   simp -implicitDefEqProofs [h2,hjn,hb1,hw2]
   have hsl:=congrArg List.length hst
   simp only[List.length_append,List.length_map,List.length_cons,List.length_nil]at hsl
   exact⟨k-1,by omega,j+1,by omega,by simp[hw],by omega,by rw[hst]⟩
  ·have h3:¬p l[j]=true:=by rw[hpt];simp[inB,h2]
   rw[if_neg h3,List.append_nil]at hst
   simp -implicitDefEqProofs [h2]
   have hsl:=congrArg List.length hst
   simp only[List.length_append,List.length_map]at hsl
   exact⟨k-1,by omega,j+1,by omega,by simp[hw],by omega,by rw[hst]⟩
 ·have e2:=K7 (p:=p) (xs:=l) (j:=j) (by omega)
  simp -implicitDefEqProofs [hjn,e2]
def Gd:AAc:=⟨false,0,[]⟩
def AfS (h seen:Hello) (vs tags:List Int) (key:Int):AAc:=
 if(Bh vs tags seen).2&&(EH h (Bh vs tags seen).1&&(!decide (Dj key [Bb h,AJ (Bh vs tags seen).1] 1=0)&&
  decide (Dj key [Bb h,AJ (Bh vs tags seen).1] 1=Dj key [Bb seen,AJ (Bh vs tags seen).1] 1)))
 then⟨true,(Bh vs tags seen).1.version,Ap (Bh vs tags seen).1.exts⟩else Gd
theorem AsB (h:Hello):(Bb h).length≤47:=by
 unfold Bb
 have:=Mv h.exts
 split
 ·rename_i hc
  have:=AtM (AzF hc)
  simp only[List.length_append,List.length_cons];omega
 ·simp
theorem Art (h:Hello) (a:SE):G5 [Bb h,AJ a]≤4194304:=by
 have h1:=AsB h
 have h2:=AhB a
 simp[G5,Cu]
 omega
theorem Amg {vs tags:List Int} {h:Hello} (hh:hB h):UY (Bh vs tags h).1.exts:=by
 unfold Bh
 split
 ·exact VW (VW hh.2 (fun t=>decide (t∈tags))) (fun t=> !Au t)
 ·exact Ada
def VG (h:Hello) (path:List Gu) (vs tags:List Int) (key:Int):AAc:=if(Ba path h).2=true then AfS h (Ba path h).1 vs tags key else Gd
abbrev Mh (R:Rel):Prop:=∀(h:Hello) (path:List Gu) (vs tags:List Int) (key:Int),hB h→lnS JI path→vs.length≤4194304→tags.length≤4194304→
 R [arg (CP h),.sl 1 4 path.length (path.flatMap Dy),.sl 1 1 vs.length (ints vs),.sl 1 1 tags.length (ints tags),I key] [] (.agg (Asq (VG h path vs tags key))) []
theorem At4 (D:Dn) (hP:FV (D ML)) (hC:TW (D Acd)) (hFi:JW (D Aix)) (hHB:IW (D Afe)) (hAB:HV (D Acv))
 (hF:RF (D AlV)) (hT:Lp (D Ady)):Mh (Body D Sw):=by
 intro h path vs tags key hh hb hv ht
 simp -implicitDefEqProofs
 refine Aa (hP path h hb hh) ?_
 have hr:=Qe (path:=path) hh
 unfold VG
 generalize Ba path h=r at hr
 by_cases g1:r.2=true
 rotate_left
 ·simp -implicitDefEqProofs [g1,Gd]
 obtain⟨seen,ok⟩:=r
 obtain rfl:ok=true:=g1
 dsimp only at hr⊢
 simp -implicitDefEqProofs
 refine Aa (hC vs tags seen hv ht hr) ?_
 have ha:=Amg (vs:=vs) (tags:=tags) hr
 unfold AfS
 generalize Bh vs tags seen=q at ha
 obtain⟨a,fine⟩:=q
 dsimp only at ha⊢
 by_cases g2:fine=true
 rotate_left
 ·simp -implicitDefEqProofs [g2,Gd]
 simp -implicitDefEqProofs [g2]
 refine Aa (hFi h a hh ha) ?_
 by_cases g3:EH h a=true
 rotate_left
 ·simp -implicitDefEqProofs [g3,Gd]
 simp -implicitDefEqProofs [g3]
 refine Aa (hHB h hh) ?_
 simp -implicitDefEqProofs
 refine Aa (hAB a ha) ?_
 simp -implicitDefEqProofs
 have hf:=hF key [Bb h,AJ a] 1 (Art h a)
 simp -implicitDefEqProofs [H8,JB]at hf
 refine Aa (hf) ?_
 generalize Dj key [Bb h,AJ a] 1=m
 by_cases g4:m=0
 ·simp -implicitDefEqProofs [g4,Gd]
 simp -implicitDefEqProofs [g4]
 refine Aa (hHB seen hr) ?_
 simp -implicitDefEqProofs [g4]
 refine Aa (hAB a ha) ?_
 simp -implicitDefEqProofs [g4]
 have hf2:=hF key [Bb seen,AJ a] 1 (Art seen a)
 simp -implicitDefEqProofs [H8,JB]at hf2
 refine Aa (hf2) ?_
 generalize Dj key [Bb seen,AJ a] 1=m2
 by_cases g5:m=m2
 rotate_left
 ·simp -implicitDefEqProofs [g4,g5,Gd]
 subst g5
 simp -implicitDefEqProofs [g4]
 refine Aa (hT a.exts ha.1) ?_
 simp -implicitDefEqProofs [g4]
abbrev AqK (R:Rel):Prop:=∀(h seen:Hello) (vs tags:List Int) (key:Int),hB h→hB seen→vs.length≤4194304→tags.length≤4194304→
 R [arg (CP h),arg (CP seen),.sl 1 1 vs.length (ints vs),.sl 1 1 tags.length (ints tags),I key,.sl 1 2 0 []] [] (.agg (Asq (AfS h seen vs tags key))) []
theorem AEB (D:Dn) (hC:TW (D Aca)) (hFi:JW (D AiJ)) (hHB:IW (D AeI)) (hAB:HV (D Acu))
 (hF:RF (D Yl)) (hK:WA (D AhW)) (hT:Lp (D Rz)):AqK (Body D WC):=by
 intro h seen vs tags key hh hr hv ht
 simp -implicitDefEqProofs
 refine Aa (hC vs tags seen hv ht hr) ?_
 have ha:=Amg (vs:=vs) (tags:=tags) hr
 unfold AfS
 generalize Bh vs tags seen=q at ha
 obtain⟨a,fine⟩:=q
 dsimp only at ha⊢
 have e:(!decide (Dj key [Bb h,AJ a] 1=0)&&decide (Dj key [Bb h,AJ a] 1=Dj key [Bb seen,AJ a] 1))=
  RS key [Bb h,AJ a] 1 (Dj key [Bb seen,AJ a] 1):=by
  unfold RS
  by_cases e1:Dj key [Bb h,AJ a] 1=Dj key [Bb seen,AJ a] 1
  ·rw[e1]
  ·have e2:¬Dj key [Bb seen,AJ a] 1=Dj key [Bb h,AJ a] 1:=fun h=>e1 h.symm
   simp[e1,e2]
 rw[e]
 by_cases g2:fine=true
 rotate_left
 ·simp -implicitDefEqProofs [g2,Gd]
 simp -implicitDefEqProofs [g2]
 refine ABK ?_
 simp -implicitDefEqProofs
 refine Aa (hHB seen hr) ?_
 simp -implicitDefEqProofs
 refine Aa (hAB a ha) ?_
 simp -implicitDefEqProofs
 have hf2:=hF key [Bb seen,AJ a] 1 (Art seen a)
 simp -implicitDefEqProofs [H8,JB]at hf2
 refine Aa (hf2) ?_
 generalize Dj key [Bb seen,AJ a] 1=m2
 simp -implicitDefEqProofs
 refine Aa (hFi h a hh ha) ?_
 by_cases g3:EH h a=true
 rotate_left
 ·simp -implicitDefEqProofs [g3,Gd]
 simp -implicitDefEqProofs [g3]
 refine Aa (hHB h hh) ?_
 simp -implicitDefEqProofs
 refine Aa (hAB a ha) ?_
 simp -implicitDefEqProofs
 have hk:=hK key [Bb h,AJ a] 1 m2 (Art h a)
 simp -implicitDefEqProofs [H8,JB]at hk
 refine Aa (hk) ?_
 generalize RS key [Bb h,AJ a] 1 m2=c
 by_cases g5:c=true
 rotate_left
 ·simp -implicitDefEqProofs [g5,Gd]
 simp -implicitDefEqProofs [g5]
 refine Aa (hT a.exts ha.1) ?_
 simp -implicitDefEqProofs
theorem AsQ (D:Dn) (hP:FV (D MF)) (hD:AqK (D Atp)):Mh (Body D RX):=by
 intro h path vs tags key hh hb hv ht
 simp -implicitDefEqProofs
 refine Aa (hP path h hb hh) ?_
 have hr:=Qe (path:=path) hh
 unfold VG
 generalize Ba path h=r at hr
 by_cases g1:r.2=true
 rotate_left
 ·simp -implicitDefEqProofs [g1,Gd]
 simp -implicitDefEqProofs [g1]
 refine Aa (hD h r.1 vs tags key hh hr hv ht) ?_
 simp -implicitDefEqProofs
def Atb (h:Hello) (path:List Gu) (vs tags:List Int) (key:Int):Eh:=
 if(Cr h path).2.2=true then⟨VG (Cr h path).1 path vs tags key,(Cr h path).2.1,Wq h (Cr h path).1⟩else⟨Gd,(Cr h path).2.1,[]⟩
abbrev AgE (R:Rel):Prop:=∀(h:Hello) (path:List Gu) (vs tags:List Int) (key:Int),hB h→lnS JI path→vs.length≤4194304→tags.length≤4194304→
 R [arg (CP h),.sl 1 4 path.length (path.flatMap Dy),.sl 1 1 vs.length (ints vs),.sl 1 1 tags.length (ints tags),I key] [] (.agg (A9 (Atb h path vs tags key))) []
theorem AFc (D:Dn) (hH:Me (D AjB)) (hO:Mh (D AjJ)) (hG:Qd (D Anx)):AgE (Body D Abk):=by
 intro h path vs tags key hh hb hv ht
 simp -implicitDefEqProofs
 refine Aa (hH h path hh hb) ?_
 have hr:=Ayj (path:=path) hh
 unfold Atb
 generalize Cr h path=r at hr
 obtain⟨x,n,ok⟩:=r
 dsimp only at hr⊢
 by_cases g1:ok=true
 rotate_left
 ·simp -implicitDefEqProofs [g1,Gd]
 simp -implicitDefEqProofs [g1]
 refine Aa (hO x path vs tags key hr hb hv ht) ?_
 simp -implicitDefEqProofs
 refine Aa (hG h x hh hr) ?_
 simp -implicitDefEqProofs [g1]
theorem AEK (D:Dn) (hH:Me (D Alo)) (hO:Mh (D Al0)) (hG:Qd (D Aog)):AgE (Body D AbP):=by
 intro h path vs tags key hh hb hv ht
 simp -implicitDefEqProofs
 refine Aa (hH h path hh hb) ?_
 have hr:=Ayj (path:=path) hh
 unfold Atb
 generalize Cr h path=r at hr
 obtain⟨x,n,ok⟩:=r
 dsimp only at hr⊢
 by_cases g1:ok=true
 rotate_left
 ·simp -implicitDefEqProofs [g1,Gd]
 simp -implicitDefEqProofs [g1]
 refine Aa (hO x path vs tags key hr hb hv ht) ?_
 simp -implicitDefEqProofs
 refine Aa (hG h x hh hr) ?_
 simp -implicitDefEqProofs [g1]
end Go.Eng.T
namespace Go.Eng.T
set_option maxRecDepth 20000
set_option maxHeartbeats 1000000
theorem Asp {l:List Ext} {k:Nat} (h:k≤l.length):part (KP (l.flatMap Bw) 2 0 k) 2 k (l.length-k)=(l.drop k).flatMap Bw:=by
 have h0:(l.flatMap Bw).length=l.length*2:=RP l
 have e1:l.flatMap Bw=(l.take k).flatMap Bw++(l.drop k).flatMap Bw:=by rw[←List.flatMap_append,List.take_append_drop]
 have h1:((l.take k).flatMap Bw).length=k*2:=by rw[RP];simp;omega
 have h2:((l.drop k).flatMap Bw).length=(l.length-k)*2:=by rw[RP];simp
 unfold part KP
 rw[e1]
 simp only[Nat.zero_mul,List.take_zero,List.nil_append,Nat.zero_add]
 rw[List.drop_left' h1,List.drop_left' (by simp),List.take_of_length_le (by omega)]
theorem AzQ {l:List Ext} {k:Nat} (h:k≤l.length):part (l.flatMap Bw) 2 0 k=(l.take k).flatMap Bw:=by
 have e1:l.flatMap Bw=(l.take k).flatMap Bw++(l.drop k).flatMap Bw:=by rw[←List.flatMap_append,List.take_append_drop]
 have h1:((l.take k).flatMap Bw).length=k*2:=by rw[RP];simp;omega
 unfold part
 rw[e1,Nat.zero_mul,List.drop_zero,List.take_left' h1]
def AkM (seed:Int):List Int:=List.replicate (pick seed 2 3).toNat (pick seed 3 256)
def Am5 (l:List Ext) (seed:Int):Nat:=(pick seed 1 (l.length+1)).toNat
def Dm (l:List Ext) (seed:Int):List Ext:=
 if EK l&&(decide (l.length<6)&& !decide (Oq seed∈Ap l))then l.take (Am5 l seed)++⟨Oq seed,AkM seed⟩::l.drop (Am5 l seed)else l
theorem AxJ (l:List Ext) (seed:Int) (h:l.length≤6):Am5 l seed≤l.length:=by
 have:=TR seed 1 (n:=l.length+1) ⟨by omega,by omega⟩
 unfold Am5;omega
theorem AsR (seed:Int):(AkM seed).length≤2:=by
 have:=TR seed 2 (n:=3) ⟨by omega,by omega⟩
 unfold AkM;simp;omega
abbrev JQ (R:Rel):Prop:=∀(l:List Ext) (seed:Int),UY l→R [.sl 1 2 l.length (l.flatMap Bw),I seed] [] (.sl 0 2 (Dm l seed).length ((Dm l seed).flatMap Bw)) []
theorem AqV (D:Dn) (hG:Ke (D Ag6)) (hC:Ps (D Aax)) (hA:Gc (D KW)) (hX:Rb (D TJ)) (hP:AaA (D Ac3)):JQ (Body D Q8):=by
 intro l seed hl
 have hll:=hl.1
 simp -implicitDefEqProofs
 refine Aa (hG seed) ?_
 obtain⟨t,ht⟩:∃t,t=Oq seed:=⟨_,rfl⟩
 rw[←ht]
 simp -implicitDefEqProofs
 refine Aa (hC l hl) ?_
 simp -implicitDefEqProofs
 refine Aa (hA l hl) ?_
 by_cases h1:EK l=true
 rotate_left
 ·simp -implicitDefEqProofs [h1,Dm]
 by_cases h2:l.length<6
 rotate_left
 ·have h2':(6:Int)≤l.length:=by omega
  simp -implicitDefEqProofs [h1,h2,h2',Dm]
 have h2':¬(6:Int)≤l.length:=by omega
 simp -implicitDefEqProofs [h1,h2']
 refine Aa (hX l t (by unfold maxLen;omega)) ?_
 by_cases h3:t∈Ap l
 ·have h3':0≤JH l t:=by
   by_cases h:JH l t<0
   ·rw[Mk]at h;exact absurd h3 h
   ·omega
  simp -implicitDefEqProofs [h1,h2,h3',h3,Dm,←ht]
 have h3':¬0≤JH l t:=by
  have:JH l t<0:=by rw[Mk];exact h3
  omega
 have e:Dm l seed=l.take (Am5 l seed)++⟨t,AkM seed⟩::l.drop (Am5 l seed):=by
  unfold Dm
  rw[if_pos]
  ·rw[ht]
  ·simp[h1,h2,←ht,h3]
 have hgp:=AxJ l seed (by omega)
 have hgb:=AsR seed
 rw[e]
 simp -implicitDefEqProofs [h3']
 refine Aa (hP seed 2 3) ?_
 have hp2:=TR seed 2 (n:=3) ⟨by omega,by omega⟩
 have eb:AkM seed=List.replicate (pick seed 2 3).toNat (pick seed 3 256):=rfl
 obtain⟨n,hn⟩:∃n:Nat,pick seed 2 3=n:=⟨(pick seed 2 3).toNat,by omega⟩
 rw[hn]at eb hp2⊢
 rw[Int.toNat_natCast]at eb
 rw[eb]at hgb⊢
 generalize hv:pick seed 3 256=v at *
 simp -implicitDefEqProofs
 refine Ad (fun k s=>∃j o2 o3,j+k=n∧s=⟨[.sl 1 2 l.length (l.flatMap Bw),I seed,.undef,.undef,.arr 0,.ptr 1 0,I k,.undef,.undef,.undef],[.arr 2 0 l.length (l.flatMap Bw),.var [I t,.arr 9],o2,o3,.free,.free,.free,.free,.free,.arr 1 0 j (ints (List.replicate j v))]⟩) ?_ (n) _ ⟨0,.free,.free,by simp,by simp[ints]⟩
 intro k s ⟨j,o2,o3,hj,hs⟩
 subst hs
 by_cases hjn:j<n
 ·have hk0:0<k:=by omega
  have hb1:(j+1)*8≤1099511627776:=by omega
  have hwk:IntKind.i64.wrap ((k:Int)-1)=(k-1:Nat):=by rw[Ab (by omega) (by omega)];omega
  simp -implicitDefEqProofs [hk0]
  refine Aa (hP seed 3 256) ?_
  rw[hv]
  simp -implicitDefEqProofs [hb1]
  exact⟨k-1,by omega,j+1,by omega,by simp[hwk],by simp[ints,List.replicate_succ']⟩
 have hk0:k=0:=by omega
 obtain rfl:j=n:=by omega
 subst hk0
 have hwl:IntKind.i64.wrap ((l.length:Int)+1)=(l.length:Int)+1:=Ab (by omega) (by omega)
 simp -implicitDefEqProofs [hwl]
 refine Aa (hP seed 1 (l.length+1)) ?_
 have hp1:=TR seed 1 (n:=(l.length:Int)+1) ⟨by omega,by omega⟩
 have eg:Am5 l seed=(pick seed 1 (l.length+1)).toNat:=rfl
 generalize pick seed 1 (l.length+1)=k1 at hp1 eg
 obtain⟨kk,rfl⟩:∃kk:Nat,k1=kk:=⟨k1.toNat,by omega⟩
 rw[Int.toNat_natCast]at eg
 rw[eg]at hgp⊢
 have hk1:(kk:Int)≤l.length:=by omega
 have hb2:kk*32≤1099511627776:=by omega
 have hb3:(kk+1)*32≤1099511627776:=by omega
 have hb4:(kk+1+(l.length-kk))*32≤1099511627776:=by omega
 simp -implicitDefEqProofs [hk1,hgp,hb2,hb3,hb4,Asp hgp,AzQ hgp]
 all_goals omega
theorem AvF {l:List Ext} (hl:UY l) (h6:l.length≤4194303) (seed:Int):UY (Dm l seed):=by
 unfold Dm
 split
 ·refine⟨?_,?_⟩
  ·simp;omega
  ·intro x hx
   rcases List.mem_append.1 hx with h | h
   ·exact hl.2 x (List.mem_of_mem_take h)
   ·rcases List.mem_cons.1 h with h | h
    ·subst h;have:=AsR seed;dsimp only;omega
    ·exact hl.2 x (List.mem_of_mem_drop h)
 ·exact hl
def bare (ts:List Int):List Ext:=ts.map fun t=>⟨t,[]⟩
theorem Nl (ts:List Int):(bare ts).length=ts.length:=by simp[bare]
theorem AkA {ts:List Int} (h:ts.length≤4194304):UY (bare ts):=⟨by rw[Nl];exact h,fun x hx=>by
 obtain⟨t,_,rfl⟩:=List.mem_map.1 hx;simp⟩
theorem Apt {ts:List Int} {j:Nat} (h:j<ts.length):(bare (ts.take j)).flatMap Bw++ [.sc (.int .i64 ts[j]),.sl 0 1 0 []]=(bare (ts.take (j+1))).flatMap Bw:=by
 have e:ts.take (j+1)=ts.take j++ [ts[j]]:=by simp
 rw[e]
 unfold bare
 rw[List.map_append,List.flatMap_append]
 rfl
def H9 (e:Aq) (seed:Int):Hello:=if Ay e=true then⟨e.versions,Dm (bare e.tags) seed⟩else AQ
abbrev PZ (R:Rel):Prop:=∀(e:Aq) (seed:Int),Ar e≤4194304→R [arg (Ak e),I seed] [] (.agg (CP (H9 e seed))) []
theorem Wj {e:Aq} (h:Ay e=true):e.tags.length≤5:=by
 unfold Ay at h
 simp only[Bool.and_eq_true,decide_eq_true_eq]at h
 exact h.2.1
theorem AmL {e:Aq} (hsz:Ar e≤4194304) (seed:Int):hB (H9 e seed):=by
 unfold H9
 split
 ·rename_i h
  have:=Wj h
  exact⟨Zf hsz,AvF (AkA (by omega)) (by rw[Nl];omega) seed⟩
 ·exact AkP
theorem Awu (D:Dn) (hE:Fb (D OX)) (hG:JQ (D AhF)):PZ (Body D Ud):=by
 intro e seed hsz
 have hl:=Abs hsz
 have hv:=Zf hsz
 simp -implicitDefEqProofs
 refine Aa (hE e hl) ?_
 by_cases h1:Ay e=true
 rotate_left
 ·simp -implicitDefEqProofs [h1,H9,AQ]
 have h5:=Wj h1
 have he:H9 e seed=⟨e.versions,Dm (bare e.tags) seed⟩:=by unfold H9;rw[if_pos h1]
 rw[he]
 have hb2:e.versions.length*8≤1099511627776:=by omega
 simp -implicitDefEqProofs [h1]
 refine Ad (fun k s=>∃j o3 o4,j+k=e.tags.length∧s=⟨[.undef,I seed,.ptr 0 0,.ptr 1 0,.arr 8,I j,.undef,.undef],[.var ((Ak e).map (AL 1)),.var [.nil 1,.nil 2],.free,o3,o4,.free,.free,.free,.arr 2 0 j ((bare (e.tags.take j)).flatMap Bw)]⟩) ?_ (e.tags.length) _ ⟨0,.free,.free,by simp,by simp[bare]⟩
 intro k s ⟨j,o3,o4,hj,hs⟩
 subst hs
 by_cases hjn:j<e.tags.length
 ·have hw:IntKind.i64.wrap ((j:Int)+1)=(j+1:Nat):=by rw[Ab (by omega) (by omega)];simp
  have hst:=Apt hjn
  have hb1:(j+1)*32≤1099511627776:=by omega
  have hlen:(bare (e.tags.take j)).length=j:=by rw[Nl];simp;omega
  have hlen2:(bare (e.tags.take (j+1))).length=j+1:=by rw[Nl];simp;omega
  simp -implicitDefEqProofs [hjn,hb1]
  exact⟨k-1,by omega,j+1,by omega,by simp[hw],by rw[←hst];exact⟨rfl,rfl⟩⟩
 have e2:e.tags.take j=e.tags:=List.take_of_length_le (by omega)
 obtain rfl:j=e.tags.length:=by omega
 simp -implicitDefEqProofs [hjn,e2,hb2]
 have hq:=hG (bare e.tags) seed (AkA (by omega))
 rw[Nl]at hq
 refine Aa (hq) ?_
 simp -implicitDefEqProofs
theorem AwL (D:Dn) (hE:Fb (D OU)) (hG:JQ (D AhR)):PZ (Body D UE):=by
 intro e seed hsz
 have hl:=Abs hsz
 have hv:=Zf hsz
 simp -implicitDefEqProofs
 refine Aa (hE e hl) ?_
 by_cases h1:Ay e=true
 rotate_left
 ·simp -implicitDefEqProofs [h1,H9,AQ]
 have h5:=Wj h1
 have he:H9 e seed=⟨e.versions,Dm (bare e.tags) seed⟩:=by unfold H9;rw[if_pos h1]
 rw[he]
 have hb2:e.versions.length*8≤1099511627776:=by omega
 simp -implicitDefEqProofs [h1]
 refine Ad (fun k s=>∃j o3 o4,j+k=e.tags.length∧s=⟨[.undef,I seed,.ptr 0 0,.ptr 1 0,.arr 8,.undef,.undef,.sl 1 1 e.tags.length (ints e.tags),I e.tags.length,I j,.undef],[.var ((Ak e).map (AL 1)),.var [.nil 1,.nil 2],.free,o3,o4,.free,.free,.free,.arr 2 0 j ((bare (e.tags.take j)).flatMap Bw)]⟩) ?_ (e.tags.length) _ ⟨0,.free,.free,by simp,by simp[bare]⟩
 intro k s ⟨j,o3,o4,hj,hs⟩
 subst hs
 by_cases hjn:j<e.tags.length
 ·have hw:IntKind.i64.wrap ((j:Int)+1)=(j+1:Nat):=by rw[Ab (by omega) (by omega)];simp
  have hst:=Apt hjn
  have hb1:(j+1)*32≤1099511627776:=by omega
  have hlen:(bare (e.tags.take j)).length=j:=by rw[Nl];simp;omega
  have hlen2:(bare (e.tags.take (j+1))).length=j+1:=by rw[Nl];simp;omega
  simp -implicitDefEqProofs [hjn,hb1]
  exact⟨k-1,by omega,j+1,by omega,by simp[hw],by rw[←hst];exact⟨rfl,rfl⟩⟩
 have e2:e.tags.take j=e.tags:=List.take_of_length_le (by omega)
 obtain rfl:j=e.tags.length:=by omega
 simp -implicitDefEqProofs [hjn,e2,hb2]
 have hq:=hG (bare e.tags) seed (AkA (by omega))
 rw[Nl]at hq
 refine Aa (hq) ?_
 simp -implicitDefEqProofs
def Nn:Eh:=⟨Gd,0,[]⟩
def Lm (e:Aq) (vs tags:List Int) (key seed:Int):Eh:=if Ay e=true then Atb (H9 e seed) e.path vs tags key else Nn
abbrev Qg (R:Rel):Prop:=∀(e:Aq) (vs tags:List Int) (key seed:Int),Ar e≤4194304→vs.length≤4194304→tags.length≤4194304→
 R [arg (Ak e),.sl 1 1 vs.length (ints vs),.sl 1 1 tags.length (ints tags),I key,I seed] [] (.agg (A9 (Lm e vs tags key seed))) []
theorem AwV (D:Dn) (hE:Fb (D OX)) (hH:PZ (D AoP)) (hD:AgE (D Avj)):Qg (Body D U8):=by
 intro e vs tags key seed hsz hv ht
 have hl:=Abs hsz
 simp -implicitDefEqProofs
 refine Aa (hE e hl) ?_
 by_cases h1:Ay e=true
 rotate_left
 ·simp -implicitDefEqProofs [h1,Lm,Nn,Gd]
 simp -implicitDefEqProofs [h1]
 refine Aa (hH e seed hsz) ?_
 have hh:=AmL hsz seed
 have he:Lm e vs tags key seed=Atb (H9 e seed) e.path vs tags key:=by unfold Lm;rw[if_pos h1]
 rw[he]
 generalize H9 e seed=h at hh
 simp -implicitDefEqProofs
 refine Aa (hD h e.path vs tags key hh hl.2.2 hv ht) ?_
 simp -implicitDefEqProofs
theorem Axd (D:Dn) (hE:Fb (D OU)) (hH:PZ (D AnN)) (hD:AgE (D AvV)):Qg (Body D UR):=by
 intro e vs tags key seed hsz hv ht
 have hl:=Abs hsz
 simp -implicitDefEqProofs
 refine Aa (hE e hl) ?_
 by_cases h1:Ay e=true
 rotate_left
 ·simp -implicitDefEqProofs [h1,Lm,Nn,Gd]
 simp -implicitDefEqProofs [h1]
 refine Aa (hH e seed hsz) ?_
 have hh:=AmL hsz seed
 have he:Lm e vs tags key seed=Atb (H9 e seed) e.path vs tags key:=by unfold Lm;rw[if_pos h1]
 rw[he]
 generalize H9 e seed=h at hh
 simp -implicitDefEqProofs
 refine Aa (hD h e.path vs tags key hh hl.2.2 hv ht) ?_
 simp -implicitDefEqProofs
def clip (n:Int):Int:=max (-100000) (min 100000 n)
abbrev AxR (R:Rel):Prop:=∀n:Int,R [I n] [] (I (clip n)) []
theorem AAz (D:Dn) (hM:Aup (D Apa)) (hN:Axz (D AAH)):AxR (Body D Ut):=by
 intro n
 simp -implicitDefEqProofs
 refine Aa (hN _ _) ?_
 simp -implicitDefEqProofs
 refine Aa (hM _ _) ?_
 simp -implicitDefEqProofs [clip]
def LA (w:World) (i:Int):Eh:=if Po i 0 ((w.ends.length:Int)-1)then(match w.ends[i.toNat]? with | some e=>Lm e w.server w.tags w.key (16*clip w.now+i) | none=>Nn)else Nn
abbrev TY (R:Rel):Prop:=∀(w:World) (i:Int),Af w≤4194304→R [arg (Bn w),I i] [] (.agg (A9 (LA w i))) []
theorem Axs (n:Int):-100000≤clip n∧clip n≤100000:=by unfold clip;omega
theorem AzE (D:Dn) (hI:Qo (D BF)) (hC:AxR (D Aoj)) (hB:Qg (D Aoo)):TY (Body D Wo):=by
 intro w i hsz
 have he:=ER hsz
 have hw:IntKind.i64.wrap ((w.ends.length:Int)-1)=(w.ends.length:Int)-1:=Ab (by omega) (by omega)
 simp -implicitDefEqProofs [hw]
 refine Aa (hI _ _ _) ?_
 by_cases h1:Po i 0 ((w.ends.length:Int)-1)
 rotate_left
 ·simp -implicitDefEqProofs [h1,LA,Nn,Gd]
 obtain⟨n,rfl⟩:∃n:Nat,i=n:=⟨i.toNat,by have:=h1.1;omega⟩
 have hn:n<w.ends.length:=by have:=h1.2;omega
 have hb:=Ms hsz
 have hes:=Vw hsz hn
 have e:LA w n=Lm w.ends[n] w.server w.tags w.key (16*clip w.now+n):=by unfold LA;rw[if_pos h1];simp[hn]
 rw[e]
 simp -implicitDefEqProofs [h1,hn]
 refine Aa (hC w.now) ?_
 have hcl:=Axs w.now
 generalize clip w.now=c at hcl
 have hw1:IntKind.i64.wrap (16*c)=16*c:=Ab (by omega) (by omega)
 have hw2:IntKind.i64.wrap (16*c+n)=16*c+n:=Ab (by omega) (by omega)
 simp -implicitDefEqProofs [hw1,hw2]
 refine Aa (hB w.ends[n] w.server w.tags w.key _ hes hb.1 hb.2.1) ?_
 simp -implicitDefEqProofs
theorem AyF (D:Dn) (hI:Ajs (D ApS)) (hB:Qg (D Anu)):TY (Body D WG):=by
 intro w i hsz
 have he:=ER hsz
 simp -implicitDefEqProofs
 refine Aa (hI w i he) ?_
 by_cases h1:Po i 0 ((w.ends.length:Int)-1)
 rotate_left
 ·simp -implicitDefEqProofs [h1,LA,Nn,Gd]
 obtain⟨n,rfl⟩:∃n:Nat,i=n:=⟨i.toNat,by have:=h1.1;omega⟩
 have hn:n<w.ends.length:=by have:=h1.2;omega
 have hb:=Ms hsz
 have hes:=Vw hsz hn
 have e:LA w n=Lm w.ends[n] w.server w.tags w.key (16*clip w.now+n):=by unfold LA;rw[if_pos h1];simp[hn]
 rw[e]
 simp -implicitDefEqProofs [h1,hn]
 have hc:(if(if 100000<w.now then 100000 else w.now)< -100000 then -100000 else if 100000<w.now then 100000 else w.now)=clip w.now:=by
  unfold clip
  split<;>split<;>omega
 rw[hc]
 have hcl:=Axs w.now
 generalize clip w.now=c at hcl
 have hw1:IntKind.i64.wrap (16*c)=16*c:=Ab (by omega) (by omega)
 have hw2:IntKind.i64.wrap (16*c+n)=16*c+n:=Ab (by omega) (by omega)
 rw[hw1,hw2]
 refine Aa (hB w.ends[n] w.server w.tags w.key _ hes hb.1 hb.2.1) ?_
 simp -implicitDefEqProofs
end Go.Eng.T
