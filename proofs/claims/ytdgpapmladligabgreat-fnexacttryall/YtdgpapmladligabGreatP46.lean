/- Own work: part 46 of the proof of FnExactTryAll. -/
import Derived.Test.YtdgpapmladligabGreatP45
import Derived.Lib.SlicesCompact
set_option linter.unusedSimpArgs false
set_option linter.unusedVariables false
namespace Go.Eng.T
set_option maxRecDepth 20000
abbrev K5 (D:Dn) (R:Rel):Prop:=∀(xs:List Ext) (g:Nat) (caps:List V) (p:Ext→Bool),xs.length≤maxLen→KD caps→(∀(j:Nat) (h:j<xs.length),D g (arg (Bw xs[j])::caps) [] (B (p xs[j])) [])→R [.sl 1 2 xs.length (xs.flatMap Bw),.fn g caps] [] (I (GR p xs 0)) []
theorem Amu (D:Dn):K5 D (Body D Du):=by
 intro xs g caps p hl hc hp
 unfold maxLen at hl
 simp -implicitDefEqProofs
 refine Ad (fun k s=>∃j,j+k=xs.length∧GR p xs 0=GR p (xs.drop j) j∧s=⟨[.sl 1 2 xs.length (xs.flatMap Bw),.fn g caps,.undef,.undef,.sc (.int .i64 xs.length),.sc (.int .i64 j),.undef,.undef],[]⟩) ?_ xs.length _ ⟨0,by simp,by simp,by simp⟩
 intro k s ⟨j,hj,hi,hs⟩
 subst hs
 by_cases hjn:j<xs.length
 ·have hw:IntKind.i64.wrap ((j:Int)+1)=(j+1:Nat):=by rw[Ab (by omega) (by omega)];simp
  rw[OM hjn]at hi
  simp -implicitDefEqProofs [hjn,hc.1,hc.2.1]
  refine Aa (hp j hjn) ?_
  by_cases he:p xs[j]=true
  ·rw[if_pos he]at hi
   simp -implicitDefEqProofs [he,hi]
  ·rw[if_neg he]at hi
   simp -implicitDefEqProofs [he]
   exact⟨k-1,by omega,j+1,by omega,by simpa using hi,by simp[hw]⟩
 ·rw[Ta (by omega)]at hi
  simp -implicitDefEqProofs [hjn,hi]
abbrev Kt (D:Dn) (R:Rel):Prop:=∀(xs:List Ext) (g:Nat) (caps:List V) (p:Ext→Bool),xs.length≤maxLen→KD caps→(∀(j:Nat) (h:j<xs.length),D g (arg (Bw xs[j])::caps) [] (B (p xs[j])) [])→R [.sl 1 2 xs.length (xs.flatMap Bw),.fn g caps] [] (B (xs.any p)) []
theorem Aex (D:Dn) (hI:K5 D (D FN)):Kt D (Body D CX):=by
 intro xs g caps p hl hc hp
 simp -implicitDefEqProofs [hc.2.2]
 refine Aa (hI xs g caps p hl hc hp) ?_
 have e:decide (0≤GR p xs 0)=xs.any p:=by rw[Bool.eq_iff_iff];simp only[decide_eq_true_eq];rw[RH (by omega)]
 simp -implicitDefEqProofs [e]
end Go.Eng.T
namespace Go.Eng.T
set_option maxRecDepth 20000
def Hl (t:Int) (x:Ext):Bool:=decide (x.tag=t)
def JH (l:List Ext) (t:Int):Int:=GR (Hl t) l 0
abbrev Rb (R:Rel):Prop:=∀(l:List Ext) (t:Int),l.length≤maxLen→R [.sl 1 2 l.length (l.flatMap Bw),I t] [] (I (JH l t)) []
theorem ACe (D:Dn):Rb (Body D XU):=by
 intro l t hl
 unfold maxLen at hl
 have hres:JH l t=GR (Hl t) l 0:=rfl
 rw[hres]
 simp -implicitDefEqProofs
 refine Ad (fun k s=>∃j,j+k=l.length∧GR (Hl t) l 0=GR (Hl t) (l.drop j) j∧s=⟨[.sl 1 2 l.length (l.flatMap Bw),I t,.undef,I j,.undef,.undef],[]⟩) ?_ (l.length) _ ⟨0,by simp,by simp,by simp⟩
 intro k s ⟨j,hj,hi,hs⟩
 subst hs
 by_cases hjn:j<l.length
 ·have hw:IntKind.i64.wrap ((j:Int)+1)=(j+1:Nat):=by rw[Ab (by omega) (by omega)];simp
  rw[OM hjn]at hi
  by_cases he:l[j].tag=t
  ·rw[if_pos (by simp[Hl,he])]at hi
   simp -implicitDefEqProofs [hjn,he,hi]
  ·rw[if_neg (by simp[Hl,he])]at hi
   simp -implicitDefEqProofs [hjn,he]
   exact⟨k-1,by omega,j+1,by omega,by simpa using hi,by simp[hw]⟩
 ·rw[Ta (by omega)]at hi
  simp -implicitDefEqProofs [hjn,hi]
abbrev Ajg (R:Rel):Prop:=∀(x:Ext) (t:Int),R [arg (Bw x),.rptr 1 [I t] 0] [] (B (Hl t x)) []
theorem ACl (D:Dn):Ajg (Body D UL):=by
 intro x t
 simp -implicitDefEqProofs [Hl,AdV]
theorem ACH (D:Dn) (h1:Ajg (D Aom)) (hX:K5 D (D FN)):Rb (Body D Yt):=by
 intro l t hl
 have hres:JH l t=GR (Hl t) l 0:=rfl
 rw[hres]
 simp -implicitDefEqProofs
 refine Aa (hX l 351 _ (Hl t) hl (Agp E5) (fun j h=>h1 l[j] t)) ?_
 simp -implicitDefEqProofs
def X5 (x:Ext):Bool:=decide (Pv x.tag 0 255)&&(decide (x.body.length≤4)&&allIn x.body 0 255)
def Wz (l:List Ext) (i:Nat):Bool:=match l[i]? with
 | some x=>X5 x&& !(l.take i).any (Hl x.tag)
 | none=>true
theorem Ae6 {l:List Ext} {i:Nat} (h:i<l.length):Wz l i=(X5 l[i]&& !(l.take i).any (Hl l[i].tag)):=by
 unfold Wz
 rw[List.getElem?_eq_getElem h]
def EK (l:List Ext):Bool:=PY (Wz l) l.length&&decide (l.length≤6)
theorem Awb {α:Type} {p:α→Bool}:∀ {xs:List α} {i:Int},GR p xs i= -1∨(i≤GR p xs i∧GR p xs i<i+xs.length)
 | [],i=> .inl rfl
 | x::r,i=>by
  by_cases hp:p x=true
  ·right;simp[GR,hp];omega
  ·rcases Awb (p:=p) (xs:=r) (i:=i+1)with h | h
   ·left;simp[GR,hp,h]
   ·right;simp[GR,hp]at *;omega
theorem Axw {α:Type} {p:α→Bool}:∀ {xs:List α} {i:Int} {j:Nat},0≤i→(h:j<xs.length)→p xs[j]=true→(GR p xs i<i+j↔(xs.take j).any p=true)
 | x::r,i,0,hi,h,hp=>by
  have:p x=true:=hp
  simp[GR,this]
 | x::r,i,j+1,hi,h,hp=>by
  by_cases hx:p x=true
  ·simp[GR,hx];omega
  ·have:=Axw (p:=p) (xs:=r) (i:=i+1) (j:=j) (by omega) (by simpa using h) (by simpa using hp)
   simp only[GR,hx,List.take_succ_cons,List.any_cons,Bool.false_or]
   rw[←this]
   simp
   omega
theorem As4 {l:List Ext} {j:Nat} (h:j<l.length):(JH l l[j].tag<(j:Int))=((l.take j).any (Hl l[j].tag)=true):=by
 have:=Axw (p:=Hl l[j].tag) (i:=0) (by omega) h (by simp[Hl])
 rw[Int.zero_add]at this
 exact propext this
theorem Ale {l:List Ext} {j:Nat} {t:Int}:(0≤JH (l.take j) t)=((l.take j).any (Hl t)=true):=RH (by omega)
theorem JU {l:List Ext} {j:Nat} (h:j<l.length) (hn:Wz l j=false):EK l=false:=by
 unfold EK
 rw[AjP h hn];rfl
abbrev Gc (R:Rel):Prop:=∀l:List Ext,UY l→R [.sl 1 2 l.length (l.flatMap Bw)] [] (B (EK l)) []
theorem AvM (D:Dn) (hI:Qo (D BF)) (hB:Zo (D WU)) (hX:Rb (D TJ)):Gc (Body D Ug):=by
 intro l hl
 have hll:=hl.1
 simp -implicitDefEqProofs
 refine Ad (fun k s=>∃j,j+k=l.length∧PY (Wz l) j=true∧s=⟨[.sl 1 2 l.length (l.flatMap Bw),.undef,I j,.undef,.undef],[]⟩) ?_ (l.length) _ ⟨0,by simp,by simp,by simp⟩
 intro k s ⟨j,hj,hr,hs⟩
 subst hs
 by_cases hjn:j<l.length
 ·have hw:IntKind.i64.wrap ((j:Int)+1)=(j+1:Nat):=by rw[Ab (by omega) (by omega)];simp
  have hst:=JX (Wz l) j
  have hq:=Ae6 hjn
  have hb:=Ns hl hjn
  rw[hr,Bool.true_and]at hst
  simp -implicitDefEqProofs [hjn]
  refine Aa (hI _ _ _) ?_
  by_cases h1:Pv l[j].tag 0 255
  rotate_left
  ·have e:=JU hjn (by rw[hq];simp[X5,h1])
   simp -implicitDefEqProofs [h1,e]
  by_cases h2:l[j].body.length≤4
  rotate_left
  ·have e:=JU hjn (by rw[hq];simp[X5,h2])
   have h2':(4:Int)<l[j].body.length:=by omega
   simp -implicitDefEqProofs [hjn,h1,h2',e]
  have h2':¬(4:Int)<l[j].body.length:=by omega
  simp -implicitDefEqProofs [hjn,h1,h2']
  refine Aa (hB _ (by unfold maxLen;omega)) ?_
  by_cases h3:allIn l[j].body 0 255=true
  rotate_left
  ·have e:=JU hjn (by rw[hq];simp[X5,h3])
   simp -implicitDefEqProofs [hjn,h3,e]
  simp -implicitDefEqProofs [hjn,h3]
  refine Aa (hX l _ (by unfold maxLen;omega)) ?_
  by_cases h4:(l.take j).any (Hl l[j].tag)=true
  ·have e:=JU hjn (by rw[hq];simp only[h4];simp)
   have h4':JH l l[j].tag<(j:Int):=by rw[As4 hjn];exact h4
   simp -implicitDefEqProofs [hjn,h4',e]
  ·have h4':¬JH l l[j].tag<(j:Int):=by rw[As4 hjn];exact h4
   have h4f:(l.take j).any (Hl l[j].tag)=false:=by simpa using h4
   simp -implicitDefEqProofs [hjn,h4']
   exact⟨k-1,by omega,j+1,by omega,by rw[hst,hq,h4f];simp[X5,h1,h2,h3],by simp[hw]⟩
 ·obtain rfl:j=l.length:=by omega
  have e:EK l=decide (l.length≤6):=by unfold EK;rw[hr];rfl
  by_cases h5:l.length≤6
  ·have h5':(l.length:Int)≤6:=by omega
   simp -implicitDefEqProofs [e,h5,h5']
  ·have h5':¬(l.length:Int)≤6:=by omega
   simp -implicitDefEqProofs [e,h5,h5']
theorem Awx (D:Dn) (hI:Qo (D BB)) (hX:Rb (D AgH)) (hN:JN (D Ky)):Gc (Body D Ul):=by
 intro l hl
 have hll:=hl.1
 simp -implicitDefEqProofs
 refine Ad (fun k s=>∃j o0,j+k=l.length∧PY (Wz l) j=true∧s=⟨[.sl 1 2 l.length (l.flatMap Bw),.undef,.undef,.undef,.sl 1 2 l.length (l.flatMap Bw),I l.length,I j,.undef,.undef],[o0]⟩) ?_ (l.length) _ ⟨0,.free,by simp,by simp,by simp⟩
 intro k s ⟨j,o0,hj,hr,hs⟩
 subst hs
 by_cases hjn:j<l.length
 ·have hw:IntKind.i64.wrap ((j:Int)+1)=(j+1:Nat):=by rw[Ab (by omega) (by omega)];simp
  have hst:=JX (Wz l) j
  have hq:=Ae6 hjn
  have hb:=Ns hl hjn
  rw[hr,Bool.true_and]at hst
  simp -implicitDefEqProofs [hjn]
  refine Aa (hI _ _ _) ?_
  by_cases h1:Pv l[j].tag 0 255
  rotate_left
  ·have e:=JU hjn (by rw[hq];simp[X5,h1])
   simp -implicitDefEqProofs [h1,e]
  have hjl:j≤l.length:=by omega
  have hmin:min j l.length=j:=by omega
  simp -implicitDefEqProofs [hjn,hjl,hmin,h1]
  have hxx:=hX (l.take j) l[j].tag (by simp;unfold maxLen;omega)
  rw[List.length_take,hmin]at hxx
  refine Aa (hxx) ?_
  by_cases h4:(l.take j).any (Hl l[j].tag)=true
  ·have e:=JU hjn (by rw[hq];simp only[h4];simp)
   have h4':0≤JH (l.take j) l[j].tag:=by rw[Ale];exact h4
   simp -implicitDefEqProofs [hjn,h4',e]
  have h4':¬0≤JH (l.take j) l[j].tag:=by rw[Ale];exact h4
  have h4f:(l.take j).any (Hl l[j].tag)=false:=by simpa using h4
  by_cases h2:l[j].body.length≤4
  rotate_left
  ·have e:=JU hjn (by rw[hq];simp[X5,h2])
   have h2':(4:Int)<l[j].body.length:=by omega
   simp -implicitDefEqProofs [hjn,h4',h2',e]
  have h2':¬(4:Int)<l[j].body.length:=by omega
  simp -implicitDefEqProofs [hjn,h4',h2']
  refine Aa (hN _ _ _ (by unfold maxLen;omega)) ?_
  by_cases h3:allIn l[j].body 0 255=true
  rotate_left
  ·have e:=JU hjn (by rw[hq];simp[X5,h3])
   simp -implicitDefEqProofs [hjn,h3,e]
  simp -implicitDefEqProofs [hjn,h3]
  exact⟨k-1,by omega,j+1,by omega,by rw[hst,hq,h4f];simp[X5,h1,h2,h3],by simp[hw]⟩
 ·obtain rfl:j=l.length:=by omega
  have e:EK l=decide (l.length≤6):=by unfold EK;rw[hr];rfl
  by_cases h5:l.length≤6
  ·have h5':(l.length:Int)≤6:=by omega
   simp -implicitDefEqProofs [e,h5,h5']
  ·have h5':¬(l.length:Int)≤6:=by omega
   simp -implicitDefEqProofs [e,h5,h5']
def Ap (l:List Ext):List Int:=l.map (·.tag)
theorem Ao6 {l:List Ext} {j:Nat} (h:j<l.length):Ap (l.take (j+1))=Ap (l.take j)++ [l[j].tag]:=by
 have e:l.take (j+1)=l.take j++ [l[j]]:=by simp
 unfold Ap
 rw[e,List.map_append];rfl
abbrev Lp (R:Rel):Prop:=∀l:List Ext,l.length≤4194304→R [.sl 1 2 l.length (l.flatMap Bw)] [] (.sl 0 1 (Ap l).length (ints (Ap l))) []
theorem AAk (D:Dn):Lp (Body D Xh):=by
 intro l hl
 simp -implicitDefEqProofs
 refine Ad (fun k s=>∃j o1 o2,j+k=l.length∧s=⟨[.sl 1 2 l.length (l.flatMap Bw),.undef,.arr 3,I j,.undef],[.free,o1,o2,.arr 1 0 (Ap (l.take j)).length (ints (Ap (l.take j)))]⟩) ?_ (l.length) _ ⟨0,.free,.free,by simp,by simp[Ap]⟩
 intro k s ⟨j,o1,o2,hj,hs⟩
 subst hs
 by_cases hjn:j<l.length
 ·have hw:IntKind.i64.wrap ((j:Int)+1)=(j+1:Nat):=by rw[Ab (by omega) (by omega)];simp
  have hst:=Ao6 hjn
  have hlen:(Ap (l.take j)).length=j:=by simp[Ap];omega
  have hb:(j+1)*8≤1099511627776:=by omega
  simp -implicitDefEqProofs [hjn,hlen,hb]
  exact⟨k-1,by omega,j+1,by omega,by simp[hw],by rw[hst];simp[hlen],by rw[hst]⟩
 ·have e:l.take j=l:=List.take_of_length_le (by omega)
  simp -implicitDefEqProofs [hjn,e]
theorem Az1 (D:Dn):Lp (Body D V9):=by
 intro l hl
 simp -implicitDefEqProofs
 refine Ad (fun k s=>∃j v3 o1 o2 o3,j+k=l.length∧s=⟨[.undef,.undef,.arr 4,v3,.sl 1 2 l.length (l.flatMap Bw),I l.length,I j,.undef],[.free,o1,o2,o3,.arr 1 0 (Ap (l.take j)).length (ints (Ap (l.take j)))]⟩) ?_ (l.length) _ ⟨0,.undef,.free,.free,.free,by simp,by simp[Ap]⟩
 intro k s ⟨j,v3,o1,o2,o3,hj,hs⟩
 subst hs
 by_cases hjn:j<l.length
 ·have hw:IntKind.i64.wrap ((j:Int)+1)=(j+1:Nat):=by rw[Ab (by omega) (by omega)];simp
  have hst:=Ao6 hjn
  have hlen:(Ap (l.take j)).length=j:=by simp[Ap];omega
  have hb:(j+1)*8≤1099511627776:=by omega
  simp -implicitDefEqProofs [hjn,hlen,hb]
  exact⟨k-1,by omega,j+1,by omega,by simp[hw],by rw[hst];simp[hlen],by rw[hst]⟩
 ·have e:l.take j=l:=List.take_of_length_le (by omega)
  simp -implicitDefEqProofs [hjn,e]
end Go.Eng.T
namespace Go.Eng.T
set_option maxRecDepth 20000
def kept (p:Int→Bool) (l:List Ext):List Ext:=l.filter fun x=>p x.tag
theorem ZG {p:Int→Bool} {l:List Ext} {j:Nat} (h:j<l.length):kept p (l.take (j+1))=kept p (l.take j)++(if p l[j].tag then [l[j]]else []):=Abr (p:=fun x:Ext=>p x.tag) h
theorem Vd {p:Int→Bool} {l:List Ext} {j:Nat} (h:l.length≤j):kept p (l.take j)=kept p l:=AfI h
theorem Ve {p:Int→Bool} {l:List Ext} {j:Nat}:(kept p (l.take j)).length≤j:=Aff
theorem VW {l:List Ext} (h:UY l) (p:Int→Bool):UY (kept p l):=Aw5 h _
theorem RQ {p:Int→Bool} {l:List Ext} {j:Nat} (h:j<l.length) (hp:p l[j].tag=true):
 (kept p (l.take j)).flatMap Bw++ [.sc (.int .i64 l[j].tag),.sl 0 1 l[j].body.length (ints l[j].body)]=(kept p (l.take (j+1))).flatMap Bw:=by
 rw[ZG h,if_pos hp,List.flatMap_append];simp
theorem Jq {p:Int→Bool} {l:List Ext} {j:Nat} (h:j<l.length) (hp:p l[j].tag=true):(kept p (l.take (j+1))).length=(kept p (l.take j)).length+1:=by
 rw[ZG h,if_pos hp];simp
theorem VE {p:Int→Bool} {l:List Ext} {j:Nat} (h:j<l.length) (hp:¬p l[j].tag=true):kept p (l.take (j+1))=kept p (l.take j):=by
 rw[ZG h,if_neg hp,List.append_nil]
def ApF (caps:List V):Prop:=∀k,caps.any (m1 k)=false
theorem RN:ApF []:=fun _=>rfl
theorem Aa1 {fl:Nat} {cs:List V} {o:Nat} {r:List V} (h:ApF r):ApF (.rptr fl cs o::r):=fun k=>by
 have:=h k
 simp only[List.any_cons,this,m1,Bool.or_self]
theorem RJ {k g:Nat} {caps:List V} (h:ApF caps):Td k (.fn g caps)= .fn g caps:=by
 have:=h k
 simp only[Td,m3,m2,this]
 rfl
theorem XP {a b g:Nat} {caps:List V} (h:ApF caps):Aec a b (.fn g caps)= .fn g caps:=by
 have:=h a
 simp only[Aec,m3,m2,this]
 rfl
abbrev Ma (D:Dn) (R:Rel):Prop:=∀(l:List Ext) (g:Nat) (caps:List V) (p:Int→Bool),UY l→KD caps→ApF caps→(∀t:Int,D g (I t::caps) [] (B (p t)) [])→
 R [.sl 1 2 l.length (l.flatMap Bw),.fn g caps] [] (.sl 0 2 (kept p l).length ((kept p l).flatMap Bw)) []
theorem AvN (D:Dn):Ma D (Body D Sd):=by
 intro l g caps p hl hc hno hp
 have hll:=hl.1
 simp -implicitDefEqProofs [↓RJ hno,↓XP hno]
 refine Ad (fun k s=>∃j v4 o1 o2 o3 o4 o5,j+k=l.length∧s=⟨[.undef,.fn g caps,.undef,.arr 6,v4,.sl 1 2 l.length (l.flatMap Bw),I l.length,I j,.undef,.undef],[.free,o1,o2,o3,o4,o5,.arr 2 0 (kept p (l.take j)).length ((kept p (l.take j)).flatMap Bw)]⟩) ?_ (l.length) _ ⟨0,.undef,.free,.free,.free,.free,.free,by simp,by simp[kept,↓RJ hno,↓XP hno]⟩
 intro k s ⟨j,v4,o1,o2,o3,o4,o5,hj,hs⟩
 subst hs
 by_cases hjn:j<l.length
 ·have hw:IntKind.i64.wrap ((j:Int)+1)=(j+1:Nat):=by rw[Ab (by omega) (by omega)];simp
  have hb:=Ns hl hjn
  have h1:l[j].body.length*8≤1099511627776:=by omega
  have hkl:=Ve (p:=p) (l:=l) (j:=j)
  have h2:((kept p (l.take j)).length+1)*32≤1099511627776:=by omega
  simp -implicitDefEqProofs [hjn,↓RJ hno,↓XP hno,hc.1,hc.2.1]
  refine Aa (hp l[j].tag) ?_
  by_cases he:p l[j].tag=true
  ·have hst:=RQ hjn he
   have hsl:=Jq hjn he
   simp -implicitDefEqProofs [he,hjn,↓RJ hno,↓XP hno,h1,h2]
   exact⟨k-1,by omega,j+1,by omega,by simp[hw],by rw[hsl],by rw[←hst]⟩
  ·have hst:=VE hjn he
   simp -implicitDefEqProofs [he,↓RJ hno,↓XP hno]
   exact⟨k-1,by omega,j+1,by omega,by simp[hw],by rw[hst],by rw[hst]⟩
 ·have e:=Vd (p:=p) (l:=l) (j:=j) (by omega)
  simp -implicitDefEqProofs [hjn,e]
abbrev Ado (R:Rel):Prop:=∀t:Int,R [I t] [] (B true) []
abbrev Xi (R:Rel):Prop:=∀t:Int,R [I t] [] (B (!Au t)) []
theorem Asd (D:Dn):Ado (Body D OZ):=by
 intro t
 simp -implicitDefEqProofs
theorem Al7 (D:Dn) (hR:FL (D VQ)):Xi (Body D KJ):=by
 intro t
 simp -implicitDefEqProofs
 refine Aa (hR t) ?_
 simp -implicitDefEqProofs
theorem AAL (l:List Ext):kept (fun _=>true) l=l:=by simp[kept]
abbrev Ps (R:Rel):Prop:=∀l:List Ext,UY l→R [.sl 1 2 l.length (l.flatMap Bw)] [] (.sl 0 2 l.length (l.flatMap Bw)) []
theorem Av7 (D:Dn) (h1:Ado (D VD)) (hK:Ma D (D J3)):Ps (Body D SQ):=by
 intro l hl
 simp -implicitDefEqProofs
 refine Aa (hK l VD [] (fun _=>true) hl E5 RN (fun t=>h1 t)) ?_
 simp -implicitDefEqProofs [AAL]
def AaQ (l:List Ext):List Ext:=kept (fun t=> !Au t) l
def Ll (l:List Ext) (tags:List Int):List Ext:=kept (fun t=>decide (t∈tags)) l
abbrev Ia (R:Rel):Prop:=∀l:List Ext,UY l→R [.sl 1 2 l.length (l.flatMap Bw)] [] (.sl 0 2 (AaQ l).length ((AaQ l).flatMap Bw)) []
theorem Akh (D:Dn) (h1:Xi (D Rn)) (hK:Ma D (D J3)):Ia (Body D NA):=by
 intro l hl
 simp -implicitDefEqProofs
 refine Aa (hK l Rn [] (fun t=> !Au t) hl E5 RN (fun t=>h1 t)) ?_
 simp -implicitDefEqProofs [AaQ]
abbrev Nk (R:Rel):Prop:=∀(l:List Ext) (tags:List Int),UY l→tags.length≤maxLen→R [.sl 1 2 l.length (l.flatMap Bw),.sl 1 1 tags.length (ints tags)] [] (.sl 0 2 (Ll l tags).length ((Ll l tags).flatMap Bw)) []
abbrev Zb (R:Rel):Prop:=∀(t:Int) (tags:List Int),tags.length≤maxLen→R [I t,.rptr 1 [.sl 0 1 tags.length (ints tags)] 0] [] (B (decide (t∈tags))) []
theorem Aba {a:List Int} {r:List V} (h:KD r):KD (.rptr 1 [.sl 0 1 a.length (ints a)] 0::r):=Ab4 (fun H=>by simp) (fun H=>by simp) h
theorem Awq (D:Dn) (hH:PX (D Bq)):Zb (Body D Qm):=by
 intro t tags hl
 simp -implicitDefEqProofs
 refine Aa (hH tags t hl) ?_
 simp -implicitDefEqProofs
theorem AwO (D:Dn) (h1:Zb (D Xw)) (hK:Ma D (D J3)):Nk (Body D UC):=by
 intro l tags hl ht
 simp -implicitDefEqProofs
 refine Aa (hK l Xw _ (fun t=>decide (t∈tags)) hl (Aba E5) (Aa1 RN) (fun t=>h1 t tags ht)) ?_
 simp -implicitDefEqProofs [Ll]
theorem Avy (D:Dn) (hH:PX (D GA)):Nk (Body D U4):=by
 intro l tags hl ht
 have hll:=hl.1
 have hres:Ll l tags=kept (fun t=>decide (t∈tags)) l:=rfl
 rw[hres]
 generalize hp:(fun t=>decide (t∈tags))=p
 simp -implicitDefEqProofs
 refine Ad (fun k s=>∃j o1 o2 o3 o4,j+k=l.length∧s=⟨[.sl 1 2 l.length (l.flatMap Bw),.sl 1 1 tags.length (ints tags),.undef,.arr 5,I j,.undef,.undef],[.free,o1,o2,o3,o4,.arr 2 0 (kept p (l.take j)).length ((kept p (l.take j)).flatMap Bw)]⟩) ?_ (l.length) _ ⟨0,.free,.free,.free,.free,by simp,by simp[kept]⟩
 intro k s ⟨j,o1,o2,o3,o4,hj,hs⟩
 subst hs
 by_cases hjn:j<l.length
 ·have hw:IntKind.i64.wrap ((j:Int)+1)=(j+1:Nat):=by rw[Ab (by omega) (by omega)];simp
  have hb:=Ns hl hjn
  have h1:l[j].body.length*8≤1099511627776:=by omega
  have hkl:=Ve (p:=p) (l:=l) (j:=j)
  have h2:((kept p (l.take j)).length+1)*32≤1099511627776:=by omega
  simp -implicitDefEqProofs [hjn]
  refine Aa (hH tags l[j].tag ht) ?_
  have hpe:decide (l[j].tag∈tags)=p l[j].tag:=by rw[←hp]
  rw[hpe]
  by_cases he:p l[j].tag=true
  ·have hst:=RQ hjn he
   have hsl:=Jq hjn he
   simp -implicitDefEqProofs [he,hjn,h1,h2]
   exact⟨k-1,by omega,j+1,by omega,by simp[hw],by rw[hsl],by rw[←hst]⟩
  ·have hst:=VE hjn he
   simp -implicitDefEqProofs [he]
   exact⟨k-1,by omega,j+1,by omega,by simp[hw],by rw[hst],by rw[hst]⟩
 ·have e:=Vd (p:=p) (l:=l) (j:=j) (by omega)
  simp -implicitDefEqProofs [hjn,e]
theorem AjW (D:Dn) (hR:FL (D Ou)):Ia (Body D MB):=by
 intro l hl
 have hll:=hl.1
 have hres:AaQ l=kept (fun t=> !Au t) l:=rfl
 rw[hres]
 generalize hp:(fun t=> !Au t)=p
 simp -implicitDefEqProofs
 refine Ad (fun k s=>∃j o1 o2 o3 o4,j+k=l.length∧s=⟨[.sl 1 2 l.length (l.flatMap Bw),.undef,.arr 5,I j,.undef,.undef],[.free,o1,o2,o3,o4,.arr 2 0 (kept p (l.take j)).length ((kept p (l.take j)).flatMap Bw)]⟩) ?_ (l.length) _ ⟨0,.free,.free,.free,.free,by simp,by simp[kept]⟩
 intro k s ⟨j,o1,o2,o3,o4,hj,hs⟩
 subst hs
 by_cases hjn:j<l.length
 ·have hw:IntKind.i64.wrap ((j:Int)+1)=(j+1:Nat):=by rw[Ab (by omega) (by omega)];simp
  have hb:=Ns hl hjn
  have h1:l[j].body.length*8≤1099511627776:=by omega
  have hkl:=Ve (p:=p) (l:=l) (j:=j)
  have h2:((kept p (l.take j)).length+1)*32≤1099511627776:=by omega
  simp -implicitDefEqProofs [hjn]
  refine Aa (hR l[j].tag) ?_
  have hpe:(!Au l[j].tag)=p l[j].tag:=by rw[←hp]
  by_cases he:p l[j].tag=true
  ·have hst:=RQ hjn he
   have hsl:=Jq hjn he
   have he':Au l[j].tag=false:=by rw[he]at hpe;simpa using hpe
   simp -implicitDefEqProofs [he',hjn,h1,h2]
   exact⟨k-1,by omega,j+1,by omega,by simp[hw],by rw[hsl],by rw[←hst]⟩
  ·have hst:=VE hjn he
   have he':Au l[j].tag=true:=by simp at he;rw[he]at hpe;simpa using hpe
   simp -implicitDefEqProofs [he']
   exact⟨k-1,by omega,j+1,by omega,by simp[hw],by rw[hst],by rw[hst]⟩
 ·have e:=Vd (p:=p) (l:=l) (j:=j) (by omega)
  simp -implicitDefEqProofs [hjn,e]
theorem Awd (l:List Ext):Ll l (Ap l)=l:=by
 unfold Ll kept
 rw[List.filter_eq_self]
 intro x hx
 simp only[decide_eq_true_eq]
 exact List.mem_map.2 ⟨x,hx,rfl⟩
theorem M0 (l:List Ext):(Ap l).length=l.length:=by simp[Ap]
theorem AAp (D:Dn) (hT:Lp (D Ady)) (hK:Nk (D Aam)):Ps (Body D Uz):=by
 intro l hl
 have hll:=hl.1
 simp -implicitDefEqProofs
 refine Aa (hT l hll) ?_
 simp -implicitDefEqProofs
 refine Aa (hK l (Ap l) hl (by rw[M0];unfold maxLen;omega)) ?_
 simp -implicitDefEqProofs [Awd]
end Go.Eng.T
namespace Go.Eng.T
set_option maxRecDepth 20000
def hB (h:Hello):Prop:=h.versions.length≤4194304∧UY h.exts
def CB (h:Hello):Bool:=AU h.versions&&EK h.exts
abbrev Eo (R:Rel):Prop:=∀h:Hello,hB h→R [arg (CP h)] [] (B (CB h)) []
theorem AwA (D:Dn) (hA:BA (D Di)) (hE:Gc (D KW)):Eo (Body D Uj):=by
 intro h hh
 simp -implicitDefEqProofs
 refine Aa (hA _ (by have:=hh.1;unfold maxLen;omega)) ?_
 by_cases h1:AU h.versions=true
 rotate_left
 ·simp -implicitDefEqProofs [h1,CB]
 simp -implicitDefEqProofs [h1]
 refine Aa (hE _ hh.2) ?_
 simp -implicitDefEqProofs [h1,CB]
theorem Awz (D:Dn) (hA:BA (D FX)) (hE:Gc (D K9)):Eo (Body D Uf):=by
 intro h hh
 simp -implicitDefEqProofs
 refine Aa (hA _ (by have:=hh.1;unfold maxLen;omega)) ?_
 by_cases h1:AU h.versions=true
 rotate_left
 ·simp -implicitDefEqProofs [h1,CB]
 simp -implicitDefEqProofs [h1]
 refine Aa (hE _ hh.2) ?_
 simp -implicitDefEqProofs [h1,CB]
abbrev KZ (R:Rel):Prop:=∀h:Hello,hB h→R [arg (CP h)] [] (.agg (CP h)) []
theorem AuO (D:Dn) (hE:Ps (D Ye)):KZ (Body D QF):=by
 intro h hh
 have h1:h.versions.length*8≤1099511627776:=by have:=hh.1;omega
 simp -implicitDefEqProofs [h1]
 refine Aa (hE _ hh.2) ?_
 simp -implicitDefEqProofs
theorem Aw7 (D:Dn) (hE:Ps (D Aax)):KZ (Body D Si):=by
 intro h hh
 have h1:h.versions.length*8≤1099511627776:=by have:=hh.1;omega
 simp -implicitDefEqProofs [h1]
 refine Aa (hE _ hh.2) ?_
 simp -implicitDefEqProofs
def lossy (b:Gu) (x:Ext):Bool:=decide (x.tag∈b.drops)||(b.lists&&(!decide (x.tag∈b.strips)&& !decide (Pv x.tag 1 3)))
def AwY (vs:List Int):Int:=vs.getLastD 0
def OL (b:Gu) (h:Hello):Bool:=(decide (0<b.limit)&&decide (b.limit<AwY h.versions))||h.exts.any (lossy b)
def stays (b:Gu) (t:Int):Bool:= !decide (t∈b.strips)
def AQ:Hello:=⟨[],[]⟩
def BM (b:Gu) (h:Hello):Hello×Bool:=if Hg b&&(CB h&& !OL b h)then(⟨h.versions,kept (stays b) h.exts⟩,true)else(AQ,false)
abbrev PG (R:Rel):Prop:=∀(b:Gu) (h:Hello),JI b→hB h→R [arg (Dy b),arg (CP h)] [] (.tup [.agg (CP (BM b h).1),B (BM b h).2]) []
theorem XM {xs:List Int} (h:AU xs=true):0<xs.length:=by
 unfold AU at h
 simp only[Bool.and_eq_true,decide_eq_true_eq]at h
 exact h.2
theorem AGe {xs:List Int} (h:xs.length-1<xs.length):AwY xs=xs[xs.length-1]:=by
 unfold AwY
 rw[List.getLastD_eq_getLast?,List.getLast?_eq_getElem?,List.getElem?_eq_getElem h];rfl
theorem Avn (D:Dn) (hX:R6 (D Yr)) (hE:Eo (D GJ)) (hH:PX (D GA)) (hI:Qo (D BF)):PG (Body D Uw):=by
 intro b h hb hh
 obtain⟨hv,hx⟩:=hh
 have hll:=hx.1
 simp -implicitDefEqProofs
 refine Aa (hX b hb) ?_
 by_cases h1:Hg b=true
 rotate_left
 ·simp -implicitDefEqProofs [h1,BM,AQ]
 simp -implicitDefEqProofs [h1]
 refine Aa (hE h ⟨hv,hx⟩) ?_
 by_cases h2:CB h=true
 rotate_left
 ·simp -implicitDefEqProofs [h2,BM,AQ]
 have hpos:0<h.versions.length:=XM (by unfold CB at h2;simp only[Bool.and_eq_true]at h2;exact h2.1)
 have hn1:h.versions.length-1<h.versions.length:=by omega
 have hw1:IntKind.i64.wrap ((h.versions.length:Int)-1)=((h.versions.length-1:Nat):Int):=by rw[Ab (by omega) (by omega)];omega
 have htop:=AGe hn1
 by_cases h3:0<b.limit
 ·by_cases h4:b.limit<h.versions[h.versions.length-1]
  ·have e:BM b h=(AQ,false):=by simp[BM,OL,htop,h3,h4]
   simp -implicitDefEqProofs [h2,h3,hw1,hn1,hpos,h4,e,AQ]
  ·have h3':b.limit<AwY h.versions↔False:=by rw[htop];simpa using h4
   have b0:h.versions.length*8≤1099511627776:=by omega
   simp -implicitDefEqProofs [h2,h3,hw1,hn1,hpos,h4,b0]
   refine Ad (fun k s=>∃j v8 o6 o7 o8 o9,j+k=h.exts.length∧(h.exts.take j).any (lossy b)=false∧s=⟨[.undef,.undef,.ptr 0 0,.ptr 1 0,.ptr 2 0,.undef,.ptr 5 0,I j,v8,.undef,.undef,.undef,.undef,.undef],[.var ((Dy b).map (AL 1)),.var ((CP h).map (AL 1)),.var [.nil 1,.nil 2],.dead,.arr 1 0 h.versions.length (ints h.versions),.var [.arr 4,.arr 10],o6,o7,o8,o9,.arr 2 0 (kept (stays b) (h.exts.take j)).length ((kept (stays b) (h.exts.take j)).flatMap Bw)]⟩) ?_ (h.exts.length) _ ⟨0,.undef,.free,.free,.free,.free,by simp,by simp,by simp[kept]⟩
   intro k s ⟨j,v8,o6,o7,o8,o9,hj,hp,hs⟩
   subst hs
   by_cases hjn:j<h.exts.length
   ·have hw:IntKind.i64.wrap ((j:Int)+1)=(j+1:Nat):=by rw[Ab (by omega) (by omega)];simp
    have hbd:=Ns hx hjn
    have b1:h.exts[j].body.length*8≤1099511627776:=by omega
    have hkl:=Ve (p:=stays b) (l:=h.exts) (j:=j)
    have b2:((kept (stays b) (h.exts.take j)).length+1)*32≤1099511627776:=by omega
    have hst:=AkU (p:=lossy b) hjn
    rw[hp,Bool.false_or]at hst
    simp -implicitDefEqProofs [hjn]
    refine Aa (hH _ _ hb.2) ?_
    simp -implicitDefEqProofs
    refine Aa (hH _ _ hb.1) ?_
    by_cases g1:h.exts[j].tag∈b.drops
    ·have e:BM b h=(AQ,false):=by
      have:=YK (p:=lossy b) hjn (by simp[lossy,g1])
      simp[BM,OL,this]
     simp -implicitDefEqProofs [g1,e,AQ]
    by_cases g2:h.exts[j].tag∈b.strips
    ·have hl:lossy b h.exts[j]=false:=by simp[lossy,g1,g2]
     have hk:=VE (p:=stays b) hjn (by simp[stays,g2])
     by_cases g3:b.lists=true
     ·simp -implicitDefEqProofs [g1,g2,g3]
      exact⟨k-1,by omega,j+1,by omega,by simpa using hst.trans hl,by simp[hw],by rw[hk],by rw[hk]⟩
     ·simp -implicitDefEqProofs [g1,g2,g3]
      exact⟨k-1,by omega,j+1,by omega,by simpa using hst.trans hl,by simp[hw],by rw[hk],by rw[hk]⟩
    have hk:=RQ (p:=stays b) hjn (by simp[stays,g2])
    have hkl:=Jq (p:=stays b) hjn (by simp[stays,g2])
    by_cases g3:b.lists=true
    rotate_left
    ·have hl:lossy b h.exts[j]=false:=by simp[lossy,g1,g2,g3]
     simp -implicitDefEqProofs [g1,g2,g3,hjn,b1,b2]
     exact⟨k-1,by omega,j+1,by omega,by simpa using hst.trans hl,by simp[hw],by rw[hkl],by rw[←hk]⟩
    simp -implicitDefEqProofs [g1,g2,g3]
    refine Aa (hI _ _ _) ?_
    by_cases g4:Pv h.exts[j].tag 1 3
    ·have hl:lossy b h.exts[j]=false:=by simp[lossy,g1,g2,g3,g4]
     simp -implicitDefEqProofs [g4,hjn,b1,b2]
     exact⟨k-1,by omega,j+1,by omega,by simpa using hst.trans hl,by simp[hw],by rw[hkl],by rw[←hk]⟩
    ·have e:BM b h=(AQ,false):=by
      have:=YK (p:=lossy b) hjn (by simp[lossy,g1,g2,g3,g4])
      simp[BM,OL,this]
     simp -implicitDefEqProofs [g4,e,AQ]
   ·have hje:j=h.exts.length:=by omega
    have ea:h.exts.any (lossy b)=false:=any_none (by omega) hp
    have ek:=Vd (p:=stays b) (l:=h.exts) (j:=j) (by omega)
    have e:BM b h=(⟨h.versions,kept (stays b) h.exts⟩,true):=by simp only[BM,h1,h2,OL,ea,h3'];simp
    simp -implicitDefEqProofs [hjn,e,ek]
 ·have b0:h.versions.length*8≤1099511627776:=by omega
  simp -implicitDefEqProofs [h2,h3,b0]
  refine Ad (fun k s=>∃j v8 o6 o7 o8 o9,j+k=h.exts.length∧(h.exts.take j).any (lossy b)=false∧s=⟨[.undef,.undef,.ptr 0 0,.ptr 1 0,.ptr 2 0,.undef,.ptr 5 0,I j,v8,.undef,.undef,.undef,.undef,.undef],[.var ((Dy b).map (AL 1)),.var ((CP h).map (AL 1)),.var [.nil 1,.nil 2],.dead,.arr 1 0 h.versions.length (ints h.versions),.var [.arr 4,.arr 10],o6,o7,o8,o9,.arr 2 0 (kept (stays b) (h.exts.take j)).length ((kept (stays b) (h.exts.take j)).flatMap Bw)]⟩) ?_ (h.exts.length) _ ⟨0,.undef,.free,.free,.free,.free,by simp,by simp,by simp[kept]⟩
  intro k s ⟨j,v8,o6,o7,o8,o9,hj,hp,hs⟩
  subst hs
  by_cases hjn:j<h.exts.length
  ·have hw:IntKind.i64.wrap ((j:Int)+1)=(j+1:Nat):=by rw[Ab (by omega) (by omega)];simp
   have hbd:=Ns hx hjn
   have b1:h.exts[j].body.length*8≤1099511627776:=by omega
   have hkl:=Ve (p:=stays b) (l:=h.exts) (j:=j)
   have b2:((kept (stays b) (h.exts.take j)).length+1)*32≤1099511627776:=by omega
   have hst:=AkU (p:=lossy b) hjn
   rw[hp,Bool.false_or]at hst
   simp -implicitDefEqProofs [hjn]
   refine Aa (hH _ _ hb.2) ?_
   simp -implicitDefEqProofs
   refine Aa (hH _ _ hb.1) ?_
   by_cases g1:h.exts[j].tag∈b.drops
   ·have e:BM b h=(AQ,false):=by
     have:=YK (p:=lossy b) hjn (by simp[lossy,g1])
     simp[BM,OL,this]
    simp -implicitDefEqProofs [g1,e,AQ]
   by_cases g2:h.exts[j].tag∈b.strips
   ·have hl:lossy b h.exts[j]=false:=by simp[lossy,g1,g2]
    have hk:=VE (p:=stays b) hjn (by simp[stays,g2])
    by_cases g3:b.lists=true
    ·simp -implicitDefEqProofs [g1,g2,g3]
     exact⟨k-1,by omega,j+1,by omega,by simpa using hst.trans hl,by simp[hw],by rw[hk],by rw[hk]⟩
    ·simp -implicitDefEqProofs [g1,g2,g3]
     exact⟨k-1,by omega,j+1,by omega,by simpa using hst.trans hl,by simp[hw],by rw[hk],by rw[hk]⟩
   have hk:=RQ (p:=stays b) hjn (by simp[stays,g2])
   have hkl:=Jq (p:=stays b) hjn (by simp[stays,g2])
   by_cases g3:b.lists=true
   rotate_left
   ·have hl:lossy b h.exts[j]=false:=by simp[lossy,g1,g2,g3]
    simp -implicitDefEqProofs [g1,g2,g3,hjn,b1,b2]
    exact⟨k-1,by omega,j+1,by omega,by simpa using hst.trans hl,by simp[hw],by rw[hkl],by rw[←hk]⟩
   simp -implicitDefEqProofs [g1,g2,g3]
   refine Aa (hI _ _ _) ?_
   by_cases g4:Pv h.exts[j].tag 1 3
   ·have hl:lossy b h.exts[j]=false:=by simp[lossy,g1,g2,g3,g4]
    simp -implicitDefEqProofs [g4,hjn,b1,b2]
    exact⟨k-1,by omega,j+1,by omega,by simpa using hst.trans hl,by simp[hw],by rw[hkl],by rw[←hk]⟩
   ·have e:BM b h=(AQ,false):=by
     have:=YK (p:=lossy b) hjn (by simp[lossy,g1,g2,g3,g4])
     simp[BM,OL,this]
    simp -implicitDefEqProofs [g4,e,AQ]
  ·have hje:j=h.exts.length:=by omega
   have ea:h.exts.any (lossy b)=false:=any_none (by omega) hp
   have ek:=Vd (p:=stays b) (l:=h.exts) (j:=j) (by omega)
   have e:BM b h=(⟨h.versions,kept (stays b) h.exts⟩,true):=by simp only[BM,h1,h2,OL,ea,h3];simp
   simp -implicitDefEqProofs [hjn,e,ek]
abbrev ZA (R:Rel):Prop:=∀(t:Int) (b:Gu),JI b→R [I t,.rptr 1 (Dy b) 0] [] (B (stays b t)) []
theorem Awi (D:Dn) (hH:PX (D Bq)):ZA (Body D Ri):=by
 intro t b hb
 simp -implicitDefEqProofs
 refine Aa (hH b.strips t hb.2) ?_
 simp -implicitDefEqProofs [stays]
abbrev Ajk (R:Rel):Prop:=∀(x:Ext) (b:Gu),JI b→R [arg (Bw x),.rptr 1 (Dy b) 0] [] (B (lossy b x)) []
theorem ADg (D:Dn) (hH:PX (D Bq)) (hI:Qo (D BB)):Ajk (Body D Ue):=by
 intro x b hb
 simp -implicitDefEqProofs
 refine Aa (hH b.drops x.tag hb.1) ?_
 by_cases g1:x.tag∈b.drops
 ·simp -implicitDefEqProofs [g1,lossy]
 by_cases g3:b.lists=true
 rotate_left
 ·simp -implicitDefEqProofs [g1,g3,lossy]
 simp -implicitDefEqProofs [g1,g3]
 refine Aa (hH b.strips x.tag hb.2) ?_
 by_cases g2:x.tag∈b.strips
 ·simp -implicitDefEqProofs [g1,g2,g3,lossy]
 simp -implicitDefEqProofs [g2]
 refine Aa (hI _ _ _) ?_
 simp -implicitDefEqProofs [g1,g2,g3,lossy]
def AFk (xs:List Int):Int:=xs.foldl max (xs.headD 0)
abbrev AGX (R:Rel):Prop:=∀xs:List Int,0<xs.length→xs.length≤4194304→R [.sl 1 1 xs.length (ints xs)] [] (I (AFk xs)) []
abbrev Avp (R:Rel):Prop:=∀xs:List Int,xs.length≤4194304→R [.sl 1 1 xs.length (ints xs)] [] (.sl 0 1 xs.length (ints xs)) []
abbrev Aq7 (R:Rel):Prop:=∀(b:Gu) (h:Hello),JI b→hB h→Hg b=true→AU h.versions=true→R [arg (Dy b),arg (CP h)] [] (B (OL b h)) []
theorem Aer:∀(xs:List Int) (a:Int),(∀x,x∈xs→a≤x)→(∀i,(h:i+1<xs.length)→xs[i]≤xs[i+1])→xs.foldl max a=(xs.getLast?.getD a)
 | [],a,_,_=>rfl
 | x::r,a,h1,h2=>by
  have hx:=h1 x (by simp)
  have hr:∀y,y∈r→x≤y:=by
   intro y hy
   obtain⟨n,hn,rfl⟩:=List.getElem_of_mem hy
   have key:∀m,(hm:m<r.length)→x≤r[m]:=by
    intro m
    induction m with
    | zero=>intro hm;have:=h2 0 (by simp;omega);simpa using this
    | succ m ih=>
     intro hm
     have h3:=ih (by omega)
     have:=h2 (m+1) (by simp;omega)
     simp only[List.getElem_cons_succ]at this
     omega
   exact key n hn
  have ih:=Aer r x hr (fun i h=>by have:=h2 (i+1) (by simp;omega);simpa using this)
  simp only[List.foldl_cons]
  rw[show max a x=x by omega,ih]
  cases r with
  | nil=>rfl
  | cons y s=>simp[List.getLast?_cons_cons,List.getLast?_cons]
theorem Ark {xs:List Int} (h:AU xs=true) {i:Nat} (hi:i+1<xs.length):xs[i]<xs[i+1]:=by
 unfold AU KL at h
 simp only[Bool.and_eq_true,List.all_eq_true,List.mem_range]at h
 have:=(h.1 (i+1) hi).2
 rw[VH hi,show i+1-1=i by omega,VH (by omega)]at this
 simpa using this
theorem AAg {xs:List Int} (h:AU xs=true):AFk xs=AwY xs:=by
 cases xs with
 | nil=>rfl
 | cons x r=>
  unfold AFk AwY
  simp only[List.headD_cons,List.foldl_cons]
  rw[show max x x=x by omega,Aer r x ?_ ?_]
  ·cases r with
   | nil=>rfl
   | cons y s=>simp[List.getLastD_eq_getLast?,List.getLast?_cons_cons,List.getLast?_cons]
  ·intro y hy
   obtain⟨n,hn,rfl⟩:=List.getElem_of_mem hy
   induction n with
   | zero=>have:=Ark h (i:=0) (by simp;omega);simp at this;omega
   | succ m ih=>
    have h3:=ih (by omega) (List.getElem_mem _)
    have:=Ark h (i:=m+1) (by simp;omega)
    simp only[List.getElem_cons_succ]at this
    omega
  ·intro i hi
   have:=Ark h (i:=i+1) (by simp;omega)
   simp only[List.getElem_cons_succ]at this
   omega
theorem Af7 {b:Gu} {r:List V} (h:KD r):KD (.rptr 1 (Dy b) 0::r):=Ab4 (fun H=>by simp) (fun H=>by simp) h
theorem AF3 (D:Dn) (hM:AGX (D Wx)) (h1:Ajk (D U1)) (hC:Kt D (D Jf)):Aq7 (Body D Ya):=by
 intro b h hb hh hbox hver
 obtain⟨hv,hx⟩:=hh
 have hll:=hx.1
 have hpos:=XM hver
 have hlim:0≤b.limit:=by unfold Hg at hbox;simp only[Bool.and_eq_true,decide_eq_true_eq]at hbox;exact hbox.1.1.1.1.1
 by_cases h0:b.limit=0
 ·obtain⟨lim,dr,st,li⟩:=b
  dsimp only at h0
  subst h0
  simp -implicitDefEqProofs
  refine Aa (hC h.exts U1 _ (lossy ⟨0,dr,st,li⟩) (by unfold maxLen;omega) (Af7 (b:=⟨0,dr,st,li⟩) E5) (fun j hj=>h1 h.exts[j] ⟨0,dr,st,li⟩ hb)) ?_
  simp -implicitDefEqProofs [OL]
 ·have hn:0<b.limit:=by omega
  simp -implicitDefEqProofs [h0]
  refine Aa (hM h.versions hpos hv) ?_
  rw[AAg hver]
  by_cases h4:b.limit<AwY h.versions
  ·simp -implicitDefEqProofs [h0,h4,OL,hn]
  ·simp -implicitDefEqProofs [h0,h4]
   refine Aa (hC h.exts U1 _ (lossy b) (by unfold maxLen;omega) (Af7 E5) (fun j hj=>h1 h.exts[j] b hb)) ?_
   simp -implicitDefEqProofs [OL,hn,h4]
theorem Avm (D:Dn) (hX:R6 (D AgD)) (hE:Eo (D Im)) (hL:Aq7 (D As6)) (hC:Avp (D Us)) (h1':ZA (D Xx)) (hK:Ma D (D J3)):PG (Body D UA):=by
 intro b h hb hh
 simp -implicitDefEqProofs
 refine Aa (hX b hb) ?_
 by_cases h1:Hg b=true
 rotate_left
 ·simp -implicitDefEqProofs [h1,BM,AQ]
 simp -implicitDefEqProofs [h1]
 refine Aa (hE h hh) ?_
 by_cases h2:CB h=true
 rotate_left
 ·simp -implicitDefEqProofs [h2,BM,AQ]
 have hver:AU h.versions=true:=by unfold CB at h2;simp only[Bool.and_eq_true]at h2;exact h2.1
 simp -implicitDefEqProofs [h2]
 refine Aa (hL b h hb hh h1 hver) ?_
 by_cases h3:OL b h=true
 ·simp -implicitDefEqProofs [h3,BM,AQ]
 have e:BM b h=(⟨h.versions,kept (stays b) h.exts⟩,true):=by simp[BM,h1,h2,h3]
 simp -implicitDefEqProofs [h3]
 refine Aa (hC h.versions hh.1) ?_
 simp -implicitDefEqProofs
 refine Aa (hK h.exts Xx _ (stays b) hh.2 (Af7 E5) (Aa1 RN) (fun t=>h1' t b hb)) ?_
 simp -implicitDefEqProofs [e]
end Go.Eng.T
namespace Go.Eng.T
set_option maxRecDepth 20000
def Ik:List Gu→Hello→Hello×Bool
 | [],h=>(h,true)
 | b::r,h=>if(BM b h).2=true then Ik r (BM b h).1 else(AQ,false)
theorem AgL {path:List Gu} {j:Nat} {x:Hello} (h:j<path.length):Ik (path.drop j) x=if(BM path[j] x).2=true then Ik (path.drop (j+1)) (BM path[j] x).1 else(AQ,false):=by
 rw[List.drop_eq_getElem_cons h];rfl
theorem AjZ {path:List Gu} {j:Nat} {x:Hello} (h:path.length≤j):Ik (path.drop j) x=(x,true):=by rw[List.drop_eq_nil_of_le h];rfl
def Ba (path:List Gu) (h:Hello):Hello×Bool:=if decide (path.length≤4)&&CB h then Ik path h else(AQ,false)
theorem AkP:hB AQ:=⟨by simp[AQ],Ada⟩
theorem ArN {b:Gu} {h:Hello} (hh:hB h):hB (BM b h).1:=by
 unfold BM
 split
 ·exact⟨hh.1,VW hh.2 _⟩
 ·exact AkP
theorem Aw3 {b:Gu} {h:Hello} (hk:(BM b h).2=false):(BM b h).1=AQ:=by
 unfold BM at *
 split at hk
 ·cases hk
 ·rename_i hc;rw[if_neg hc]
abbrev FV (R:Rel):Prop:=∀(path:List Gu) (h:Hello),lnS JI path→hB h→R [.sl 1 4 path.length (path.flatMap Dy),arg (CP h)] [] (.tup [.agg (CP (Ba path h).1),B (Ba path h).2]) []
theorem Atu (D:Dn) (hE:Eo (D GJ)) (hC:KZ (D Yh)) (hP:PG (D Aos)):FV (Body D Tk):=by
 intro path h hb hh
 have hl:=hb.1
 unfold maxLen at hl
 by_cases h1:path.length≤4
 rotate_left
 ·have h1':(4:Int)<path.length:=by omega
  simp -implicitDefEqProofs [h1',h1,Ba,AQ]
 have h1':¬(4:Int)<path.length:=by omega
 simp -implicitDefEqProofs [h1']
 refine Aa (hE h hh) ?_
 by_cases h2:CB h=true
 rotate_left
 ·simp -implicitDefEqProofs [h2,h1,Ba,AQ]
 have e:Ba path h=Ik path h:=by simp[Ba,h1,h2]
 rw[e]
 simp -implicitDefEqProofs [h2]
 refine Aa (hC h hh) ?_
 simp -implicitDefEqProofs
 refine Ad (fun k s=>∃j x o5 o6 o7,j+k=path.length∧hB x∧Ik path h=Ik (path.drop j) x∧s=⟨[.sl 1 4 path.length (path.flatMap Dy),.undef,.undef,.ptr 1 0,.undef,.ptr 4 0,I j,.undef,.undef,.undef,.undef,.undef],[.var ((CP h).map (AL 1)),.var [.nil 1,.nil 2],.free,.free,.var [.arr 8,.arr 9],o5,o6,o7,.arr 1 0 x.versions.length (ints x.versions),.arr 2 0 x.exts.length (x.exts.flatMap Bw)]⟩) ?_ (path.length) _ ⟨0,h,.free,.free,.free,by simp,hh,by simp,by simp⟩
 intro k s ⟨j,x,o5,o6,o7,hj,hx,hg,hs⟩
 subst hs
 by_cases hjn:j<path.length
 ·have hw:IntKind.i64.wrap ((j:Int)+1)=(j+1:Nat):=by rw[Ab (by omega) (by omega)];simp
  rw[AgL hjn]at hg
  simp -implicitDefEqProofs [hjn]
  refine Aa (hP path[j] x (hb.2 j hjn) hx) ?_
  have hx':=ArN (b:=path[j]) hx
  generalize BM path[j] x=r at hg hx'
  by_cases hk:r.2=true
  ·rw[if_pos hk]at hg
   simp -implicitDefEqProofs [hk]
   refine⟨k-1,by omega,j+1,by omega,r.1,hx',?_⟩
   simp[hw,hg]
  ·rw[if_neg hk]at hg
   simp -implicitDefEqProofs [hk,hg,AQ]
 ·rw[AjZ (by omega)]at hg
  simp -implicitDefEqProofs [hjn,hg]
theorem Ath (D:Dn) (hE:Eo (D Im)) (hC:KZ (D Xn)) (hP:PG (D AnL)):FV (Body D SL):=by
 intro path h hb hh
 have hl:=hb.1
 unfold maxLen at hl
 simp -implicitDefEqProofs
 refine Aa (hE h hh) ?_
 by_cases h2:CB h=true
 rotate_left
 ·simp -implicitDefEqProofs [h2,Ba,AQ]
 by_cases h1:path.length≤4
 rotate_left
 ·have h1':(4:Int)<path.length:=by omega
  simp -implicitDefEqProofs [h2,h1',h1,Ba,AQ]
 have h1':¬(4:Int)<path.length:=by omega
 have e:Ba path h=Ik path h:=by simp[Ba,h1,h2]
 rw[e]
 simp -implicitDefEqProofs [h2,h1']
 refine Aa (hC h hh) ?_
 simp -implicitDefEqProofs
 refine Ad (fun k s=>∃j x ok o5 o6,j+k=path.length∧hB x∧Ik path h=(if ok=true then Ik (path.drop j) x else(AQ,false))∧(ok=false→x=AQ)∧s=⟨[.sl 1 4 path.length (path.flatMap Dy),.undef,.undef,.ptr 1 0,.undef,.ptr 4 0,B ok,I j,.undef,.undef],[.var ((CP h).map (AL 1)),.var [.nil 1,.nil 2],.free,.free,.var [.arr 7,.arr 8],o5,o6,.arr 1 0 x.versions.length (ints x.versions),.arr 2 0 x.exts.length (x.exts.flatMap Bw)]⟩) ?_ (path.length) _ ⟨0,h,true,.free,.free,by simp,hh,by simp,by simp,by simp⟩
 intro k s ⟨j,x,ok,o5,o6,hj,hx,hg,hno,hs⟩
 subst hs
 by_cases hok:ok=true
 rotate_left
 ·rw[if_neg hok]at hg
  have hok':ok=false:=by simpa using hok
  have hno':=hno hok'
  subst hok'
  subst hno'
  by_cases hjn:j<path.length
  ·simp -implicitDefEqProofs [hjn,hg,AQ]
  ·simp -implicitDefEqProofs [hjn,hg,AQ]
 rw[if_pos hok]at hg
 subst hok
 by_cases hjn:j<path.length
 ·have hw:IntKind.i64.wrap ((j:Int)+1)=(j+1:Nat):=by rw[Ab (by omega) (by omega)];simp
  rw[AgL hjn]at hg
  simp -implicitDefEqProofs [hjn]
  refine Aa (hP path[j] x (hb.2 j hjn) hx) ?_
  have hx':=ArN (b:=path[j]) hx
  have hno':=Aw3 (b:=path[j]) (h:=x)
  generalize BM path[j] x=r at hg hx' hno'
  simp -implicitDefEqProofs
  refine⟨k-1,by omega,j+1,by omega,r.1,hx',?_⟩
  simp[hw,hg,hno']
  by_cases hr:r.2=true
  ·right;exact⟨fun h=>by simp[hr]at h,hr⟩
  ·left;exact⟨fun h=>absurd h hr,hno' (by simpa using hr),by simpa using hr⟩
 ·rw[AjZ (by omega)]at hg
  simp -implicitDefEqProofs [hjn,hg]
def NJ (b:Gu):Bool:=decide (b.limit=0)&&(decide (b.drops.length=0)&&(decide (b.strips.length=0)&& !b.lists))
def Mq (path:List Gu):Bool:=decide (path.length≤4)&&path.all NJ
theorem Vm {α:Type} {p:α→Bool} {xs:List α} {j:Nat} (h:j<xs.length) (hp:p xs[j]=false):xs.all p=false:=List.all_eq_false.2 ⟨_,List.getElem_mem h,by simp[hp]⟩
theorem Yw {α:Type} {p:α→Bool} {xs:List α} {j:Nat} (h:j<xs.length):(xs.take (j+1)).all p=((xs.take j).all p&&p xs[j]):=by
 have e:xs.take (j+1)=xs.take j++ [xs[j]]:=by simp
 rw[e,List.all_append];simp
theorem Ack {α:Type} {p:α→Bool} {xs:List α} {j:Nat} (h:xs.length≤j):(xs.take j).all p=xs.all p:=by rw[List.take_of_length_le h]
abbrev Gr (R:Rel):Prop:=∀xs:List Int,xs.length≤4194304→R [.sl 1 1 xs.length (ints xs)] [] (.agg (CP ⟨xs,[]⟩)) []
theorem Am7 (D:Dn):Gr (Body D Oh):=by
 intro xs h
 have h1:xs.length*8≤1099511627776:=by omega
 simp -implicitDefEqProofs [h1]
theorem Anl (D:Dn):Gr (Body D NT):=by
 intro xs h
 have h1:xs.length*8≤1099511627776:=by omega
 simp -implicitDefEqProofs [h1]
def isOpen (path:List Gu) (vs:List Int):Bool:=AU vs&&(Ba path ⟨vs.take 1,[]⟩).2
abbrev Hz (R:Rel):Prop:=∀(path:List Gu) (vs:List Int),lnS JI path→vs.length≤4194304→R [.sl 1 4 path.length (path.flatMap Dy),.sl 1 1 vs.length (ints vs)] [] (B (isOpen path vs)) []
theorem AnQ (D:Dn) (hA:BA (D Di)) (hH:Gr (D VF)) (hP:FV (D ML)):Hz (Body D Oa):=by
 intro path vs hb hv
 simp -implicitDefEqProofs
 refine Aa (hA vs (by unfold maxLen;omega)) ?_
 by_cases h1:AU vs=true
 rotate_left
 ·simp -implicitDefEqProofs [h1,isOpen]
 have hpos:=XM h1
 have h1l:(1:Int)≤vs.length:=by omega
 have h1n:1≤vs.length:=by omega
 have hlen:(vs.take 1).length=1:=by simp;omega
 have hmin:min 1 vs.length=1:=by omega
 simp -implicitDefEqProofs [h1,h1l,h1n]
 have hh:=hH (vs.take 1) (by omega)
 rw[hlen]at hh
 refine Aa (hh) ?_
 simp -implicitDefEqProofs [hmin]
 have hp:=hP path ⟨vs.take 1,[]⟩ hb ⟨by simp;omega,Ada⟩
 simp -implicitDefEqProofs [hmin]at hp
 refine Aa (hp) ?_
 simp -implicitDefEqProofs [isOpen,h1]
theorem Aod (D:Dn) (hA:BA (D FX)) (hH:Gr (D VY)) (hP:FV (D MF)):Hz (Body D NR):=by
 intro path vs hb hv
 simp -implicitDefEqProofs
 refine Aa (hA vs (by unfold maxLen;omega)) ?_
 by_cases h1:AU vs=true
 rotate_left
 ·simp -implicitDefEqProofs [h1,isOpen]
 have hpos:=XM h1
 have h1l:(1:Int)≤vs.length:=by omega
 have h1n:1≤vs.length:=by omega
 have hlen:(vs.take 1).length=1:=by simp;omega
 have hmin:min 1 vs.length=1:=by omega
 simp -implicitDefEqProofs [h1,h1l,h1n]
 have hh:=hH (vs.take 1) (by omega)
 rw[hlen]at hh
 refine Aa (hh) ?_
 simp -implicitDefEqProofs [hmin]
 have hp:=hP path ⟨vs.take 1,[]⟩ hb ⟨by simp;omega,Ada⟩
 simp -implicitDefEqProofs [hmin]at hp
 refine Aa (hp) ?_
 simp -implicitDefEqProofs [isOpen,h1]
def K4 (path:List Gu) (v:Int):Bool:= !(Ba path ⟨[v],[]⟩).2
def Bo (path:List Gu) (vs:List Int):List Int:=if AU vs=true then vs.filter (K4 path)else []
abbrev GD (R:Rel):Prop:=∀(path:List Gu) (vs:List Int),lnS JI path→vs.length≤4194304→R [.sl 1 4 path.length (path.flatMap Dy),.sl 1 1 vs.length (ints vs)] [] (.sl 0 1 (Bo path vs).length (ints (Bo path vs))) []
theorem Avq (path:List Gu) (v:Int):isOpen path [v]= !K4 path v:=by
 unfold isOpen K4
 by_cases h:AU [v]=true
 ·simp[h]
 ·have:Ba path ⟨[v],[]⟩=(AQ,false):=by
   unfold Ba CB
   have h':AU [v]=false:=by simpa using h
   simp[h']
  simp[h,this]
theorem Ah3 (D:Dn) (hA:BA (D Di)) (hO:Hz (D Vb)):GD (Body D LZ):=by
 intro path vs hb hv
 by_cases h1:AU vs=true
 rotate_left
 ·have e:Bo path vs=[]:=by unfold Bo;rw[if_neg h1]
  rw[e]
  simp -implicitDefEqProofs
  refine Ad (fun k s=>s=⟨[.sl 1 4 path.length (path.flatMap Dy),.sl 1 1 vs.length (ints vs),.undef,.arr 3,I 0,.undef,.undef],[.free,.free,.free,.arr 1 0 0 (ints [])]⟩) ?_ 0 _ (by simp)
  intro k s hs
  subst hs
  by_cases h0:0<vs.length
  ·simp -implicitDefEqProofs [h0]
   refine Aa (hA vs (by unfold maxLen;omega)) ?_
   simp -implicitDefEqProofs [h1]
  ·simp -implicitDefEqProofs [h0]
 have e:Bo path vs=vs.filter (K4 path):=by unfold Bo;rw[if_pos h1]
 rw[e]
 simp -implicitDefEqProofs
 refine Ad (fun k s=>∃j o1 o2,j+k=vs.length∧s=⟨[.sl 1 4 path.length (path.flatMap Dy),.sl 1 1 vs.length (ints vs),.undef,.arr 3,I j,.undef,.undef],[.free,o1,o2,.arr 1 0 ((vs.take j).filter (K4 path)).length (ints ((vs.take j).filter (K4 path)))]⟩) ?_ (vs.length) _ ⟨0,.free,.free,by simp,by simp⟩
 intro k s ⟨j,o1,o2,hj,hs⟩
 subst hs
 by_cases hjn:j<vs.length
 ·have hw:IntKind.i64.wrap ((j:Int)+1)=(j+1:Nat):=by rw[Ab (by omega) (by omega)];simp
  have hst:=Kk (p:=K4 path) hjn
  have hfl:=M5 (p:=K4 path) (xs:=vs) (j:=j)
  have hb1:(((vs.take j).filter (K4 path)).length+1)*8≤1099511627776:=by omega
  have hw1:IntKind.i64.wrap ((j:Int)+1)=(j:Int)+1:=Ab (by omega) (by omega)
  have hj1:j+1≤vs.length:=by omega
  have hj2:(j:Int)+1≤vs.length:=by omega
  have hdt:(vs.drop j).take 1=[vs[j]]:=by rw[List.drop_eq_getElem_cons hjn];rfl
  simp -implicitDefEqProofs [hjn]
  refine Aa (hA vs (by unfold maxLen;omega)) ?_
  have hjj:(j:Int)≤(j:Int)+1:=by omega
  have h11:j+1-j=1:=by omega
  simp -implicitDefEqProofs [h1,hw1,hj1,hj2,hdt,hjn,hjj,h11]
  refine Aa (hO path [vs[j]] hb (by simp)) ?_
  rw[Avq]
  by_cases h2:K4 path vs[j]=true
  ·rw[if_pos h2]at hst
   simp -implicitDefEqProofs [h2,hjn,hb1]
   exact⟨k-1,by omega,j+1,by omega,by simp[hw],by rw[hst];simp,by rw[hst]⟩
  ·rw[if_neg h2,List.append_nil]at hst
   simp -implicitDefEqProofs [h2]
   exact⟨k-1,by omega,j+1,by omega,by simp[hw],by rw[hst],by rw[hst]⟩
 ·have e2:=K7 (p:=K4 path) (xs:=vs) (j:=j) (by omega)
  simp -implicitDefEqProofs [hjn,e2]
theorem Aik (D:Dn) (hA:BA (D FX)) (hH:Gr (D VY)) (hP:FV (D MF)):GD (Body D LP):=by
 intro path vs hb hv
 simp -implicitDefEqProofs
 refine Aa (hA vs (by unfold maxLen;omega)) ?_
 by_cases h1:AU vs=true
 rotate_left
 ·have e:Bo path vs=[]:=by unfold Bo;rw[if_neg h1]
  rw[e]
  simp -implicitDefEqProofs [h1]
 have e:Bo path vs=vs.filter (K4 path):=by unfold Bo;rw[if_pos h1]
 rw[e]
 simp -implicitDefEqProofs [h1]
 refine Ad (fun k s=>∃j v4 o1 o2 o3 o4 o5 o6 o7 o8,j+k=vs.length∧s=⟨[.sl 1 4 path.length (path.flatMap Dy),.undef,.undef,.arr 9,v4,.undef,.undef,.sl 1 1 vs.length (ints vs),I vs.length,I j,.undef,.undef],[.free,o1,o2,o3,o4,o5,o6,o7,o8,.arr 1 0 ((vs.take j).filter (K4 path)).length (ints ((vs.take j).filter (K4 path)))]⟩) ?_ (vs.length) _ ⟨0,.undef,.free,.free,.free,.free,.free,.free,.free,.free,by simp,by simp⟩
 intro k s ⟨j,v4,o1,o2,o3,o4,o5,o6,o7,o8,hj,hs⟩
 subst hs
 by_cases hjn:j<vs.length
 ·have hw:IntKind.i64.wrap ((j:Int)+1)=(j+1:Nat):=by rw[Ab (by omega) (by omega)];simp
  have hst:=Kk (p:=K4 path) hjn
  have hfl:=M5 (p:=K4 path) (xs:=vs) (j:=j)
  have hb1:(((vs.take j).filter (K4 path)).length+1)*8≤1099511627776:=by omega
  simp -implicitDefEqProofs [hjn]
  refine Aa (hH [vs[j]] (by simp)) ?_
  simp -implicitDefEqProofs
  refine Aa (hP path ⟨[vs[j]],[]⟩ hb ⟨by simp,Ada⟩) ?_
  have hq:K4 path vs[j]= !(Ba path ⟨[vs[j]],[]⟩).2:=rfl
  generalize Ba path ⟨[vs[j]],[]⟩=r at hq
  by_cases h2:r.2=true
  ·have h3:¬K4 path vs[j]=true:=by rw[hq,h2];simp
   rw[if_neg h3,List.append_nil]at hst
   simp -implicitDefEqProofs [h2]
   exact⟨k-1,by omega,j+1,by omega,by simp[hw],by rw[hst],by rw[hst]⟩
  ·have h3:K4 path vs[j]=true:=by rw[hq];simpa using h2
   rw[if_pos h3]at hst
   simp -implicitDefEqProofs [h2,hb1]
   exact⟨k-1,by omega,j+1,by omega,by simp[hw],by rw[hst];simp,by rw[hst]⟩
 ·have e2:=K7 (p:=K4 path) (xs:=vs) (j:=j) (by omega)
  simp -implicitDefEqProofs [hjn,e2]
end Go.Eng.T
namespace Go.Eng.T
set_option maxRecDepth 20000
def Tt {α:Type} (p:α→Bool):List α→Nat→List Int
 | [],_=> []
 | x::r,i=>if p x then(i:Int)::Tt p r (i+1)else Tt p r (i+1)
theorem Agt {α:Type} {p:α→Bool} (b:List α):∀(a:List α) (i:Nat),Tt p (a++b) i=Tt p a i++Tt p b (i+a.length)
 | [],i=>by simp[Tt]
 | x::r,i=>by
  have:=Agt (p:=p) b r (i+1)
  simp only[List.cons_append,Tt,this,List.length_cons]
  rw[show i+1+r.length=i+(r.length+1)by omega]
  by_cases h:p x=true<;>simp[h]
theorem As2 {α:Type} {p:α→Bool}:∀(xs:List α) (i:Nat),(Tt p xs i).length≤xs.length
 | [],_=>by simp[Tt]
 | x::r,i=>by
  have:=As2 (p:=p) r (i+1)
  by_cases h:p x=true
  ·simp[Tt,h];omega
  ·simp[Tt,h];omega
end Go.Eng.T
namespace Go.Eng.T
set_option maxRecDepth 20000
set_option maxHeartbeats 1000000
def JB (xs:List (List Int)):List V:=xs.map fun l=> .sl 0 1 l.length (ints l)
@[simp high] theorem AIk (xs:List (List Int)):(JB xs).length=xs.length:=by simp[JB]
@[simp] theorem AIa:JB []=[]:=rfl
@[simp] theorem AIt (xs:List (List Int)):(JB xs).map (AL 0)=JB xs:=by simp[JB,Function.comp_def,AL]
@[simp high] theorem AIM {xs:List (List Int)} {j:Nat} (h:j<xs.length):(JB xs)[j]? =some (V.sl 0 1 xs[j].length (ints xs[j])):=by simp[JB,h]
def G5 (xs:List (List Int)):Nat:=Cu List.length xs
theorem TB {xs:List (List Int)} {j:Nat} (h:j<xs.length):xs[j].length≤G5 xs:=size_at (f:=List.length) h
theorem JM {xs:List (List Int)}:xs.length≤G5 xs:=K6
abbrev H8 (ls:List (List Int)):V:= .sl 1 1 ls.length (JB ls)
def Ali (s:List Int) (v:Int) (l:List Int):Bool:=decide (0<Be s l)&&decide (Be (EJ s v) l=0)
def PU (s:List Int) (ls:List (List Int)) (v:Int):List Int:=Tt (Ali s v) ls 0
end Go.Eng.T
namespace Go.Eng.T
set_option maxRecDepth 20000
set_option maxHeartbeats 1000000
def leftOf (a b:List Int):List Int:=a.filter fun v=> !decide (v∈b)
abbrev Xz (R:Rel):Prop:=∀a b:List Int,a.length≤4194304→b.length≤4194304→R [.sl 1 1 a.length (ints a),.sl 1 1 b.length (ints b)] [] (.sl 0 1 (leftOf a b).length (ints (leftOf a b))) []
theorem AzJ (D:Dn) (hH:PX (D GA)):Xz (Body D U5):=by
 intro a b ha hb
 have hres:leftOf a b=a.filter (fun v=> !decide (v∈b)):=rfl
 rw[hres]
 simp -implicitDefEqProofs
 refine Ad (fun k s=>∃j o1 o2,j+k=a.length∧s=⟨[.sl 1 1 a.length (ints a),.sl 1 1 b.length (ints b),.undef,.arr 3,I j,.undef,.undef],[.free,o1,o2,.arr 1 0 ((a.take j).filter (fun v=> !decide (v∈b))).length (ints ((a.take j).filter (fun v=> !decide (v∈b))))]⟩) ?_ (a.length) _ ⟨0,.free,.free,by simp,by simp⟩
 intro k s ⟨j,o1,o2,hj,hs⟩
 subst hs
 by_cases hjn:j<a.length
 ·have hw:IntKind.i64.wrap ((j:Int)+1)=(j+1:Nat):=by rw[Ab (by omega) (by omega)];simp
  have hst:=Kk (p:=fun v=> !decide (v∈b)) hjn
  have hln:=M5 (p:=fun v=> !decide (v∈b)) (xs:=a) (j:=j)
  have hbd:(((a.take j).filter (fun v=> !decide (v∈b))).length+1)*8≤1099511627776:=by omega
  simp -implicitDefEqProofs [hjn]
  refine Aa (hH b _ (by unfold maxLen;omega)) ?_
  by_cases h1:a[j]∈b
  ·rw[if_neg (by simp[h1]),List.append_nil]at hst
   simp -implicitDefEqProofs [h1,hjn,hbd]
   exact⟨k-1,by omega,j+1,by omega,by simp[hw],by rw[hst],by rw[hst]⟩
  ·rw[if_pos (by simp[h1])]at hst
   simp -implicitDefEqProofs [h1,hjn,hbd]
   exact⟨k-1,by omega,j+1,by omega,by simp[hw],by rw[hst];simp,by rw[hst]⟩
 ·have hx:=K7 (p:=fun v=> !decide (v∈b)) (xs:=a) (j:=j) (by omega)
  simp -implicitDefEqProofs [hjn,hx]
theorem AvO (D:Dn) (hH:PX (D Bq)):Xz (Body D UG):=by
 intro a b ha hb
 have hres:leftOf a b=a.filter (fun v=> !decide (v∈b)):=rfl
 rw[hres]
 simp -implicitDefEqProofs
 refine Ad (fun k s=>∃j v4 o1 o2,j+k=a.length∧s=⟨[.undef,.sl 1 1 b.length (ints b),.undef,.arr 3,v4,.sl 1 1 a.length (ints a),I a.length,I j,.undef,.undef],[.free,o1,o2,.arr 1 0 ((a.take j).filter (fun v=> !decide (v∈b))).length (ints ((a.take j).filter (fun v=> !decide (v∈b))))]⟩) ?_ (a.length) _ ⟨0,.undef,.free,.free,by simp,by simp⟩
 intro k s ⟨j,v4,o1,o2,hj,hs⟩
 subst hs
 by_cases hjn:j<a.length
 ·have hw:IntKind.i64.wrap ((j:Int)+1)=(j+1:Nat):=by rw[Ab (by omega) (by omega)];simp
  have hst:=Kk (p:=fun v=> !decide (v∈b)) hjn
  have hln:=M5 (p:=fun v=> !decide (v∈b)) (xs:=a) (j:=j)
  have hbd:(((a.take j).filter (fun v=> !decide (v∈b))).length+1)*8≤1099511627776:=by omega
  simp -implicitDefEqProofs [hjn]
  refine Aa (hH b _ (by unfold maxLen;omega)) ?_
  by_cases h1:a[j]∈b
  ·rw[if_neg (by simp[h1]),List.append_nil]at hst
   simp -implicitDefEqProofs [h1,hjn,hbd]
   exact⟨k-1,by omega,j+1,by omega,by simp[hw],by rw[hst],by rw[hst]⟩
  ·rw[if_pos (by simp[h1])]at hst
   simp -implicitDefEqProofs [h1,hjn,hbd]
   exact⟨k-1,by omega,j+1,by omega,by simp[hw],by rw[hst];simp,by rw[hst]⟩
 ·have hx:=K7 (p:=fun v=> !decide (v∈b)) (xs:=a) (j:=j) (by omega)
  simp -implicitDefEqProofs [hjn,hx]
def upTo (xs:List Int) (i:Nat):Bool:=decide (i=0)||decide (xs.getD (i-1) 0<xs.getD i 0)
def Gf (xs:List Int):Bool:=PY (upTo xs) xs.length&&allIn xs 0 255
abbrev M6 (R:Rel):Prop:=∀xs:List Int,xs.length≤maxLen→R [.sl 1 1 xs.length (ints xs)] [] (B (Gf xs)) []
theorem AgM {xs:List Int} {j:Nat} (h:j<xs.length) (hn:¬Pv xs[j] 0 255):Gf xs=false:=by unfold Gf;rw[AsW h hn];simp
theorem X3 {xs:List Int} {j:Nat} (h:j<xs.length) (hn:upTo xs j=false):Gf xs=false:=by unfold Gf;rw[AjP h hn];simp
theorem ZH (xs:List Int):upTo xs 0=true:=by simp[upTo]
theorem WQ {xs:List Int} {j:Nat} (h0:¬j=0) (h:j<xs.length) (h':j-1<xs.length):upTo xs j=decide (xs[j-1]<xs[j]):=by
 unfold upTo
 rw[VH h,VH h']
 simp[h0]
theorem AwE (D:Dn) (hN:JN (D Ky)):M6 (Body D UF):=by
 intro xs hl
 have hl0:=hl
 unfold maxLen at hl
 simp -implicitDefEqProofs
 refine Ad (fun k s=>∃j,j+k=xs.length∧PY (upTo xs) j=true∧s=⟨[.sl 1 1 xs.length (ints xs),.undef,.undef,.undef,.sl 1 1 xs.length (ints xs),I xs.length,I j,.undef,.undef],[]⟩) ?_ (xs.length) _ ⟨0,by simp,by simp,by simp⟩
 intro k s ⟨j,hj,hr,hs⟩
 subst hs
 by_cases hjn:j<xs.length
 ·have hw:IntKind.i64.wrap ((j:Int)+1)=(j+1:Nat):=by rw[Ab (by omega) (by omega)];simp
  have hst:=JX (upTo xs) j
  rw[hr,Bool.true_and]at hst
  by_cases h0:j=0
  ·subst h0
   simp -implicitDefEqProofs [hjn]
   exact⟨k-1,by omega,1,by omega,by rw[hst,ZH],by simpa using hw⟩
  ·have hw2:IntKind.i64.wrap ((j:Int)-1)=((j-1:Nat):Int):=by rw[Ab (by omega) (by omega)];omega
   have h2:(0:Int)<j:=by omega
   have h2':0<j:=by omega
   have h3:j-1<xs.length:=by omega
   rw[WQ h0 hjn h3]at hst
   by_cases h4:xs[j-1]<xs[j]
   ·have h4':¬xs[j]≤xs[j-1]:=by omega
    simp -implicitDefEqProofs [h2,h2',hw2,h3,hjn,h4']
    exact⟨k-1,by omega,j+1,by omega,by rw[hst];simp[h4],by simp[hw]⟩
   ·have e:=X3 hjn (by rw[WQ h0 hjn h3];simp[h4])
    have h4':xs[j]≤xs[j-1]:=by omega
    simp -implicitDefEqProofs [h2,h2',hw2,h3,hjn,h4',e]
 ·obtain rfl:j=xs.length:=by omega
  have e:Gf xs=allIn xs 0 255:=by unfold Gf;rw[hr];rfl
  simp -implicitDefEqProofs
  refine Aa (hN xs _ _ hl0) ?_
  simp -implicitDefEqProofs [e]
def Ay (e:Aq):Bool:=AU e.versions&&(decide (e.tags.length≤5)&&(Gf e.tags&&(!e.tags.any Au&&(decide (e.path.length≤4)&&(e.path.all Hg&&decide (Pv e.cls 0 5))))))
abbrev Fb (R:Rel):Prop:=∀e:Aq,AkQ e→R [arg (Ak e)] [] (B (Ay e)) []
theorem Am6 (D:Dn) (hI:Qo (D BF)) (hR:FL (D Ou)) (hX:R6 (D Yr)) (hA:BA (D Di)):Fb (Body D OO):=by
 intro e hl
 obtain⟨hl1,hl2,hl3⟩:=hl
 have hl4:=hl3.1
 have hl2':=hl2
 unfold Uo at hl2
 unfold maxLen at hl2 hl4
 simp -implicitDefEqProofs
 refine Ad (fun k s=>∃j,j+k=e.tags.length∧allIn (e.tags.take j) 0 255=true∧PY (upTo e.tags) j=true∧(e.tags.take j).any Au=false∧s=⟨[.undef,.ptr 0 0,.undef,I j,.undef,.undef,.undef,.undef,.undef],[.var ((Ak e).map (AL 1))]⟩) ?_ (e.tags.length) _ ⟨0,by simp,by simp[allIn],by simp,by simp,by simp⟩
 intro k s ⟨j,hj,hp,hr,hq,hs⟩
 subst hs
 by_cases hjn:j<e.tags.length
 ·have hw:IntKind.i64.wrap ((j:Int)+1)=(j+1:Nat):=by rw[Ab (by omega) (by omega)];simp
  have hst:=JX (upTo e.tags) j
  rw[hr,Bool.true_and]at hst
  have hsq:=AkU (p:=Au) hjn
  rw[hq,Bool.false_or]at hsq
  simp -implicitDefEqProofs [hjn]
  refine Aa (hI _ _ _) ?_
  by_cases h1:Pv e.tags[j] 0 255
  rotate_left
  ·have e0:Ay e=false:=by unfold Ay;rw[AgM hjn h1];simp
   simp -implicitDefEqProofs [h1,e0]
  simp -implicitDefEqProofs [h1,hjn]
  refine Aa (hR _) ?_
  by_cases h5:Au e.tags[j]=true
  ·have e0:Ay e=false:=by unfold Ay;rw[YK hjn h5];simp
   simp -implicitDefEqProofs [h5,e0]
  have h5':Au e.tags[j]=false:=by simpa using h5
  by_cases h0:j=0
  ·subst h0
   simp -implicitDefEqProofs [h1,h5']
   exact⟨k-1,by omega,1,by omega,by rw[R3 hjn,hp];simp[h1],by rw[hst,ZH],by simpa using hsq.trans h5',by simpa using hw⟩
  ·have hw2:IntKind.i64.wrap ((j:Int)-1)=((j-1:Nat):Int):=by rw[Ab (by omega) (by omega)];omega
   have h2:(0:Int)<j:=by omega
   have h2':0<j:=by omega
   have h3:j-1<e.tags.length:=by omega
   rw[WQ h0 hjn h3]at hst
   by_cases h4:e.tags[j-1]<e.tags[j]
   ·have h4':¬e.tags[j]≤e.tags[j-1]:=by omega
    simp -implicitDefEqProofs [h1,h5',h2,h2',hw2,h3,hjn,h4']
    exact⟨k-1,by omega,j+1,by omega,by rw[R3 hjn,hp];simp[h1],by rw[hst];simp[h4],by simpa using hsq.trans h5',by simp[hw]⟩
   ·have e0:Ay e=false:=by unfold Ay;rw[X3 hjn (by rw[WQ h0 hjn h3];simp[h4])];simp
    have h4':e.tags[j]≤e.tags[j-1]:=by omega
    simp -implicitDefEqProofs [h1,h5',h2,h2',hw2,h3,hjn,h4',e0]
 obtain rfl:j=e.tags.length:=by omega
 have et:Gf e.tags=true:=by unfold Gf;rw[hr,Af1 (by omega) hp];rfl
 have er:e.tags.any Au=false:=any_none (by omega) hq
 simp -implicitDefEqProofs
 refine Ad (fun k s=>∃j,j+k=e.path.length∧(e.path.take j).all Hg=true∧s=⟨[.undef,.ptr 0 0,.undef,.undef,I j,.undef,.undef,.undef,.undef],[.var ((Ak e).map (AL 1))]⟩) ?_ (e.path.length) _ ⟨0,by simp,by simp,by simp⟩
 intro k s ⟨j,hj,hb,hs⟩
 subst hs
 by_cases hjn:j<e.path.length
 ·have hw:IntKind.i64.wrap ((j:Int)+1)=(j+1:Nat):=by rw[Ab (by omega) (by omega)];simp
  have hst:=Yw (p:=Hg) hjn
  rw[hb,Bool.true_and]at hst
  simp -implicitDefEqProofs [hjn]
  refine Aa (hX _ (hl3.2 j hjn)) ?_
  by_cases h1:Hg e.path[j]=true
  ·simp -implicitDefEqProofs [h1]
   exact⟨k-1,by omega,j+1,by omega,by simpa using hst.trans h1,by simp[hw]⟩
  ·have e0:Ay e=false:=by unfold Ay;rw[Vm hjn (by simpa using h1)];simp
   simp -implicitDefEqProofs [h1,e0]
 have eb:e.path.all Hg=true:=by rw[←Ack (j:=j) (by omega),hb]
 simp -implicitDefEqProofs [hjn]
 refine Aa (hA _ hl1) ?_
 by_cases g1:AU e.versions=true
 rotate_left
 ·simp -implicitDefEqProofs [g1,Ay]
 by_cases g2:e.tags.length≤5
 rotate_left
 ·have g2':¬(e.tags.length:Int)≤5:=by omega
  simp -implicitDefEqProofs [g1,g2,g2',Ay]
 have g2':(e.tags.length:Int)≤5:=by omega
 by_cases g3:e.path.length≤4
 rotate_left
 ·have g3':¬(e.path.length:Int)≤4:=by omega
  simp -implicitDefEqProofs [g1,g2,g2',g3,g3',Ay]
 have g3':(e.path.length:Int)≤4:=by omega
 simp -implicitDefEqProofs [g1,g2',g3']
 refine Aa (hI _ _ _) ?_
 have ee:Ay e=decide (Pv e.cls 0 5):=by unfold Ay;rw[et,er,eb];simp[g1,g2,g3]
 simp -implicitDefEqProofs [ee]
abbrev Ru (R:Rel):Prop:=∀b:Gu,JI b→R [arg (Dy b)] [] (B (!Hg b)) []
theorem AoE (D:Dn) (hX:R6 (D AgD)):Ru (Body D LM):=by
 intro b hb
 simp -implicitDefEqProofs
 refine Aa (hX b hb) ?_
 simp -implicitDefEqProofs
theorem Ajc {α:Type} (p:α→Bool) (xs:List α):(xs.any fun x=> !p x)= !xs.all p:=by rw[List.all_eq_not_any_not];simp
theorem Aof (D:Dn) (hA:BA (D FX)) (hT:M6 (D Aas)) (hH:Mt (D NS)) (h1:Ru (D R4)) (hC:IK D (D Ff)) (hI:Qo (D BB)):Fb (Body D OT):=by
 intro e hl
 obtain⟨hl1,hl2,hl3⟩:=hl
 simp -implicitDefEqProofs
 refine Aa (hA _ hl1) ?_
 by_cases g1:AU e.versions=true
 rotate_left
 ·simp -implicitDefEqProofs [g1,Ay]
 by_cases g2:e.tags.length≤5
 rotate_left
 ·have g2':¬(e.tags.length:Int)≤5:=by omega
  simp -implicitDefEqProofs [g1,g2,g2',Ay]
 have g2':(e.tags.length:Int)≤5:=by omega
 simp -implicitDefEqProofs [g1,g2']
 refine Aa (hT _ hl2) ?_
 by_cases g4:Gf e.tags=true
 rotate_left
 ·simp -implicitDefEqProofs [g4,Ay]
 simp -implicitDefEqProofs [g4]
 refine Aa (hH _ hl2) ?_
 by_cases g5:e.tags.any Au=true
 ·have e0:Ay e=false:=by unfold Ay;rw[g5];simp
  generalize e.tags.any Au=q at g5
  subst g5
  simp -implicitDefEqProofs [e0]
 have g5':e.tags.any Au=false:=by simpa using g5
 have ee:Ay e=(decide (e.path.length≤4)&&(e.path.all Hg&&decide (Pv e.cls 0 5))):=by unfold Ay;rw[g5',g1,g4];simp[g2]
 rw[ee]
 generalize e.tags.any Au=q at g5'
 subst g5'
 by_cases g3:e.path.length≤4
 rotate_left
 ·have g3':¬(e.path.length:Int)≤4:=by omega
  simp -implicitDefEqProofs [g3,g3']
 have g3':(e.path.length:Int)≤4:=by omega
 simp -implicitDefEqProofs [g3,g3']
 refine Aa (hC e.path R4 [] (fun b=> !Hg b) hl3.1 E5 (fun j hj=>h1 e.path[j] (hl3.2 j hj))) ?_
 rw[Ajc]
 generalize e.path.all Hg=q
 by_cases g6:q=true
 rotate_left
 ·simp -implicitDefEqProofs [g6]
 simp -implicitDefEqProofs [g6]
 refine Aa (hI _ _ _) ?_
 simp -implicitDefEqProofs
theorem AHC {b:Gu} (h:JS b≤4194304):JI b:=by
 unfold JS at h
 exact⟨by unfold Uo maxLen;omega,by unfold Uo maxLen;omega⟩
theorem AFB {p:List Gu} (h:Cu JS p≤4194304):lnS JI p:=
 ⟨by have:=K6 (f:=JS) (xs:=p);unfold maxLen;omega,fun j hj=>AHC (by have:=size_at (f:=JS) hj;omega)⟩
theorem Abs {e:Aq} (h:Ar e≤4194304):AkQ e:=by
 unfold Ar at h
 exact⟨by unfold Uo maxLen;omega,by unfold Uo maxLen;omega,AFB (by omega)⟩
theorem Vw {w:World} (h:Af w≤4194304) {n:Nat} (hn:n<w.ends.length):Ar w.ends[n]≤4194304:=by
 have:=size_at (f:=Ar) hn
 have:=(Ms h).2.2.1
 omega
theorem Zf {e:Aq} (h:Ar e≤4194304):e.versions.length≤4194304:=by unfold Ar at h;omega
theorem Auv (path:List Gu) (vs:List Int):(Bo path vs).length≤vs.length:=by
 unfold Bo
 split
 ·exact List.length_filter_le _ _
 ·simp
end Go.Eng.T
namespace Go.Eng.T
set_option maxRecDepth 20000
set_option maxHeartbeats 2000000
abbrev Np (D:Dn) (R:Rel):Prop:=∀(xs:List (List Int)) (g:Nat) (caps:List V) (p:List Int→Bool),xs.length≤maxLen→KD caps→(∀(j:Nat) (h:j<xs.length),D g (.sl 1 1 xs[j].length (ints xs[j])::caps) [] (B (p xs[j])) [])→R [H8 xs,.fn g caps] [] (I (GR p xs 0)) []
theorem AiV (D:Dn):Np D (Body D EM):=by
 intro xs g caps p hl hc hp
 unfold maxLen at hl
 simp -implicitDefEqProofs
 refine Ad (fun k s=>∃j,j+k=xs.length∧GR p xs 0=GR p (xs.drop j) j∧s=⟨[H8 xs,.fn g caps,.undef,.undef,I xs.length,I j,.undef,.undef],[]⟩) ?_ (xs.length) _ ⟨0,by simp,by simp,by simp⟩
 intro k s ⟨j,hj,hi,hs⟩
 subst hs
 by_cases hjn:j<xs.length
 ·have hw:IntKind.i64.wrap ((j:Int)+1)=(j+1:Nat):=by rw[Ab (by omega) (by omega)];simp
  rw[OM hjn]at hi
  simp -implicitDefEqProofs [hjn,hc.1,hc.2.1]
  refine Aa (hp j hjn) ?_
  by_cases he:p xs[j]=true
  ·rw[if_pos he]at hi
   simp -implicitDefEqProofs [he,hi]
  ·rw[if_neg he]at hi
   simp -implicitDefEqProofs [he]
   exact⟨k-1,by omega,j+1,by omega,by simpa using hi,by simp[hw]⟩
 ·rw[Ta (by omega)]at hi
  simp -implicitDefEqProofs [hjn,hi]
abbrev Ig (D:Dn) (R:Rel):Prop:=∀(xs:List (List Int)) (g:Nat) (caps:List V) (p:List Int→Bool),xs.length≤maxLen→KD caps→(∀(j:Nat) (h:j<xs.length),D g (.sl 1 1 xs[j].length (ints xs[j])::caps) [] (B (p xs[j])) [])→R [H8 xs,.fn g caps] [] (B (xs.any p)) []
theorem Aa8 (D:Dn) (hI:Np D (D NH)):Ig D (Body D Em):=by
 intro xs g caps p hl hc hp
 simp -implicitDefEqProofs [hc.2.2]
 refine Aa (hI xs g caps p hl hc hp) ?_
 have e:decide (0≤GR p xs 0)=xs.any p:=by rw[Bool.eq_iff_iff];simp only[decide_eq_true_eq];rw[RH (by omega)]
 simp -implicitDefEqProofs [e]
def Nc (k:Int):Bool:=decide (Pv k 1 2147483646)
abbrev Jm (R:Rel):Prop:=∀k:Int,R [I k] [] (B (Nc k)) []
theorem Atl (D:Dn) (hI:Qo (D BF)):Jm (Body D OD):=by
 intro k
 simp -implicitDefEqProofs
 refine Aa (hI _ _ _) ?_
 simp -implicitDefEqProofs [Nc]
theorem AuL (D:Dn) (hI:Qo (D BB)):Jm (Body D OG):=by
 intro k
 simp -implicitDefEqProofs
 refine Aa (hI _ _ _) ?_
 simp -implicitDefEqProofs [Nc]
end Go.Eng.T
namespace Go.Eng.T
set_option maxRecDepth 20000
set_option maxHeartbeats 1000000
def FI:List Int→Int→Nat
 | [],_=>0
 | x::r,v=>if x<v then FI r v+1 else 0
theorem ArM:∀(l:List Int) (v:Int),FI l v≤l.length
 | [],_=>Nat.le_refl 0
 | x::r,v=>by
  have:=ArM r v
  simp only[FI,List.length_cons]
  split<;>omega
theorem Apf {l:List Int} {v:Int} {j:Nat} (h:j<l.length) (hv:¬l[j]<v):FI (l.drop j) v=0:=by
 rw[List.drop_eq_getElem_cons h]
 simp only[FI,if_neg hv]
def Abl (l:List Int) (i:Nat) (v:Int):List Int:=l.take i++v::l.drop i
theorem At7 {l:List Int} {i:Nat} {v:Int} (h:i≤l.length):(Abl l i v).length=l.length+1:=by simp[Abl];omega
def F3 (l:List Int) (v:Int):List Int:=if l[FI l v]? =some v then l else Abl l (FI l v) v
theorem VI (l:List Int) (v:Int):(F3 l v).length≤l.length+1:=by
 unfold F3
 split
 ·omega
 ·rw[At7 (ArM l v)];omega
end Go.Eng.T
namespace Go.Eng.T
set_option maxRecDepth 20000
set_option maxHeartbeats 1000000
def Aef {α:Type} (f:α→α) (xs:List α) (j:Nat):List α:=(xs.take j).map f++xs.drop j
section
variable {α:Type} {f:α→α} {xs:List α} {j:Nat}
@[simp] theorem AB9 (h:j≤xs.length):(Aef f xs j).length=xs.length:=by simp[Aef];omega
end
end Go.Eng.T
namespace Go.Eng.T
end Go.Eng.T
namespace Go.Eng.T
set_option maxRecDepth 20000
set_option maxHeartbeats 2000000
def TT {α:Type} (f:Nat→α→α) (xs:List α) (j:Nat):List α:=xs.mapIdx fun i x=>if i<j then f i x else x
section
variable {α:Type} {f:Nat→α→α} {xs:List α} {j:Nat}
@[simp] theorem AfC:(TT f xs j).length=xs.length:=by simp[TT]
end
def Jl (w:World) (i:Nat) (e:Aq):Aq:=if isIn w.rollout i w.ends.length=true then⟨F3 e.versions w.rollout.version,e.tags,e.path,e.cls⟩else e
def PK (w:World):Bool:=A8 w.rollout&& !w.rollout.off
def enter (w:World):World:=if PK w=true then {w with ends:=w.ends.mapIdx (Jl w),stage:=[],reached:=max w.reached (w.rollout.pos+1)}else w
abbrev Aup (R:Rel):Prop:=∀a b:Int,R [I a,I b] [] (I (max a b)) []
abbrev Axz (R:Rel):Prop:=∀a b:Int,R [I a,I b] [] (I (min a b)) []
theorem AHU (D:Dn):Aup (Body D AfM):=by
 intro a b
 by_cases h:a<b
 ·have e:max a b=b:=by omega
  simp -implicitDefEqProofs [h,e]
 ·have e:max a b=a:=by omega
  simp -implicitDefEqProofs [h,e]
theorem AHM (D:Dn):Axz (Body D AeO):=by
 intro a b
 by_cases h:a<b
 ·have e:min a b=a:=by omega
  simp -implicitDefEqProofs [h,e]
  intro;omega
 ·have e:min a b=b:=by omega
  simp -implicitDefEqProofs [h,e]
  intro;omega
end Go.Eng.T
namespace Go.Eng.T
set_option maxRecDepth 20000
set_option maxHeartbeats 1000000
def Vh (p q:Int):Int:=if Po q 1 1000000000000 then(p.tmod q+q).tmod q else 0
abbrev Aol (R:Rel):Prop:=∀p q:Int,R [I p,I q] [] (I (Vh p q)) []
theorem Arx (p:Int) {q:Int} (h:1≤q):-q<p.tmod q∧p.tmod q<q:=by
 have h1:=Int.tmod_lt_of_pos p (show 0<q by omega)
 have h2:=Int.lt_tmod_of_pos p (show 0<q by omega)
 omega
theorem AG2 (D:Dn) (hI:Qo (D BF)):Aol (Body D AfO):=by
 intro p q
 simp -implicitDefEqProofs
 refine Aa (hI _ _ _) ?_
 by_cases h:Po q 1 1000000000000
 rotate_left
 ·simp -implicitDefEqProofs [h,Vh]
 have h0:¬q=0:=by omega
 have hb:=Arx p (q:=q) (by omega)
 have hw:IntKind.i64.wrap (p.tmod q+q)=p.tmod q+q:=Ab (by omega) (by omega)
 have e:Vh p q=(p.tmod q+q).tmod q:=by unfold Vh;rw[if_pos h]
 simp -implicitDefEqProofs [h,h0,hw,e]
theorem AGY (D:Dn) (hI:Qo (D BB)):Aol (Body D Afo):=by
 intro p q
 simp -implicitDefEqProofs
 refine Aa (hI _ _ _) ?_
 by_cases h:Po q 1 1000000000000
 rotate_left
 ·simp -implicitDefEqProofs [h,Vh]
 have h0:¬q=0:=by omega
 have hb:=Arx p (q:=q) (by omega)
 have hw:IntKind.i64.wrap (p.tmod q+q)=p.tmod q+q:=Ab (by omega) (by omega)
 have e:Vh p q=(p.tmod q+q).tmod q:=by unfold Vh;rw[if_pos h]
 simp -implicitDefEqProofs [h,h0,hw,e]
theorem Ajl (p:Int) {q:Int} (h:Po q 1 1000000000000):0≤Vh p q∧Vh p q<q:=by
 unfold Vh
 rw[if_pos h]
 have hb:=Arx p (q:=q) (by omega)
 have h1:=Int.tmod_nonneg q (show 0≤p.tmod q+q by omega)
 have h2:=Int.tmod_lt_of_pos (p.tmod q+q) (show 0<q by omega)
 exact⟨h1,h2⟩
def QI (s v:Int):Int:=(s*1000003+Vh v 2147483647+13).tmod 2147483647
def hash (xs:List Int):Int:=xs.foldl QI 11
abbrev Xu (R:Rel):Prop:=∀xs:List Int,xs.length≤maxLen→R [.sl 1 1 xs.length (ints xs)] [] (I (hash xs)) []
theorem Azm {s v:Int} (h:0≤s):0≤QI s v∧QI s v<2147483647:=by
 have hm:=Ajl v (q:=2147483647) ⟨by omega,by omega⟩
 unfold QI
 exact⟨Int.tmod_nonneg _ (by omega),Int.tmod_lt_of_pos _ (by omega)⟩
theorem AoS {α:Type} {f:α→Int→α} {xs:List Int} {j:Nat} {a:α} (h:j<xs.length):(xs.take (j+1)).foldl f a=f ((xs.take j).foldl f a) xs[j]:=by
 have e:xs.take (j+1)=xs.take j++ [xs[j]]:=by simp
 rw[e,List.foldl_append];rfl
theorem Arz:∀(xs:List Int) {a:Int},0≤a→a<2147483647→0≤xs.foldl QI a∧xs.foldl QI a<2147483647
 | [],a,h1,h2=>⟨h1,h2⟩
 | x::xs,a,h1,h2=>by
  have:=Azm (s:=a) (v:=x) h1
  exact Arz xs this.1 this.2
theorem AE3 (D:Dn) (hM:Aol (D Apq)):Xu (Body D AbQ):=by
 intro xs hl
 unfold maxLen at hl
 simp -implicitDefEqProofs
 refine Ad (fun k s=>∃j,j+k=xs.length∧s=⟨[.sl 1 1 xs.length (ints xs),.undef,I ((xs.take j).foldl QI 11),I j,.undef],[]⟩) ?_ (xs.length) _ ⟨0,by simp,by simp⟩
 intro k s ⟨j,hj,hs⟩
 subst hs
 by_cases hjn:j<xs.length
 ·have hw:IntKind.i64.wrap ((j:Int)+1)=(j+1:Nat):=by rw[Ab (by omega) (by omega)];simp
  have hst:=AoS (f:=QI) (a:=(11:Int)) hjn
  have hb:=Arz (xs.take j) (a:=11) (by omega) (by omega)
  generalize(xs.take j).foldl QI 11=s at hst hb
  have hm:=Ajl xs[j] (q:=2147483647) ⟨by omega,by omega⟩
  have w1:IntKind.i64.wrap (s*1000003)=s*1000003:=Ab (by omega) (by omega)
  have w2:IntKind.i64.wrap (s*1000003+Vh xs[j] 2147483647)=s*1000003+Vh xs[j] 2147483647:=Ab (by omega) (by omega)
  have w3:IntKind.i64.wrap (s*1000003+Vh xs[j] 2147483647+13)=s*1000003+Vh xs[j] 2147483647+13:=Ab (by omega) (by omega)
  simp -implicitDefEqProofs [hjn,w1]
  refine Aa (hM _ _) ?_
  simp -implicitDefEqProofs [w1,w2,w3]
  exact⟨k-1,by omega,j+1,by omega,by rw[hst];rfl,by simp[hw]⟩
 ·have e:xs.take j=xs:=List.take_of_length_le (by omega)
  simp -implicitDefEqProofs [hjn,e,hash]
theorem AFK (D:Dn) (hM:Aol (D ApC)):Xu (Body D Abp):=by
 intro xs hl
 unfold maxLen at hl
 simp -implicitDefEqProofs
 refine Ad (fun k s=>∃j,j+k=xs.length∧s=⟨[.undef,.undef,I ((xs.take j).foldl QI 11),.undef,.sl 1 1 xs.length (ints xs),I xs.length,I j,.undef],[]⟩) ?_ (xs.length) _ ⟨0,by simp,by simp⟩
 intro k s ⟨j,hj,hs⟩
 subst hs
 by_cases hjn:j<xs.length
 ·have hw:IntKind.i64.wrap ((j:Int)+1)=(j+1:Nat):=by rw[Ab (by omega) (by omega)];simp
  have hst:=AoS (f:=QI) (a:=(11:Int)) hjn
  have hb:=Arz (xs.take j) (a:=11) (by omega) (by omega)
  generalize(xs.take j).foldl QI 11=s at hst hb
  have hm:=Ajl xs[j] (q:=2147483647) ⟨by omega,by omega⟩
  have w1:IntKind.i64.wrap (s*1000003)=s*1000003:=Ab (by omega) (by omega)
  have w2:IntKind.i64.wrap (s*1000003+Vh xs[j] 2147483647)=s*1000003+Vh xs[j] 2147483647:=Ab (by omega) (by omega)
  have w3:IntKind.i64.wrap (s*1000003+Vh xs[j] 2147483647+13)=s*1000003+Vh xs[j] 2147483647+13:=Ab (by omega) (by omega)
  simp -implicitDefEqProofs [hjn,w1]
  refine Aa (hM _ _) ?_
  simp -implicitDefEqProofs [w1,w2,w3]
  exact⟨k-1,by omega,j+1,by omega,by rw[hst];rfl,by simp[hw]⟩
 ·have e:xs.take j=xs:=List.take_of_length_le (by omega)
  simp -implicitDefEqProofs [hjn,e,hash]
def keyed (k:Int) (xs:List Int):Int:=hash (k::xs++ [k])
abbrev Y1 (R:Rel):Prop:=∀(k:Int) (xs:List Int),xs.length≤4194304→R [I k,.sl 1 1 xs.length (ints xs)] [] (I (keyed k xs)) []
theorem Oe (a:Int) (xs:List Int):V.sc (.int .i64 a)::ints xs=ints (a::xs):=rfl
theorem AB6 (D:Dn) (hH:Xu (D Abm)):Y1 (Body D Qy):=by
 intro k xs hl
 have b1:(1+xs.length)*8≤1099511627776:=by omega
 have b2:(1+xs.length+1)*8≤1099511627776:=by omega
 have hlen:(k::xs++ [k]).length=1+xs.length+1:=by simp;omega
 simp -implicitDefEqProofs [b1,b2]
 have hh:=hH (k::xs++ [k]) (by unfold maxLen;omega)
 rw[hlen]at hh
 simp -implicitDefEqProofs [Oe]at hh
 simp -implicitDefEqProofs [Oe]
 refine Aa (hh) ?_
 simp -implicitDefEqProofs [keyed]
def pick (seed p n:Int):Int:=if n<1 then 0 else Vh (hash [seed,p]) n
abbrev AaA (R:Rel):Prop:=∀seed p n:Int,R [I seed,I p,I n] [] (I (pick seed p n)) []
theorem AFI (D:Dn) (hH:Xu (D Abm)) (hM:Aol (D Apq)):AaA (Body D V3):=by
 intro seed p n
 by_cases h:n<1
 ·simp -implicitDefEqProofs [h,pick]
 simp -implicitDefEqProofs [h]
 refine Aa (hH [seed,p] (by unfold maxLen;simp)) ?_
 simp -implicitDefEqProofs
 refine Aa (hM _ _) ?_
 simp -implicitDefEqProofs [pick,h]
theorem AFY (D:Dn) (hH:Xu (D AaU)) (hM:Aol (D ApC)):AaA (Body D V4):=by
 intro seed p n
 by_cases h:n<1
 ·simp -implicitDefEqProofs [h,pick]
 simp -implicitDefEqProofs [h]
 refine Aa (hH [seed,p] (by unfold maxLen;simp)) ?_
 simp -implicitDefEqProofs
 refine Aa (hM _ _) ?_
 simp -implicitDefEqProofs [pick,h]
theorem TR (seed p:Int) {n:Int} (h:Po n 1 1000000000000):0≤pick seed p n∧pick seed p n<n:=by
 unfold pick
 rw[if_neg (by omega)]
 exact Ajl _ h
def Oq (seed:Int):Int:=16*pick seed 0 16+10
abbrev Ke (R:Rel):Prop:=∀seed:Int,R [I seed] [] (I (Oq seed)) []
theorem AqW (D:Dn) (hP:AaA (D Ac3)):Ke (Body D Qu):=by
 intro seed
 simp -implicitDefEqProofs
 refine Aa (hP _ _ _) ?_
 have hb:=TR seed 0 (n:=16) ⟨by omega,by omega⟩
 have w1:IntKind.i64.wrap (16*pick seed 0 16)=16*pick seed 0 16:=Ab (by omega) (by omega)
 have w2:IntKind.i64.wrap (16*pick seed 0 16+10)=16*pick seed 0 16+10:=Ab (by omega) (by omega)
 simp -implicitDefEqProofs [w1,w2,Oq]
theorem Aru (D:Dn) (hP:AaA (D AcB)):Ke (Body D Rc):=by
 intro seed
 simp -implicitDefEqProofs
 refine Aa (hP _ _ _) ?_
 have hb:=TR seed 0 (n:=16) ⟨by omega,by omega⟩
 have w1:IntKind.i64.wrap (16*pick seed 0 16)=16*pick seed 0 16:=Ab (by omega) (by omega)
 have w2:IntKind.i64.wrap (16*pick seed 0 16+10)=16*pick seed 0 16+10:=Ab (by omega) (by omega)
 simp -implicitDefEqProofs [w1,w2,Oq]
def Kw (ls:List (List Int)):Bool:=decide (ls.length≤12)&&ls.all fun l=>allIn l 0 255
abbrev KX (R:Rel):Prop:=∀ls:List (List Int),G5 ls≤4194304→R [H8 ls] [] (B (Kw ls)) []
theorem Avw (D:Dn) (hB:Zo (D WU)):KX (Body D L8):=by
 intro ls hl
 have hll:=JM (xs:=ls)
 simp -implicitDefEqProofs
 refine Ad (fun k s=>∃j,j+k=ls.length∧(ls.take j).all (fun l=>allIn l 0 255)=true∧s=⟨[H8 ls,.undef,I j,.undef,.undef],[]⟩) ?_ (ls.length) _ ⟨0,by simp,by simp,by simp⟩
 intro k s ⟨j,hj,hp,hs⟩
 subst hs
 by_cases hjn:j<ls.length
 ·have hw:IntKind.i64.wrap ((j:Int)+1)=(j+1:Nat):=by rw[Ab (by omega) (by omega)];simp
  have hst:=Yw (p:=fun l=>allIn l 0 255) hjn
  rw[hp,Bool.true_and]at hst
  have hra:=TB hjn
  simp -implicitDefEqProofs [hjn]
  refine Aa (hB _ (by unfold maxLen;omega)) ?_
  by_cases h1:allIn ls[j] 0 255=true
  ·simp -implicitDefEqProofs [h1]
   exact⟨k-1,by omega,j+1,by omega,by simpa using hst.trans h1,by simp[hw]⟩
  ·have e:Kw ls=false:=by unfold Kw;rw[Vm hjn (by simpa using h1)];simp
   simp -implicitDefEqProofs [h1,e]
 ·have e:Kw ls=decide (ls.length≤12):=by unfold Kw;rw[←Ack (j:=j) (by omega),hp];simp
  by_cases h5:ls.length≤12
  ·have h5':(ls.length:Int)≤12:=by omega
   simp -implicitDefEqProofs [hjn,e,h5,h5']
  ·have h5':¬(ls.length:Int)≤12:=by omega
   simp -implicitDefEqProofs [hjn,e,h5,h5']
abbrev Zw (R:Rel):Prop:=∀l:List Int,l.length≤maxLen→R [.sl 1 1 l.length (ints l)] [] (B (!allIn l 0 255)) []
theorem AwK (D:Dn) (hN:JN (D Ky)):Zw (Body D J8):=by
 intro l hl
 simp -implicitDefEqProofs
 refine Aa (hN _ _ _ hl) ?_
 simp -implicitDefEqProofs
theorem Axe (D:Dn) (h1':Zw (D Px)) (hC:Ig D (D GI)):KX (Body D LH):=by
 intro ls hl
 have hll:=JM (xs:=ls)
 by_cases h5:ls.length≤12
 rotate_left
 ·have h5':¬(ls.length:Int)≤12:=by omega
  simp -implicitDefEqProofs [h5',h5,Kw]
 have h5':(ls.length:Int)≤12:=by omega
 simp -implicitDefEqProofs [h5']
 refine Aa (hC ls Px [] (fun l=> !allIn l 0 255) (by unfold maxLen;omega) E5 (fun j hj=>h1' ls[j] (by have:=TB hj;unfold maxLen;omega))) ?_
 rw[Ajc]
 generalize hq:(ls.all fun l=>allIn l 0 255)=q
 simp -implicitDefEqProofs [Kw,h5,hq]
def RG (x:Int) (b:List Int):Int:=hash (x::(b.length:Int)::b)
def Jr (ls:List (List Int)):Int:=if Kw ls=true then ls.foldl RG 1 else 0
abbrev J5 (R:Rel):Prop:=∀ls:List (List Int),G5 ls≤4194304→R [H8 ls] [] (I (Jr ls)) []
theorem AlO {α β:Type} {f:α→β→α} {xs:List β} {j:Nat} {a:α} (h:j<xs.length):(xs.take (j+1)).foldl f a=f ((xs.take j).foldl f a) xs[j]:=by
 have e:xs.take (j+1)=xs.take j++ [xs[j]]:=by simp
 rw[e,List.foldl_append];rfl
theorem ApU (D:Dn) (hT:KX (D Tm)) (hH:Xu (D Abm)):J5 (Body D J2):=by
 intro ls hl
 have hll:=JM (xs:=ls)
 simp -implicitDefEqProofs
 refine Aa (hT ls hl) ?_
 by_cases h1:Kw ls=true
 rotate_left
 ·simp -implicitDefEqProofs [h1,Jr]
 simp -implicitDefEqProofs [h1]
 refine Ad (fun k s=>∃j o0 o1,j+k=ls.length∧s=⟨[H8 ls,.undef,I ((ls.take j).foldl RG 1),I j,.undef,.undef],[o0,o1]⟩) ?_ (ls.length) _ ⟨0,.free,.free,by simp,by simp⟩
 intro k s ⟨j,o0,o1,hj,hs⟩
 subst hs
 by_cases hjn:j<ls.length
 ·have hw:IntKind.i64.wrap ((j:Int)+1)=(j+1:Nat):=by rw[Ab (by omega) (by omega)];simp
  have hst:=AlO (f:=RG) (a:=(1:Int)) hjn
  have hra:=TB hjn
  have b1:(2+ls[j].length)*8≤1099511627776:=by omega
  generalize(ls.take j).foldl RG 1=x at hst
  have hh:=hH (x::(ls[j].length:Int)::ls[j]) (by unfold maxLen;simp;omega)
  have hlen:(x::(ls[j].length:Int)::ls[j]).length=2+ls[j].length:=by simp;omega
  rw[hlen]at hh
  simp only[←Oe]at hh
  simp -implicitDefEqProofs [hjn,b1]
  refine Aa (hh) ?_
  simp -implicitDefEqProofs
  exact⟨k-1,by omega,j+1,by omega,by rw[hst];rfl,by simp[hw]⟩
 ·have e:ls.take j=ls:=List.take_of_length_le (by omega)
  have e2:Jr ls=ls.foldl RG 1:=by unfold Jr;rw[if_pos h1]
  simp -implicitDefEqProofs [hjn,e,e2]
theorem Aqe (D:Dn) (hT:KX (D SY)) (hH:Xu (D AaU)):J5 (Body D Ki):=by
 intro ls hl
 have hll:=JM (xs:=ls)
 simp -implicitDefEqProofs
 refine Aa (hT ls hl) ?_
 by_cases h1:Kw ls=true
 rotate_left
 ·simp -implicitDefEqProofs [h1,Jr]
 simp -implicitDefEqProofs [h1]
 refine Ad (fun k s=>∃j o0 o1,j+k=ls.length∧s=⟨[.undef,.undef,I ((ls.take j).foldl RG 1),.undef,.undef,H8 ls,I ls.length,I j,.undef],[o0,o1]⟩) ?_ (ls.length) _ ⟨0,.free,.free,by simp,by simp⟩
 intro k s ⟨j,o0,o1,hj,hs⟩
 subst hs
 by_cases hjn:j<ls.length
 ·have hw:IntKind.i64.wrap ((j:Int)+1)=(j+1:Nat):=by rw[Ab (by omega) (by omega)];simp
  have hst:=AlO (f:=RG) (a:=(1:Int)) hjn
  have hra:=TB hjn
  have b1:(2+ls[j].length)*8≤1099511627776:=by omega
  generalize(ls.take j).foldl RG 1=x at hst
  have hh:=hH (x::(ls[j].length:Int)::ls[j]) (by unfold maxLen;simp;omega)
  have hlen:(x::(ls[j].length:Int)::ls[j]).length=2+ls[j].length:=by simp;omega
  rw[hlen]at hh
  simp only[←Oe]at hh
  simp -implicitDefEqProofs [hjn,b1]
  refine Aa (hh) ?_
  simp -implicitDefEqProofs
  exact⟨k-1,by omega,j+1,by omega,by rw[hst];rfl,by simp[hw]⟩
 ·have e:ls.take j=ls:=List.take_of_length_le (by omega)
  have e2:Jr ls=ls.foldl RG 1:=by unfold Jr;rw[if_pos h1]
  simp -implicitDefEqProofs [hjn,e,e2]
def Dj (k:Int) (ls:List (List Int)) (side:Int):Int:=if Nc k&&(Kw ls&&decide (Po side 0 1))then keyed k [side,Jr ls]else 0
abbrev RF (R:Rel):Prop:=∀(k:Int) (ls:List (List Int)) (side:Int),G5 ls≤4194304→R [I k,H8 ls,I side] [] (I (Dj k ls side)) []
theorem AAy (D:Dn) (hV:Jm (D VS)) (hT:KX (D Tm)) (hI:Qo (D BF)) (hH:J5 (D X7)) (hK:Y1 (D AhQ)):RF (Body D RZ):=by
 intro k ls side hl
 simp -implicitDefEqProofs
 refine Aa (hV k) ?_
 by_cases h1:Nc k=true
 rotate_left
 ·simp -implicitDefEqProofs [h1,Dj]
 simp -implicitDefEqProofs [h1]
 refine Aa (hT ls hl) ?_
 by_cases h2:Kw ls=true
 rotate_left
 ·simp -implicitDefEqProofs [h2,Dj]
 simp -implicitDefEqProofs [h2]
 refine Aa (hI _ _ _) ?_
 by_cases h3:Po side 0 1
 rotate_left
 ·simp -implicitDefEqProofs [h3,Dj]
 simp -implicitDefEqProofs [h3]
 refine Aa (hH ls hl) ?_
 simp -implicitDefEqProofs
 refine Aa (hK k [side,Jr ls] (by simp)) ?_
 simp -implicitDefEqProofs [Dj,h1,h2,h3]
theorem AAf (D:Dn) (hV:Jm (D Vs)) (hT:KX (D SY)) (hI:Qo (D BB)) (hH:J5 (D YW)) (hK:Y1 (D Air)):RF (Body D S9):=by
 intro k ls side hl
 simp -implicitDefEqProofs
 refine Aa (hV k) ?_
 by_cases h1:Nc k=true
 rotate_left
 ·simp -implicitDefEqProofs [h1,Dj]
 simp -implicitDefEqProofs [h1]
 refine Aa (hT ls hl) ?_
 by_cases h2:Kw ls=true
 rotate_left
 ·simp -implicitDefEqProofs [h2,Dj]
 simp -implicitDefEqProofs [h2]
 refine Aa (hI _ _ _) ?_
 by_cases h3:Po side 0 1
 rotate_left
 ·simp -implicitDefEqProofs [h3,Dj]
 simp -implicitDefEqProofs [h3]
 refine Aa (hH ls hl) ?_
 simp -implicitDefEqProofs
 refine Aa (hK k [side,Jr ls] (by simp)) ?_
 simp -implicitDefEqProofs [Dj,h1,h2,h3]
def RS (k:Int) (ls:List (List Int)) (side f:Int):Bool:= !decide (f=0)&&decide (f=Dj k ls side)
abbrev WA (R:Rel):Prop:=∀(k:Int) (ls:List (List Int)) (side f:Int),G5 ls≤4194304→R [I k,H8 ls,I side,I f] [] (B (RS k ls side f)) []
theorem Arv (D:Dn) (hF:RF (D Yl)):WA (Body D Qn):=by
 intro k ls side f hl
 by_cases h0:f=0
 ·simp -implicitDefEqProofs [h0,RS]
 simp -implicitDefEqProofs [h0]
 refine Aa (hF k ls side hl) ?_
 simp -implicitDefEqProofs [RS,h0,AdV]
end Go.Eng.T
namespace Go.Eng.T
set_option maxRecDepth 20000
set_option maxHeartbeats 1000000
theorem Zc {l:List Ext} (h:EK l=true):l.length≤6:=by
 unfold EK at h
 simp only[Bool.and_eq_true,decide_eq_true_eq]at h
 exact h.2
theorem AE5 {l:List Ext} (h:EK l=true) {j:Nat} (hj:j<l.length):Wz l j=true:=by
 unfold EK at h
 simp only[Bool.and_eq_true]at h
 exact Apv.1 h.1 j hj
theorem AbF {l:List Ext} (h:EK l=true) {j:Nat} (hj:j<l.length):l[j].body.length≤4:=by
 have:=AE5 h hj
 rw[Ae6 hj]at this
 unfold X5 at this
 simp only[Bool.and_eq_true,decide_eq_true_eq]at this
 exact this.1.2.1
def AIr (x:Ext):List Int:=x.tag::(x.body.length:Int)::x.body
def NN (l:List Ext) (j:Nat):List Int:=(l.length:Int)::(l.take j).flatMap AIr
theorem AaR {l:List Ext} {j:Nat} (h:j<l.length):NN l (j+1)=NN l j++([l[j].tag,(l[j].body.length:Int)]++l[j].body):=by
 have e:l.take (j+1)=l.take j++ [l[j]]:=by simp
 unfold NN
 rw[e,List.flatMap_append]
 simp[AIr]
theorem Zh {l:List Ext} (h:EK l=true):∀j,j≤l.length→(NN l j).length≤1+6*j
 | 0,_=>by simp[NN]
 | j+1,hj=>by
  have ih:=Zh h j (by omega)
  have hb:=AbF h (j:=j) (by omega)
  rw[AaR (by omega)]
  simp only[List.length_append,List.length_cons,List.length_nil]
  omega
def ES (l:List Ext):List Int×Bool:=if EK l=true then(NN l l.length,true)else([],false)
abbrev Gq (R:Rel):Prop:=∀l:List Ext,UY l→R [.sl 1 2 l.length (l.flatMap Bw)] [] (.tup [.sl 0 1 (ES l).1.length (ints (ES l).1),B (ES l).2]) []
theorem AoL (D:Dn) (hA:Gc (D KW)):Gq (Body D Ox):=by
 intro l hl
 have hll:=hl.1
 simp -implicitDefEqProofs
 refine Aa (hA l hl) ?_
 by_cases h1:EK l=true
 rotate_left
 ·have e:ES l=([],false):=by unfold ES;rw[if_neg h1]
  simp -implicitDefEqProofs [h1,e]
 simp -implicitDefEqProofs [h1]
 refine Ad (fun k s=>∃j o2 o3 o4,j+k=l.length∧s=⟨[.sl 1 2 l.length (l.flatMap Bw),.undef,.undef,.arr 5,I j,.undef,.undef],[.free,.free,o2,o3,o4,.arr 1 0 (NN l j).length (ints (NN l j))]⟩) ?_ (l.length) _ ⟨0,.free,.free,.free,by simp,by simp[NN,ints]⟩
 intro k s ⟨j,o2,o3,o4,hj,hs⟩
 subst hs
 by_cases hjn:j<l.length
 ·have hw:IntKind.i64.wrap ((j:Int)+1)=(j+1:Nat):=by rw[Ab (by omega) (by omega)];simp
  have hst:=AaR hjn
  have hle:=Zh h1 j (by omega)
  have h6:=Zc h1
  have hb4:=AbF h1 hjn
  have b1:((NN l j).length+2)*8≤1099511627776:=by omega
  have b2:((NN l j).length+2+l[j].body.length)*8≤1099511627776:=by omega
  simp -implicitDefEqProofs [hjn,b1,b2]
  exact⟨k-1,by omega,j+1,by omega,by simp[hw],by rw[hst];simp;omega,by rw[hst];simp[ints]⟩
 ·obtain rfl:j=l.length:=by omega
  have e:ES l=(NN l l.length,true):=by unfold ES;rw[if_pos h1]
  simp -implicitDefEqProofs [e]
theorem Am0 (D:Dn) (hA:Gc (D K9)):Gq (Body D OY):=by
 intro l hl
 have hll:=hl.1
 simp -implicitDefEqProofs
 refine Aa (hA l hl) ?_
 by_cases h1:EK l=true
 rotate_left
 ·have e:ES l=([],false):=by unfold ES;rw[if_neg h1]
  simp -implicitDefEqProofs [h1,e]
 simp -implicitDefEqProofs [h1]
 refine Ad (fun k s=>∃j o1 o2 o3 o4,j+k=l.length∧s=⟨[.undef,.undef,.undef,.arr 5,.undef,.undef,.sl 1 2 l.length (l.flatMap Bw),I l.length,I j,.undef],[.free,o1,o2,o3,o4,.arr 1 0 (NN l j).length (ints (NN l j))]⟩) ?_ (l.length) _ ⟨0,.free,.free,.free,.free,by simp,by simp[NN,ints]⟩
 intro k s ⟨j,o1,o2,o3,o4,hj,hs⟩
 subst hs
 by_cases hjn:j<l.length
 ·have hw:IntKind.i64.wrap ((j:Int)+1)=(j+1:Nat):=by rw[Ab (by omega) (by omega)];simp
  have hst:=AaR hjn
  have hle:=Zh h1 j (by omega)
  have h6:=Zc h1
  have hb4:=AbF h1 hjn
  have b1:((NN l j).length+2)*8≤1099511627776:=by omega
  have b2:((NN l j).length+2+l[j].body.length)*8≤1099511627776:=by omega
  simp -implicitDefEqProofs [hjn,b1,b2]
  exact⟨k-1,by omega,j+1,by omega,by simp[hw],by rw[hst];simp;omega,by rw[hst];simp[ints]⟩
 ·obtain rfl:j=l.length:=by omega
  have e:ES l=(NN l l.length,true):=by unfold ES;rw[if_pos h1]
  simp -implicitDefEqProofs [e]
theorem Mv (l:List Ext):(ES l).1.length≤37:=by
 unfold ES
 split
 ·rename_i h
  have:=Zh h l.length (Nat.le_refl _)
  have:=Zc h
  dsimp only;omega
 ·simp
def Bb (h:Hello):List Int:=if CB h=true then((h.versions.length:Int)::h.versions)++(ES h.exts).1 else []
abbrev IW (R:Rel):Prop:=∀h:Hello,hB h→R [arg (CP h)] [] (.sl 0 1 (Bb h).length (ints (Bb h))) []
theorem AzF {h:Hello} (hh:CB h=true):AU h.versions=true:=by unfold CB at hh;simp only[Bool.and_eq_true]at hh;exact hh.1
theorem AoO (D:Dn) (hI:Eo (D GJ)) (hE:Gq (D Vz)):IW (Body D O9):=by
 intro h hh
 have hv:=hh.1
 simp -implicitDefEqProofs
 refine Aa (hI h hh) ?_
 by_cases h1:CB h=true
 rotate_left
 ·simp -implicitDefEqProofs [h1,Bb]
 have hl:=Mv h.exts
 have e:Bb h=((h.versions.length:Int)::h.versions)++(ES h.exts).1:=by unfold Bb;rw[if_pos h1]
 rw[e]
 simp -implicitDefEqProofs [h1]
 refine Aa (hE h.exts hh.2) ?_
 generalize(ES h.exts).1=r at hl
 have b1:(1+h.versions.length)*8≤1099511627776:=by omega
 have b2:(1+h.versions.length+r.length)*8≤1099511627776:=by omega
 have el:h.versions.length+r.length+1=1+h.versions.length+r.length:=by omega
 simp -implicitDefEqProofs [b1,b2,Oe,Amz,el]
def JL (a:SE):Bool:=decide (InV a.version 1 9)&&EK a.exts
def AJ (a:SE):List Int:=if JL a=true then a.version::(ES a.exts).1 else []
abbrev Jp (R:Rel):Prop:=∀a:SE,UY a.exts→R [arg (Zp a)] [] (B (JL a)) []
theorem AsV (D:Dn) (hI:Qo (D BF)) (hE:Gc (D KW)):Jp (Body D SB):=by
 intro a ha
 simp -implicitDefEqProofs
 refine Aa (hI _ _ _) ?_
 by_cases h1:InV a.version 1 9
 rotate_left
 ·simp -implicitDefEqProofs [h1,JL]
 simp -implicitDefEqProofs [h1]
 refine Aa (hE _ ha) ?_
 simp -implicitDefEqProofs [JL,h1]
theorem AuB (D:Dn) (hI:Qo (D BB)) (hE:Gc (D K9)):Jp (Body D Sk):=by
 intro a ha
 simp -implicitDefEqProofs
 refine Aa (hI _ _ _) ?_
 by_cases h1:InV a.version 1 9
 rotate_left
 ·simp -implicitDefEqProofs [h1,JL]
 simp -implicitDefEqProofs [h1]
 refine Aa (hE _ ha) ?_
 simp -implicitDefEqProofs [JL,h1]
abbrev HV (R:Rel):Prop:=∀a:SE,UY a.exts→R [arg (Zp a)] [] (.sl 0 1 (AJ a).length (ints (AJ a))) []
theorem AhB (a:SE):(AJ a).length≤38:=by
 unfold AJ
 have:=Mv a.exts
 split
 ·simp only[List.length_cons];omega
 ·simp
theorem Ake (D:Dn) (hI:Jp (D YT)) (hE:Gq (D Vz)):HV (Body D MW):=by
 intro a ha
 simp -implicitDefEqProofs
 refine Aa (hI a ha) ?_
 by_cases h1:JL a=true
 rotate_left
 ·have e:AJ a=[]:=by unfold AJ;rw[if_neg h1]
  simp -implicitDefEqProofs [h1,e]
 have hl:=Mv a.exts
 have e:AJ a=a.version::(ES a.exts).1:=by unfold AJ;rw[if_pos h1]
 rw[e]
 simp -implicitDefEqProofs [h1]
 refine Aa (hE a.exts ha) ?_
 generalize(ES a.exts).1=r at hl
 have b2:(1+r.length)*8≤1099511627776:=by omega
 have el:r.length+1=1+r.length:=by omega
 simp -implicitDefEqProofs [b2,Oe,el]
theorem AkG (D:Dn) (hI:Jp (D Yz)) (hE:Gq (D VK)):HV (Body D Nb):=by
 intro a ha
 simp -implicitDefEqProofs
 refine Aa (hI a ha) ?_
 by_cases h1:JL a=true
 rotate_left
 ·have e:AJ a=[]:=by unfold AJ;rw[if_neg h1]
  simp -implicitDefEqProofs [h1,e]
 have hl:=Mv a.exts
 have e:AJ a=a.version::(ES a.exts).1:=by unfold AJ;rw[if_pos h1]
 rw[e]
 simp -implicitDefEqProofs [h1]
 refine Aa (hE a.exts ha) ?_
 generalize(ES a.exts).1=r at hl
 have b2:(1+r.length)*8≤1099511627776:=by omega
 have el:r.length+1=1+r.length:=by omega
 simp -implicitDefEqProofs [b2,Oe,el]
def Am1 (h:Hello) (x:Ext):Bool:=decide (x.tag∈Ap h.exts)&& !Au x.tag
def EH (h:Hello) (a:SE):Bool:=CB h&&(JL a&&(decide (a.version∈h.versions)&&a.exts.all (Am1 h)))
abbrev JW (R:Rel):Prop:=∀(h:Hello) (a:SE),hB h→UY a.exts→R [arg (CP h),arg (Zp a)] [] (B (EH h a)) []
theorem ADT {α:Type} {p:α→Bool} {xs:List α} {i:Int} (h:0≤i):(GR p xs i<0)=¬(xs.any p=true):=by
 have:=RH (p:=p) (xs:=xs) h
 rw[←this]
 exact propext ⟨fun h=>by omega,fun h=>by omega⟩
theorem AFA (l:List Ext) (t:Int):l.any (Hl t)=decide (t∈Ap l):=by
 rw[Bool.eq_iff_iff]
 simp only[List.any_eq_true,decide_eq_true_eq,Ap,List.mem_map,Hl]
theorem Mk (l:List Ext) (t:Int):(JH l t<0)=¬(t∈Ap l):=by
 unfold JH
 rw[ADT (by omega),AFA]
 simp
theorem Aq3 (D:Dn) (hX:Rb (D TJ)) (hR:FL (D Ou)) (hI:Eo (D GJ)) (hA:Jp (D YT)) (hH:PX (D GA)):JW (Body D Rh):=by
 intro h a hh ha
 have hal:=ha.1
 have hxl:=hh.2.1
 have hvl:=hh.1
 simp -implicitDefEqProofs
 refine Ad (fun k s=>∃j,j+k=a.exts.length∧(a.exts.take j).all (Am1 h)=true∧s=⟨[.undef,.undef,.ptr 0 0,.ptr 1 0,.undef,I j,.undef,.undef],[.var ((CP h).map (AL 1)),.var ((Zp a).map (AL 1))]⟩) ?_ (a.exts.length) _ ⟨0,by simp,by simp,by simp⟩
 intro k s ⟨j,hj,hp,hs⟩
 subst hs
 by_cases hjn:j<a.exts.length
 ·have hw:IntKind.i64.wrap ((j:Int)+1)=(j+1:Nat):=by rw[Ab (by omega) (by omega)];simp
  have hst:=Yw (p:=Am1 h) hjn
  rw[hp,Bool.true_and]at hst
  simp -implicitDefEqProofs [hjn]
  refine Aa (hX h.exts _ (by unfold maxLen;omega)) ?_
  by_cases h1:a.exts[j].tag∈Ap h.exts
  rotate_left
  ·have e:EH h a=false:=by unfold EH;rw[Vm hjn (by simp[Am1,h1])];simp
   have h1':JH h.exts a.exts[j].tag<0:=by rw[Mk];exact h1
   simp -implicitDefEqProofs [h1',e]
  have h1':¬JH h.exts a.exts[j].tag<0:=by rw[Mk];simpa using h1
  simp -implicitDefEqProofs [h1',hjn]
  refine Aa (hR _) ?_
  by_cases h2:Au a.exts[j].tag=true
  ·have e:EH h a=false:=by unfold EH;rw[Vm hjn (by simp[Am1,h2])];simp
   simp -implicitDefEqProofs [h2,e]
  ·simp -implicitDefEqProofs [h2]
   exact⟨k-1,by omega,j+1,by omega,by simpa using hst.trans (show Am1 h a.exts[j]=true by simp[Am1,h1,h2]),by simp[hw]⟩
 ·have e:a.exts.all (Am1 h)=true:=by rw[←Ack (j:=j) (by omega),hp]
  simp -implicitDefEqProofs [hjn]
  refine Aa (hI h hh) ?_
  by_cases g1:CB h=true
  rotate_left
  ·simp -implicitDefEqProofs [g1,EH]
  simp -implicitDefEqProofs [g1]
  refine Aa (hA a ha) ?_
  by_cases g2:JL a=true
  rotate_left
  ·simp -implicitDefEqProofs [g2,EH]
  simp -implicitDefEqProofs [g2]
  refine Aa (hH _ _ (by unfold maxLen;omega)) ?_
  have e2:EH h a=decide (a.version∈h.versions):=by unfold EH;rw[e,g1,g2];simp
  simp -implicitDefEqProofs [e2]
abbrev WR (R:Rel):Prop:=∀l:List Ext,l.length≤4194304→R [.sl 1 2 l.length (l.flatMap Bw)] [] (B ((Ap l).any Au)) []
theorem Arw (D:Dn) (hT:Lp (D Rz)) (hH:Mt (D NS)):WR (Body D QC):=by
 intro l hl
 simp -implicitDefEqProofs
 refine Aa (hT l hl) ?_
 simp -implicitDefEqProofs
 refine Aa (hH (Ap l) (by rw[M0];unfold maxLen;omega)) ?_
 generalize(Ap l).any Au=q
 simp -implicitDefEqProofs
theorem AFV (h:Hello) (a:SE):a.exts.all (Am1 h)=(decide (leftOf (Ap a.exts) (Ap h.exts)=[])&& !(Ap a.exts).any Au):=by
 have h1:decide (leftOf (Ap a.exts) (Ap h.exts)=[])=a.exts.all fun x=>decide (x.tag∈Ap h.exts):=by
  rw[Bool.eq_iff_iff,decide_eq_true_eq,List.all_eq_true]
  unfold leftOf
  rw[List.filter_eq_nil_iff]
  constructor
  ·intro hp x hx
   have:=hp x.tag (List.mem_map.2 ⟨x,hx,rfl⟩)
   simpa using this
  ·intro hp v hv
   obtain⟨x,hx,rfl⟩:=List.mem_map.1 hv
   simpa using hp x hx
 have h2:(!(Ap a.exts).any Au)=a.exts.all fun x=> !Au x.tag:=by
  unfold Ap
  rw[List.any_map,List.all_eq_not_any_not]
  simp[Function.comp_def]
 rw[h1,h2]
 generalize a.exts=l
 induction l with
 | nil=>rfl
 | cons x r ih=>
  simp only[List.all_cons,ih,Am1]
  generalize decide (x.tag∈Ap h.exts)=p1
  generalize Au x.tag=p2
  cases p1<;>cases p2<;>simp
theorem Aqq (D:Dn) (hI:Eo (D Im)) (hA:Jp (D Yz)) (hH:PX (D Bq)) (hT:Lp (D Rz)) (hL:Xz (D Ph)) (hG:WR (D Aie)):JW (Body D Qx):=by
 intro h a hh ha
 have hal:=ha.1
 have hxl:=hh.2.1
 have hvl:=hh.1
 simp -implicitDefEqProofs
 refine Aa (hI h hh) ?_
 by_cases g1:CB h=true
 rotate_left
 ·simp -implicitDefEqProofs [g1,EH]
 simp -implicitDefEqProofs [g1]
 refine Aa (hA a ha) ?_
 by_cases g2:JL a=true
 rotate_left
 ·simp -implicitDefEqProofs [g2,EH]
 simp -implicitDefEqProofs [g2]
 refine Aa (hH _ _ (by unfold maxLen;omega)) ?_
 by_cases g3:a.version∈h.versions
 rotate_left
 ·simp -implicitDefEqProofs [g3,EH]
 have e2:EH h a=(decide (leftOf (Ap a.exts) (Ap h.exts)=[])&& !(Ap a.exts).any Au):=by unfold EH;rw[AFV,g1,g2];simp[g3]
 rw[e2]
 simp -implicitDefEqProofs [g3]
 refine Aa (hT a.exts hal) ?_
 simp -implicitDefEqProofs
 refine Aa (hT h.exts hxl) ?_
 simp -implicitDefEqProofs
 refine Aa (hL (Ap a.exts) (Ap h.exts) (by rw[M0];exact hal) (by rw[M0];exact hxl)) ?_
 by_cases g4:leftOf (Ap a.exts) (Ap h.exts)=[]
 rotate_left
 ·simp -implicitDefEqProofs [g4,AdV]
 simp -implicitDefEqProofs [g4,AdV]
 refine Aa (hG a.exts hal) ?_
 generalize(Ap a.exts).any Au=q
 simp -implicitDefEqProofs
def Bh (vs tags:List Int) (h:Hello):SE×Bool:=if CB h&& !decide (Be vs h.versions=0)then(⟨Be vs h.versions,AaQ (Ll h.exts tags)⟩,true)else(⟨0,[]⟩,false)
abbrev TW (R:Rel):Prop:=∀(vs tags:List Int) (h:Hello),vs.length≤4194304→tags.length≤4194304→hB h→R [.sl 1 1 vs.length (ints vs),.sl 1 1 tags.length (ints tags),arg (CP h)] [] (.tup [.agg (Zp (Bh vs tags h).1),B (Bh vs tags h).2]) []
theorem AAt (D:Dn) (hB':DY (D Iy)) (hI:Eo (D GJ)) (hK:Nk (D Aam)) (hS:Ia (D Adq)):TW (Body D L6):=by
 intro vs tags h hv ht hh
 simp -implicitDefEqProofs
 refine Aa (hB' vs h.versions hv hh.1) ?_
 simp -implicitDefEqProofs
 refine Aa (hI h hh) ?_
 by_cases h1:CB h=true
 rotate_left
 ·simp -implicitDefEqProofs [h1,Bh]
 by_cases h2:Be vs h.versions=0
 ·simp -implicitDefEqProofs [h1,h2,Bh]
 have e:Bh vs tags h=(⟨Be vs h.versions,AaQ (Ll h.exts tags)⟩,true):=by unfold Bh;rw[if_pos (by simp[h1,h2])]
 simp -implicitDefEqProofs [h1,h2]
 refine Aa (hK h.exts tags hh.2 (by unfold maxLen;omega)) ?_
 simp -implicitDefEqProofs
 refine Aa (hS (Ll h.exts tags) (VW hh.2 _)) ?_
 simp -implicitDefEqProofs [e]
theorem AAv (D:Dn) (hB':DY (D Om)) (hI:Eo (D Im)) (hK:Nk (D AnF)) (hS:Ia (D Aep)):TW (Body D LV):=by
 intro vs tags h hv ht hh
 simp -implicitDefEqProofs
 refine Aa (hB' vs h.versions hv hh.1) ?_
 simp -implicitDefEqProofs
 refine Aa (hI h hh) ?_
 by_cases h1:CB h=true
 rotate_left
 ·simp -implicitDefEqProofs [h1,Bh]
 by_cases h2:Be vs h.versions=0
 ·simp -implicitDefEqProofs [h1,h2,Bh]
 have e:Bh vs tags h=(⟨Be vs h.versions,AaQ (Ll h.exts tags)⟩,true):=by unfold Bh;rw[if_pos (by simp[h1,h2])]
 simp -implicitDefEqProofs [h1,h2]
 refine Aa (hK h.exts tags hh.2 (by unfold maxLen;omega)) ?_
 simp -implicitDefEqProofs
 refine Aa (hS (Ll h.exts tags) (VW hh.2 _)) ?_
 simp -implicitDefEqProofs [e]
end Go.Eng.T
namespace Go.Eng.T
end Go.Eng.T
namespace Go.Eng.T
open Go.Eng.X
def CY:Nat→Bj
 |0=>R 0 [x 0 (s 0),x 1 (s 1),a 2 [c,o,N 1]] [(6,0),(7,1),(8,2)] [0,1]
 |1=>R 1 [m (s 2),m (s 3),P 2 (s 7),C 343 [r (l 0),r (l 1),r (l 2)] [3],m (l 3),X (l 4) 0,X (l 4) 1,a 4 [o,N 2],W 2 (l 7) (l 5),m (l 6)] [(9,7),(10,9)] [2,3]
 |2=>R 2 [m (s 10),n (l 0)] [(13,1)] [10]
 |3=>R 3 [b [c,o,N 1] [],W 3 (s 8) (l 0)] [] [4,5,6,7,9]
 |4=>R 4 [P 2 (s 9),a 5 [o,N 2],W 2 (l 1) (l 0)] [(11,1)] []
 |5=>R 5 [m (s 5),e (l 0),m (i 0)] [(14,1),(15,2)] [5]
 |6=>R 6 [y .lss (s 15) (s 14)] [(16,0)] [14,15]
 |7=>T 10 [D (m (s 4)) [] [],D (P 2 (s 7)) [1] [],D (C 345 [r (l 1)] [6]) [6] [6],D (P 2 (s 9)) [4] [],D (C 346 [r (l 3)] [7]) [3,7] [7],D (M 8 1 2 [l 2,l 4]) [6,7,8] [6,7,8],D (C 347 [r (l 0),r (l 5),r (i 1)] []) [8] [],D (m (l 6)) [] []] [(12,7)] [7,9]
 |8=>T 11 [D (P 2 (s 6)) [0] [],D (P 2 (s 11)) [5] [],D (C 348 [r (l 0),r (l 1)] []) [3] [],D (n (l 2)) [] [],D (m (l 3)) [] [],H 4 (m (s 4)) [] [],H 4 (P 2 (s 6)) [0] [],H 4 (C 345 [r (l 6)] [9]) [9] [9],H 4 (P 2 (s 11)) [5] [],H 4 (C 346 [r (l 8)] [10]) [3,10] [10],H 4 (M 11 1 2 [l 7,l 9]) [9,10,11] [9,10,11],H 4 (m (s 12)) [] [],H 4 (C 349 [r (l 5),r (l 10),r (i 1),r (l 11)] []) [11] [],H 4 (n (l 12)) [] [],D (k (l 4) t (l 13)) [] []] [(17,14)] [4,6,12]
 |9=>R 12 [b [c,o,N 1] [],W 3 (s 8) (l 0)] [] [11]
 |_=>T 13 [D (F (s 11) 0) [] [],D (L (l 0)) [5] [],D (F (s 11) 1) [] [],D (L (l 2)) [5] [],D (C 317 [r (l 3)] [12]) [3,12] [12],D (b [c,o,N 1] [(0,1,t),(1,1,l 1),(2,1,l 4)]) [] [],D (W 3 (s 8) (l 5)) [2] [2]] [] [11]
def WC:Bl:=⟨18,13,[0,1,2,3,4,5],0,false,[],j (d (CY 0)) (j (d (CY 1)) (j (j (d (CY 2)) (h 13 (j (d (CY 3)) (.ret)) (.skip))) (j (d (CY 4)) (j (j (d (CY 5)) (.block 0 (.loop (j (d (CY 6)) (j (h 16 (.skip) (.exit 0)) (j (.block 1 (j (.stuck) (.stuck))) (.stuck))))))) (j (d (CY 7)) (j (j (d (CY 8)) (h 17 (j (d (CY 9)) (.ret)) (.skip))) (j (d (CY 10)) (.ret)))))))),[.cell 8 (some 3)]⟩
def AkV:List Tmp:=[0,1,2,3,4,5,6,7,12,13,14,15,18,27,31,32,33,61]
def BG:Nat→Bj
 |0=>R 0 [m (z 2)] [] [2]
 |1=>R 1 [m (s 1),C 310 [r (l 0)] [],m (l 1)] [(3,2)] []
 |2=>R 2 [m (s 0),C 311 [r (l 0)] [0],m (l 1)] [(4,2)] []
 |3=>R 3 [m (s 0),C 312 [r (l 0)] [],n (l 1),m (l 2),G 3 (m (s 0)),G 3 (e (l 4)),G 3 (y .geq (l 5) (i 6)),k (l 3) t (l 6),m (l 7),G 8 (m (s 0)),G 8 (m (s 3)),G 8 (C 309 [r (l 9),r (l 10)] []),G 8 (y .geq (l 11) (i 0)),k (l 8) t (l 12)] [(8,13)] []
 |4=>R 4 [m (s 4),m (l 0)] [(2,1)] [0,1,3,4]
 |5=>Q 5 [m (s 3),b [o,N 1] [(0,1,l 0)],a 1 [o,N 1],W 2 (l 2) (l 1)] [(5,2)] [3] [] [.ownc 1 1 9]
 |6=>R 6 [m (s 1),C 313 [r (l 0),r (i 2),r (i 3)] [],m (l 1)] [(6,2)] []
 |7=>R 7 [m (s 6),y .gtr (l 0) (i 0)] [(9,1)] []
 |8=>Y 9 [D (F (s 5) 1) [] [],D (L (l 0)) [1] [],D (m (s 1)) [] [],D (C 313 [r (l 2),r (i 3),r (i 256)] []) [] [],D (M 2 1 1 [l 3]) [2] [2],D (q 3 1 8 (l 1) (l 4)) [2,3,9] [3,9],D (F (s 5) 1) [] [],D (W 1 (l 6) (l 5)) [1] [1]] [] [] [2,3] [w 3 9]
 |9=>R 8 [m (s 6),y .sub (l 0) (i 1),m (l 1)] [(6,2)] []
 |10=>R 10 [m (s 1),m (s 0),e (l 1),y .add (l 2) (i 1),C 313 [r (l 0),r (i 1),r (l 3)] [],m (l 4)] [(7,5)] [0,1,6]
 |_=>T 11 [D (M 4 2 0 []) [4] [4],D (m (s 4)) [] [],D (m (s 7)) [] [],D (.slice 2 (l 1) none (some (l 2))) [0] [],D (p 5 2 32 (l 0) (l 3)) [0,4,5,100000] [0,4,5,100000],D (P 2 (s 5)) [1] [],D (M 6 2 1 [l 5]) [6,9] [6,9],D (p 7 2 32 (l 4) (l 6)) [5,6,7] [5,6,7],D (m (s 4)) [] [],D (m (s 7)) [] [],D (.slice 2 (l 8) (some (l 9)) none) [0] [],D (p 8 2 32 (l 7) (l 10)) [0,7,8,100000] [0,7,8,100000],D (m (l 11)) [] []] [(2,12)] [4,5,7]
def Q8:Bl:=⟨10,10,[0,1],0,false,[],j (d (BG 0)) (j (d (BG 1)) (j (d (BG 2)) (j (j (d (BG 3)) (h 8 (j (d (BG 4)) (.ret)) (.skip))) (j (d (BG 5)) (j (j (d (BG 6)) (.block 0 (.loop (j (j (d (BG 7)) (h 9 (.skip) (.exit 0))) (j (.block 1 (d (BG 8))) (d (BG 9))))))) (j (d (BG 10)) (j (d (BG 11)) (.ret)))))))),[.slot 2]⟩
def Ad9:List Tmp:=[0,1,4,5,6,7,8,9,27,34]
attribute [simp] CY WC BG Q8
end Go.Eng.T
namespace Go.Eng.T
set_option maxRecDepth 20000
set_option maxHeartbeats 1000000
theorem Aqt (D:Dn):Pp (Body D Rf):=by
 intro xs ys h1 h2
 unfold maxLen at h1 h2
 by_cases hl:xs.length=ys.length
 rotate_left
 ·have hl':¬(xs.length:Int)=ys.length:=by omega
  have:xs≠ys:=fun h=>hl (by rw[h])
  simp -implicitDefEqProofs [hl',this]
 have hl':(xs.length:Int)=ys.length:=by omega
 simp -implicitDefEqProofs [hl']
 refine Ad (fun k s=>∃j,j+k=xs.length∧xs.take j=ys.take j∧s=⟨[.sl 1 1 xs.length (ints xs),.sl 1 1 ys.length (ints ys),.undef,I j,.undef,.undef,.undef],[]⟩) ?_ (xs.length) _ ⟨0,by simp,by simp,by simp⟩
 intro k s ⟨j,hj,hp,hs⟩
 subst hs
 by_cases hjn:j<xs.length
 ·have hw:IntKind.i64.wrap ((j:Int)+1)=(j+1:Nat):=by rw[Ab (by omega) (by omega)];simp
  have hy:j<ys.length:=by omega
  by_cases he:xs[j]=ys[j]
  ·simp -implicitDefEqProofs [hjn,hy,he]
   exact⟨k-1,by omega,j+1,by omega,Zx hjn hy hp he,by simp[hw]⟩
  ·have hne:xs≠ys:=fun h=>he (by simp[h])
   simp -implicitDefEqProofs [hjn,hy,he,hne]
 ·obtain rfl:xs=ys:=Ad5 (by omega) hl hp
  simp -implicitDefEqProofs [hjn]
theorem ACw (D:Dn):Pp (Body D Ih):=by
 intro xs ys h1 h2
 unfold maxLen at h1 h2
 by_cases hl:xs.length=ys.length
 rotate_left
 ·have hl':¬(xs.length:Int)=ys.length:=by omega
  have:xs≠ys:=fun h=>hl (by rw[h])
  simp -implicitDefEqProofs [hl',this]
 have hl':(xs.length:Int)=ys.length:=by omega
 simp -implicitDefEqProofs [hl']
 refine Ad (fun k s=>∃j,j+k=xs.length∧xs.take j=ys.take j∧s=⟨[.sl 1 1 xs.length (ints xs),.sl 1 1 ys.length (ints ys),.undef,.undef,.undef,I ys.length,I j,.undef,.undef],[]⟩) ?_ (xs.length) _ ⟨0,by simp,by simp,by simp⟩
 intro k s ⟨j,hj,hp,hs⟩
 subst hs
 by_cases hjn:j<xs.length
 ·have hw:IntKind.i64.wrap ((j:Int)+1)=(j+1:Nat):=by rw[Ab (by omega) (by omega)];simp
  have hy:j<ys.length:=by omega
  by_cases he:xs[j]=ys[j]
  ·simp -implicitDefEqProofs [hjn,hy,he]
   exact⟨k-1,by omega,j+1,by omega,Zx hjn hy hp he,by simp[hw]⟩
  ·have hne:xs≠ys:=fun h=>he (by simp[h])
   simp -implicitDefEqProofs [hjn,hy,he,hne]
 ·obtain rfl:xs=ys:=Ad5 (by omega) hl hp
  simp -implicitDefEqProofs [hjn]
abbrev Rs (R:Rel):Prop:=∀a b:List Ext,UY a→UY b→R [.sl 1 2 a.length (a.flatMap Bw),.sl 1 2 b.length (b.flatMap Bw)] [] (B (decide (a=b))) []
abbrev VZ (R:Rel):Prop:=∀a b:Ext,a.body.length≤4194304→b.body.length≤4194304→R [arg (Bw a),arg (Bw b)] [] (B (decide (a=b))) []
theorem ext_eq {a b:Ext} (h1:a.tag=b.tag) (h2:a.body=b.body):a=b:=by cases a;cases b;simp_all
theorem ApX (D:Dn) (hE:Pp (D Xt)):Rs (Body D Qk):=by
 intro a b ha hb
 have h1:=ha.1
 have h2:=hb.1
 by_cases hl:a.length=b.length
 rotate_left
 ·have hl':¬(a.length:Int)=b.length:=by omega
  have:a≠b:=fun h=>hl (by rw[h])
  simp -implicitDefEqProofs [hl',this]
 have hl':(a.length:Int)=b.length:=by omega
 simp -implicitDefEqProofs [hl']
 refine Ad (fun k s=>∃j,j+k=a.length∧a.take j=b.take j∧s=⟨[.sl 1 2 a.length (a.flatMap Bw),.sl 1 2 b.length (b.flatMap Bw),.undef,I j,.undef,.undef,.undef],[]⟩) ?_ (a.length) _ ⟨0,by simp,by simp,by simp⟩
 intro k s ⟨j,hj,hp,hs⟩
 subst hs
 by_cases hjn:j<a.length
 ·have hw:IntKind.i64.wrap ((j:Int)+1)=(j+1:Nat):=by rw[Ab (by omega) (by omega)];simp
  have hy:j<b.length:=by omega
  by_cases g1:a[j].tag=b[j].tag
  rotate_left
  ·have hne:a≠b:=fun h=>g1 (by simp[h])
   simp -implicitDefEqProofs [hjn,hy,g1,hne]
  simp -implicitDefEqProofs [hjn,hy,g1]
  refine Aa (hE a[j].body b[j].body (by have:=Ns ha hjn;unfold maxLen;omega) (by have:=Ns hb hy;unfold maxLen;omega)) ?_
  by_cases g2:a[j].body=b[j].body
  ·simp -implicitDefEqProofs [g2]
   exact⟨k-1,by omega,j+1,by omega,Zx hjn hy hp (ext_eq g1 g2),by simp[hw]⟩
  ·have hne:a≠b:=fun h=>g2 (by simp[h])
   simp -implicitDefEqProofs [g2,hne]
 ·obtain rfl:a=b:=Ad5 (by omega) hl hp
  simp -implicitDefEqProofs [hjn]
theorem AwB (D:Dn) (hE:Pp (D Lc)):VZ (Body D Sv):=by
 intro a b ha hb
 by_cases g1:a.tag=b.tag
 rotate_left
 ·have hne:a≠b:=fun h=>g1 (by simp[h])
  simp -implicitDefEqProofs [g1,hne]
 simp -implicitDefEqProofs [g1]
 refine Aa (hE a.body b.body (by unfold maxLen;omega) (by unfold maxLen;omega)) ?_
 by_cases g2:a.body=b.body
 ·have e:=ext_eq g1 g2
  simp -implicitDefEqProofs [g2,e]
 ·have hne:a≠b:=fun h=>g2 (by simp[h])
  simp -implicitDefEqProofs [g2,hne]
abbrev Wh (D:Dn) (R:Rel):Prop:=∀(a b:List Ext) (g:Nat),UY a→UY b→VZ (D g)→R [.sl 1 2 a.length (a.flatMap Bw),.sl 1 2 b.length (b.flatMap Bw),.fn g []] [] (B (decide (a=b))) []
theorem AsA (D:Dn):Wh D (Body D Bt):=by
 intro a b g ha hb hg
 have h1:=ha.1
 have h2:=hb.1
 by_cases hl:a.length=b.length
 rotate_left
 ·have hl':¬(a.length:Int)=b.length:=by omega
  have:a≠b:=fun h=>hl (by rw[h])
  simp -implicitDefEqProofs [hl',this]
 have hl':(a.length:Int)=b.length:=by omega
 simp -implicitDefEqProofs [hl']
 refine Ad (fun k s=>∃j o0 o1,j+k=a.length∧a.take j=b.take j∧s=⟨[.undef,.sl 1 2 b.length (b.flatMap Bw),.fn g [],.undef,.undef,.undef,.undef,.undef,.sl 1 2 a.length (a.flatMap Bw),I b.length,I j,.undef,.undef],[o0,o1]⟩) ?_ (a.length) _ ⟨0,.free,.free,by simp,by simp,by simp⟩
 intro k s ⟨j,o0,o1,hj,hp,hs⟩
 subst hs
 by_cases hjn:j<a.length
 ·have hw:IntKind.i64.wrap ((j:Int)+1)=(j+1:Nat):=by rw[Ab (by omega) (by omega)];simp
  have hy:j<b.length:=by omega
  simp -implicitDefEqProofs [hjn,hy,↓RJ RN]
  refine Aa (hg a[j] b[j] (Ns ha hjn) (Ns hb hy)) ?_
  by_cases g2:a[j]=b[j]
  ·simp -implicitDefEqProofs [g2]
   exact⟨k-1,by omega,j+1,by omega,Zx hjn hy hp g2,by simp[hw]⟩
  ·have hne:a≠b:=fun h=>g2 (by simp[h])
   simp -implicitDefEqProofs [g2,hne]
 ·obtain rfl:a=b:=Ad5 (by omega) hl hp
  simp -implicitDefEqProofs [hjn]
theorem AqP (D:Dn) (h1:VZ (D AkT)) (hE:Wh D (D FB)):Rs (Body D Rk):=by
 intro a b ha hb
 simp -implicitDefEqProofs
 refine Aa (hE a b _ ha hb h1) ?_
 simp -implicitDefEqProofs
abbrev Mc (R:Rel):Prop:=∀a b:Hello,hB a→hB b→R [arg (CP a),arg (CP b)] [] (B (decide (a=b))) []
theorem Amv {a b:Hello} (h1:a.versions=b.versions) (h2:a.exts=b.exts):a=b:=by cases a;cases b;simp_all
theorem AkO (D:Dn) (hE:Pp (D Xt)) (hX:Rs (D Xr)):Mc (Body D Na):=by
 intro a b ha hb
 simp -implicitDefEqProofs
 refine Aa (hE a.versions b.versions (by have:=ha.1;unfold maxLen;omega) (by have:=hb.1;unfold maxLen;omega)) ?_
 by_cases g1:a.versions=b.versions
 rotate_left
 ·have hne:a≠b:=fun h=>g1 (by simp[h])
  simp -implicitDefEqProofs [g1,hne]
 simp -implicitDefEqProofs [g1]
 refine Aa (hX a.exts b.exts ha.2 hb.2) ?_
 by_cases g2:a.exts=b.exts
 ·have e:=Amv g1 g2
  simp -implicitDefEqProofs [g2,e]
 ·have hne:a≠b:=fun h=>g2 (by simp[h])
  simp -implicitDefEqProofs [g2,hne]
theorem Ak5 (D:Dn) (hE:Pp (D Lc)) (hX:Rs (D Ai7)):Mc (Body D M4):=by
 intro a b ha hb
 simp -implicitDefEqProofs
 refine Aa (hE a.versions b.versions (by have:=ha.1;unfold maxLen;omega) (by have:=hb.1;unfold maxLen;omega)) ?_
 by_cases g1:a.versions=b.versions
 rotate_left
 ·have hne:a≠b:=fun h=>g1 (by simp[h])
  simp -implicitDefEqProofs [g1,hne]
 simp -implicitDefEqProofs [g1]
 refine Aa (hX a.exts b.exts ha.2 hb.2) ?_
 by_cases g2:a.exts=b.exts
 ·have e:=Amv g1 g2
  simp -implicitDefEqProofs [g2,e]
 ·have hne:a≠b:=fun h=>g2 (by simp[h])
  simp -implicitDefEqProofs [g2,hne]
theorem Ao4:∀ {path:List Gu} {h:Hello},hB h→hB (Ik path h).1
 | [],h,hh=>hh
 | b::r,h,hh=>by
  unfold Ik
  split
  ·exact Ao4 (ArN hh)
  ·exact AkP
theorem Qe {path:List Gu} {h:Hello} (hh:hB h):hB (Ba path h).1:=by
 unfold Ba
 split
 ·exact Ao4 hh
 ·exact AkP
theorem Agu:∀ {path:List Gu} {h:Hello},(Ik path h).2=true→(Ik path h).1.versions=h.versions
 | [],h,_=>rfl
 | b::r,h,hk=>by
  unfold Ik at hk⊢
  split at hk
  ·rename_i hb
   rw[if_pos hb,Agu hk]
   unfold BM at hb⊢
   split at hb
   ·rename_i hc;rw[if_pos hc]
   ·cases hb
  ·cases hk
theorem AoI {path:List Gu} {h:Hello} (hk:(Ba path h).2=true):(Ba path h).1.versions=h.versions:=by
 unfold Ba at hk⊢
 split at hk
 ·rename_i hc;rw[if_pos hc];exact Agu hk
 ·cases hk
def Dt (h:Hello) (path:List Gu):Bool:=(Ba path h).2&&decide ((Ba path h).1=h)
abbrev Gi (R:Rel):Prop:=∀(h:Hello) (path:List Gu),hB h→lnS JI path→R [arg (CP h),.sl 1 4 path.length (path.flatMap Dy)] [] (B (Dt h path)) []
theorem Amw (D:Dn) (hP:FV (D ML)) (hQ:Mc (D AcT)):Gi (Body D MZ):=by
 intro h path hh hb
 simp -implicitDefEqProofs
 refine Aa (hP path h hb hh) ?_
 have hr:=Qe (path:=path) hh
 have e:Dt h path=((Ba path h).2&&decide ((Ba path h).1=h)):=rfl
 generalize Ba path h=r at hr e
 by_cases g1:r.2=true
 rotate_left
 ·simp -implicitDefEqProofs [g1,e]
 simp -implicitDefEqProofs [g1]
 refine Aa (hQ r.1 h hr hh) ?_
 simp -implicitDefEqProofs [e,g1]
theorem AjI (D:Dn) (hP:FV (D MF)) (hQ:Mc (D Ad2)):Gi (Body D MJ):=by
 intro h path hh hb
 simp -implicitDefEqProofs
 refine Aa (hP path h hb hh) ?_
 have hr:=Qe (path:=path) hh
 have e:Dt h path=((Ba path h).2&&decide ((Ba path h).1=h)):=rfl
 generalize Ba path h=r at hr e
 by_cases g1:r.2=true
 rotate_left
 ·simp -implicitDefEqProofs [g1,e]
 simp -implicitDefEqProofs [g1]
 refine Aa (hQ r.1 h hr hh) ?_
 simp -implicitDefEqProofs [e,g1]
end Go.Eng.T
namespace Go.Eng.T
set_option maxRecDepth 20000
set_option maxHeartbeats 1000000
def Jc (path:List Gu) (vs:List Int) (x:Ext):Bool:= !Dt ⟨vs.take 1,[x]⟩ path
def Fu (path:List Gu) (vs:List Int) (l:List Ext):List Int:=if EK l&&isOpen path vs then Ap (l.filter (Jc path vs))else []
abbrev Ml (R:Rel):Prop:=∀(path:List Gu) (vs:List Int) (l:List Ext),lnS JI path→vs.length≤4194304→UY l→R [.sl 1 4 path.length (path.flatMap Dy),.sl 1 1 vs.length (ints vs),.sl 1 2 l.length (l.flatMap Bw)] [] (.sl 0 1 (Fu path vs l).length (ints (Fu path vs l))) []
theorem AuH {path:List Gu} {vs:List Int} (h:isOpen path vs=true):0<vs.length:=by
 unfold isOpen at h
 simp only[Bool.and_eq_true]at h
 exact XM h.1
theorem Al3 {p:Ext→Bool} {l:List Ext} {j:Nat} (h:j<l.length):Ap ((l.take (j+1)).filter p)=Ap ((l.take j).filter p)++(if p l[j]then [l[j].tag]else []):=by
 rw[Abr h]
 unfold Ap
 rw[List.map_append]
 split<;>simp
theorem Apd {p:Ext→Bool} {l:List Ext} {j:Nat}:(Ap ((l.take j).filter p)).length≤j:=by
 unfold Ap
 rw[List.length_map]
 exact Aff
theorem Axg {path:List Gu} {vs:List Int} {x:Ext}:Jc path vs x= !((Ba path ⟨vs.take 1,[x]⟩).2&&decide ((Ba path ⟨vs.take 1,[x]⟩).1.exts=[x])):=by
 unfold Jc Dt
 by_cases h:(Ba path ⟨vs.take 1,[x]⟩).2=true
 ·have hv:=AoI h
  have e:decide ((Ba path ⟨vs.take 1,[x]⟩).1=⟨vs.take 1,[x]⟩)=decide ((Ba path ⟨vs.take 1,[x]⟩).1.exts=[x]):=by
   rw[decide_eq_decide]
   constructor
   ·intro h1;rw[h1]
   ·intro h1;exact Amv hv h1
  rw[e]
 ·simp[h]
theorem Ate (D:Dn) (hA:Gc (D KW)) (hO:Hz (D Vb)) (hH:Gr (D VF)) (hP:FV (D ML)) (hX:Rs (D Xr)):Ml (Body D Tp):=by
 intro path vs l hb hv hl
 have hll:=hl.1
 simp -implicitDefEqProofs
 refine Aa (hA l hl) ?_
 by_cases h1:EK l=true
 rotate_left
 ·simp -implicitDefEqProofs [h1,Fu]
 simp -implicitDefEqProofs [h1]
 refine Aa (hO path vs hb hv) ?_
 by_cases h2:isOpen path vs=true
 rotate_left
 ·simp -implicitDefEqProofs [h2,h1,Fu]
 have e:Fu path vs l=Ap (l.filter (Jc path vs)):=by unfold Fu;rw[h1,h2];rfl
 have hpos:=AuH h2
 have h1l:(1:Int)≤vs.length:=by omega
 have h1n:1≤vs.length:=by omega
 have hlen:(vs.take 1).length=1:=by simp;omega
 have hmin:min 1 vs.length=1:=by omega
 rw[e]
 simp -implicitDefEqProofs [h2]
 refine Ad (fun k s=>∃j o1 o2 o3 o4 o5 o6 o7 o8,j+k=l.length∧s=⟨[.sl 1 4 path.length (path.flatMap Dy),.sl 1 1 vs.length (ints vs),.sl 1 2 l.length (l.flatMap Bw),.undef,.arr 9,I j,.undef,.undef,.undef,.undef,.undef,.undef],[.free,o1,o2,o3,o4,o5,o6,o7,o8,.arr 1 0 (Ap ((l.take j).filter (Jc path vs))).length (ints (Ap ((l.take j).filter (Jc path vs))))]⟩) ?_ (l.length) _ ⟨0,.free,.free,.free,.free,.free,.free,.free,.free,by simp,by simp[Ap,ints]⟩
 intro k s ⟨j,o1,o2,o3,o4,o5,o6,o7,o8,hj,hs⟩
 subst hs
 by_cases hjn:j<l.length
 ·have hw:IntKind.i64.wrap ((j:Int)+1)=(j+1:Nat):=by rw[Ab (by omega) (by omega)];simp
  have hst:=Al3 (p:=Jc path vs) hjn
  have hfl:=Apd (p:=Jc path vs) (l:=l) (j:=j)
  have hb1:((Ap ((l.take j).filter (Jc path vs))).length+1)*8≤1099511627776:=by omega
  have hw1:IntKind.i64.wrap ((j:Int)+1)=(j:Int)+1:=Ab (by omega) (by omega)
  have hj1:j+1≤l.length:=by omega
  have hj2:(j:Int)+1≤l.length:=by omega
  have hjj:(j:Int)≤(j:Int)+1:=by omega
  have h11:j+1-j=1:=by omega
  simp -implicitDefEqProofs [hjn,h1l,h1n]
  have hh:=hH (vs.take 1) (by omega)
  rw[hlen]at hh
  refine Aa (hh) ?_
  have hdt:(l.drop j).take 1=[l[j]]:=by rw[List.drop_eq_getElem_cons hjn];rfl
  simp -implicitDefEqProofs [hmin,hw1,hj1,hj2,hjj,h11,hdt]
  have hhB:hB ⟨vs.take 1,[l[j]]⟩:=⟨by simp;omega,by simp,by intro x hx;simp at hx;subst hx;exact Ns hl hjn⟩
  have hp:=hP path ⟨vs.take 1,[l[j]]⟩ hb hhB
  have hr:=Qe (path:=path) hhB
  have hq:=Axg (path:=path) (vs:=vs) (x:=l[j])
  simp -implicitDefEqProofs [hmin,arg]at hp
  refine Aa (hp) ?_
  generalize Ba path ⟨vs.take 1,[l[j]]⟩=r at hr hq
  by_cases g1:r.2=true
  rotate_left
  ·have h3:Jc path vs l[j]=true:=by rw[hq];simp[g1]
   rw[if_pos h3]at hst
   simp -implicitDefEqProofs [g1,hjn,hb1]
   exact⟨k-1,by omega,j+1,by omega,by simp[hw],by rw[hst];simp,by rw[hst]⟩
  simp -implicitDefEqProofs [g1]
  have hx:=hX r.1.exts [l[j]] hr.2 hhB.2
  simp -implicitDefEqProofs [arg]at hx
  refine Aa (hx) ?_
  by_cases g2:r.1.exts=[l[j]]
  ·have h3:¬Jc path vs l[j]=true:=by rw[hq];simp[g1,g2]
   rw[if_neg h3,List.append_nil]at hst
   simp -implicitDefEqProofs [g2]
   exact⟨k-1,by omega,j+1,by omega,by simp[hw],by rw[hst],by rw[hst]⟩
  ·have h3:Jc path vs l[j]=true:=by rw[hq];simp[g2]
   rw[if_pos h3]at hst
   simp -implicitDefEqProofs [g2,hjn,hb1]
   exact⟨k-1,by omega,j+1,by omega,by simp[hw],by rw[hst];simp,by rw[hst]⟩
 ·have e2:(l.take j).filter (Jc path vs)=l.filter (Jc path vs):=AfI (by omega)
  simp -implicitDefEqProofs [hjn,e2]
theorem As5 (D:Dn) (hA:Gc (D K9)) (hO:Hz (D Agr)) (hP:Gi (D TH)):Ml (Body D Tg):=by
 intro path vs l hb hv hl
 have hll:=hl.1
 simp -implicitDefEqProofs
 refine Aa (hO path vs hb hv) ?_
 by_cases h2:isOpen path vs=true
 rotate_left
 ·simp -implicitDefEqProofs [h2,Fu]
 simp -implicitDefEqProofs [h2]
 refine Aa (hA l hl) ?_
 by_cases h1:EK l=true
 rotate_left
 ·simp -implicitDefEqProofs [h1,Fu]
 have e:Fu path vs l=Ap (l.filter (Jc path vs)):=by unfold Fu;rw[h1,h2];rfl
 have hpos:=AuH h2
 have h1l:(1:Int)≤vs.length:=by omega
 have h1n:1≤vs.length:=by omega
 have hlen:(vs.take 1).length=1:=by simp;omega
 have hmin:min 1 vs.length=1:=by omega
 rw[e]
 simp -implicitDefEqProofs [h1]
 refine Ad (fun k s=>∃j v5 o1 o2 o3 o4,j+k=l.length∧s=⟨[.sl 1 4 path.length (path.flatMap Dy),.sl 1 1 vs.length (ints vs),.undef,.undef,.arr 5,v5,.undef,.sl 1 2 l.length (l.flatMap Bw),I l.length,I j,.undef,.undef],[.free,o1,o2,o3,o4,.arr 1 0 (Ap ((l.take j).filter (Jc path vs))).length (ints (Ap ((l.take j).filter (Jc path vs))))]⟩) ?_ (l.length) _ ⟨0,.undef,.free,.free,.free,.free,by simp,by simp[Ap,ints]⟩
 intro k s ⟨j,v5,o1,o2,o3,o4,hj,hs⟩
 subst hs
 by_cases hjn:j<l.length
 ·have hw:IntKind.i64.wrap ((j:Int)+1)=(j+1:Nat):=by rw[Ab (by omega) (by omega)];simp
  have hst:=Al3 (p:=Jc path vs) hjn
  have hfl:=Apd (p:=Jc path vs) (l:=l) (j:=j)
  have hb1:((Ap ((l.take j).filter (Jc path vs))).length+1)*8≤1099511627776:=by omega
  have hhB:hB ⟨vs.take 1,[l[j]]⟩:=⟨by simp;omega,by simp,by intro x hx;simp at hx;subst hx;exact Ns hl hjn⟩
  simp -implicitDefEqProofs [hjn,h1l,h1n]
  have hp:=hP ⟨vs.take 1,[l[j]]⟩ path hhB hb
  have hq:Jc path vs l[j]= !Dt ⟨vs.take 1,[l[j]]⟩ path:=rfl
  simp -implicitDefEqProofs [hmin,arg]at hp
  refine Aa (hp) ?_
  generalize Dt ⟨vs.take 1,[l[j]]⟩ path=r at hq
  by_cases g1:r=true
  ·have h3:¬Jc path vs l[j]=true:=by rw[hq,g1];simp
   rw[if_neg h3,List.append_nil]at hst
   simp -implicitDefEqProofs [g1]
   exact⟨k-1,by omega,j+1,by omega,by simp[hw],by rw[hst],by rw[hst]⟩
  ·have h3:Jc path vs l[j]=true:=by rw[hq];simpa using g1
   rw[if_pos h3]at hst
   simp -implicitDefEqProofs [g1,hjn,hb1]
   exact⟨k-1,by omega,j+1,by omega,by simp[hw],by rw[hst];simp,by rw[hst]⟩
 ·have e2:(l.take j).filter (Jc path vs)=l.filter (Jc path vs):=AfI (by omega)
  simp -implicitDefEqProofs [hjn,e2]
end Go.Eng.T
namespace Go.Eng.T
set_option maxRecDepth 20000
set_option maxHeartbeats 1000000
theorem Ls (a b:List Int):(leftOf a b).length≤a.length:=List.length_filter_le _ _
def Fz (h:Hello) (lv lt:List Int):Hello×Bool:=if CB h&& !decide (leftOf h.versions lv=[])then(⟨leftOf h.versions lv,kept (fun t=> !decide (t∈lt)) h.exts⟩,true)else(AQ,false)
abbrev Kc (R:Rel):Prop:=∀(h:Hello) (lv lt:List Int),hB h→lv.length≤4194304→lt.length≤4194304→R [arg (CP h),.sl 1 1 lv.length (ints lv),.sl 1 1 lt.length (ints lt)] [] (.tup [.agg (CP (Fz h lv lt).1),B (Fz h lv lt).2]) []
theorem AqM (D:Dn) (hI:Eo (D GJ)) (hH:PX (D GA)):Kc (Body D Qi):=by
 intro h lv lt hh hv ht
 have hvl:=hh.1
 have hxl:=hh.2.1
 simp -implicitDefEqProofs
 refine Aa (hI h hh) ?_
 by_cases h1:CB h=true
 rotate_left
 ·simp -implicitDefEqProofs [h1,Fz,AQ]
 have e1:leftOf h.versions lv=h.versions.filter (fun v=> !decide (v∈lv)):=rfl
 unfold Fz
 rw[h1,e1]
 generalize hp:(fun v=> !decide (v∈lv))=p
 generalize hq:(fun t=> !decide (t∈lt))=q
 obtain⟨vs,hvs⟩:∃vs,vs=h.versions.filter p:=⟨_,rfl⟩
 rw[←hvs]
 simp -implicitDefEqProofs [h1]
 refine Ad (fun k s=>∃j o3 o4,j+k=h.versions.length∧s=⟨[.undef,.sl 1 1 lv.length (ints lv),.sl 1 1 lt.length (ints lt),.ptr 0 0,.ptr 1 0,.undef,.ptr 2 0,I j,.undef,.undef,.undef,.undef,.undef,.undef,.undef],[.var ((CP h).map (AL 1)),.var [.nil 1,.nil 2],.var [.arr 9,.arr 10],o3,o4,.free,.free,.free,.free,.arr 1 0 ((h.versions.take j).filter p).length (ints ((h.versions.take j).filter p)),.arr 2 0 0 []]⟩) ?_ (h.versions.length) _ ⟨0,.free,.free,by simp,by simp⟩
 intro k s ⟨j,o3,o4,hj,hs⟩
 subst hs
 by_cases hjn:j<h.versions.length
 ·have hw:IntKind.i64.wrap ((j:Int)+1)=(j+1:Nat):=by rw[Ab (by omega) (by omega)];simp
  have hst:=Kk (p:=p) hjn
  have hfl:=M5 (p:=p) (xs:=h.versions) (j:=j)
  have hb1:(((h.versions.take j).filter p).length+1)*8≤1099511627776:=by omega
  have hpv:p h.versions[j]= !decide (h.versions[j]∈lv):=by rw[←hp]
  simp -implicitDefEqProofs [hjn]
  refine Aa (hH lv h.versions[j] (by unfold maxLen;omega)) ?_
  by_cases h2:h.versions[j]∈lv
  ·have h3:¬p h.versions[j]=true:=by rw[hpv];simpa using h2
   rw[if_neg h3,List.append_nil]at hst
   simp -implicitDefEqProofs [h2]
   exact⟨k-1,by omega,j+1,by omega,by simp[hw],by rw[hst],by rw[hst]⟩
  ·have h3:p h.versions[j]=true:=by rw[hpv];simpa using h2
   rw[if_pos h3]at hst
   simp -implicitDefEqProofs [h2,hjn,hb1]
   exact⟨k-1,by omega,j+1,by omega,by simp[hw],by rw[hst];simp,by rw[hst]⟩
 have e2:=K7 (p:=p) (xs:=h.versions) (j:=j) (by omega)
 rw[←hvs]at e2
 simp -implicitDefEqProofs [hjn,e2]
 refine Ad (fun k s=>∃j o3 o4 o5 o6 o7 o8,j+k=h.exts.length∧s=⟨[.undef,.undef,.sl 1 1 lt.length (ints lt),.ptr 0 0,.ptr 1 0,.undef,.ptr 2 0,.undef,I j,.undef,.undef,.undef,.undef,.undef,.undef],[.var ((CP h).map (AL 1)),.var [.nil 1,.nil 2],.var [.arr 9,.arr 10],o3,o4,o5,o6,o7,o8,.arr 1 0 vs.length (ints vs),.arr 2 0 (kept q (h.exts.take j)).length ((kept q (h.exts.take j)).flatMap Bw)]⟩) ?_ (h.exts.length) _ ⟨0,o3,o4,.free,.free,.free,.free,by simp,by simp[kept]⟩
 intro k s ⟨j,o3,o4,o5,o6,o7,o8,hj,hs⟩
 subst hs
 by_cases hjn:j<h.exts.length
 ·have hw:IntKind.i64.wrap ((j:Int)+1)=(j+1:Nat):=by rw[Ab (by omega) (by omega)];simp
  have hb:=Ns hh.2 hjn
  have hb1:h.exts[j].body.length*8≤1099511627776:=by omega
  have hkl:=Ve (p:=q) (l:=h.exts) (j:=j)
  have hb2:((kept q (h.exts.take j)).length+1)*32≤1099511627776:=by omega
  have hpv:q h.exts[j].tag= !decide (h.exts[j].tag∈lt):=by rw[←hq]
  simp -implicitDefEqProofs [hjn]
  refine Aa (hH lt h.exts[j].tag (by unfold maxLen;omega)) ?_
  by_cases h2:h.exts[j].tag∈lt
  ·have h3:¬q h.exts[j].tag=true:=by rw[hpv];simpa using h2
   have hst:=ZG (p:=q) hjn
   rw[if_neg h3,List.append_nil]at hst
   simp -implicitDefEqProofs [h2]
   exact⟨k-1,by omega,j+1,by omega,by simp[hw],by rw[hst],by rw[hst]⟩
  ·have h3:q h.exts[j].tag=true:=by rw[hpv];simpa using h2
   have hst:=RQ hjn h3
   have hsl:=Jq hjn h3
   simp -implicitDefEqProofs [h2,hjn,hb1,hb2]
   exact⟨k-1,by omega,j+1,by omega,by simp[hw],by rw[←hsl],by rw[←hst]⟩
 have e3:=Vd (p:=q) (l:=h.exts) (j:=j) (by omega)
 by_cases g:vs=[]
 ·simp -implicitDefEqProofs [hjn,e3,g,AQ]
 ·have g':¬(vs.length:Int)=0:=by
   intro h0
   exact g (List.eq_nil_of_length_eq_zero (by omega))
  simp -implicitDefEqProofs [hjn,e3,g',g]
abbrev Tx (R:Rel):Prop:=∀(t:Int) (tags:List Int),tags.length≤maxLen→R [I t,.rptr 1 [.sl 0 1 tags.length (ints tags)] 0] [] (B (!decide (t∈tags))) []
theorem Ap0 (D:Dn) (hH:PX (D Bq)):Tx (Body D M9):=by
 intro t tags hl
 simp -implicitDefEqProofs
 refine Aa (hH tags t hl) ?_
 simp -implicitDefEqProofs
theorem Arl (D:Dn) (hI:Eo (D Im)) (hL:Xz (D Ph)) (h1:Tx (D TG)) (hK:Ma D (D J3)):Kc (Body D Rj):=by
 intro h lv lt hh hv ht
 simp -implicitDefEqProofs
 refine Aa (hL h.versions lv hh.1 hv) ?_
 have hll:=Ls h.versions lv
 unfold Fz
 generalize leftOf h.versions lv=vs at hll
 simp -implicitDefEqProofs
 refine Aa (hI h hh) ?_
 by_cases g1:CB h=true
 rotate_left
 ·simp -implicitDefEqProofs [g1,AQ]
 by_cases g:vs=[]
 ·simp -implicitDefEqProofs [g1,g,AQ]
 have g':¬(vs.length:Int)=0:=by
  intro h0
  exact g (List.eq_nil_of_length_eq_zero (by omega))
 simp -implicitDefEqProofs [g1,g',g]
 refine Aa (hK h.exts TG _ (fun t=> !decide (t∈lt)) hh.2 (Aba E5) (Aa1 RN) (fun t=>h1 t lt (by unfold maxLen;omega))) ?_
 simp -implicitDefEqProofs
def fallback (h:Hello) (path:List Gu):Hello×Bool:=Fz h (Bo path h.versions) (Fu path (leftOf h.versions (Bo path h.versions)) h.exts)
abbrev Mg (R:Rel):Prop:=∀(h:Hello) (path:List Gu),hB h→lnS JI path→R [arg (CP h),.sl 1 4 path.length (path.flatMap Dy)] [] (.tup [.agg (CP (fallback h path).1),B (fallback h path).2]) []
theorem Adj (path:List Gu) (vs:List Int) (l:List Ext):(Fu path vs l).length≤l.length:=by
 unfold Fu Ap
 split
 ·rw[List.length_map];exact List.length_filter_le _ _
 ·simp
theorem Asy (D:Dn) (hI:Eo (D GJ)) (hLV:GD (D Abg)) (hL:Xz (D Aar)) (hT:Ml (D Akv)) (hP:Kc (D Aim)):Mg (Body D KO):=by
 intro h path hh hb
 simp -implicitDefEqProofs
 refine Aa (hI h hh) ?_
 by_cases g1:CB h=true
 rotate_left
 ·have e:fallback h path=(AQ,false):=by unfold fallback Fz;simp[g1]
  simp -implicitDefEqProofs [g1,e,AQ]
 have hvl:=hh.1
 have hxl:=hh.2.1
 simp -implicitDefEqProofs [g1]
 refine Aa (hLV path h.versions hb hh.1) ?_
 have hll:=Auv path h.versions
 have e:fallback h path=Fz h (Bo path h.versions) (Fu path (leftOf h.versions (Bo path h.versions)) h.exts):=rfl
 rw[e]
 generalize Bo path h.versions=lv at hll
 simp -implicitDefEqProofs
 refine Aa (hL h.versions lv hh.1 (by omega)) ?_
 have hl2:=Ls h.versions lv
 generalize leftOf h.versions lv=vs at hl2
 simp -implicitDefEqProofs
 refine Aa (hT path vs h.exts hb (by omega) hh.2) ?_
 have hl3:=Adj path vs h.exts
 generalize Fu path vs h.exts=lt at hl3
 simp -implicitDefEqProofs
 refine Aa (hP h lv lt hh (by omega) (by omega)) ?_
 generalize Fz h lv lt=r
 simp -implicitDefEqProofs
theorem Auf (D:Dn) (hLV:GD (D Abi)) (hL:Xz (D Ph)) (hT:Ml (D AlE)) (hP:Kc (D AhH)):Mg (Body D KU):=by
 intro h path hh hb
 have hvl:=hh.1
 have hxl:=hh.2.1
 simp -implicitDefEqProofs [hvl]
 refine Aa (hLV path h.versions hb hh.1) ?_
 have hll:=Auv path h.versions
 have e:fallback h path=Fz h (Bo path h.versions) (Fu path (leftOf h.versions (Bo path h.versions)) h.exts):=rfl
 rw[e]
 generalize Bo path h.versions=lv at hll
 simp -implicitDefEqProofs
 refine Aa (hL h.versions lv hh.1 (by omega)) ?_
 have hl2:=Ls h.versions lv
 generalize leftOf h.versions lv=vs at hl2
 simp -implicitDefEqProofs
 refine Aa (hT path vs h.exts hb (by omega) hh.2) ?_
 have hl3:=Adj path vs h.exts
 generalize Fu path vs h.exts=lt at hl3
 simp -implicitDefEqProofs
 refine Aa (hP h lv lt hh (by omega) (by omega)) ?_
 generalize Fz h lv lt=r
 simp -implicitDefEqProofs
theorem AFu {h:Hello} {lv lt:List Int} (hh:hB h):hB (Fz h lv lt).1:=by
 unfold Fz
 split
 ·exact⟨Nat.le_trans (Ls _ _) hh.1,VW hh.2 (fun t=> !decide (t∈lt))⟩
 ·exact AkP
theorem ArI {h:Hello} {path:List Gu} (hh:hB h):hB (fallback h path).1:=AFu hh
def Cr (h:Hello) (path:List Gu):Hello×Int×Bool:=
 if CB h=true then(if Dt h path=true then(h,1,true)else if(fallback h path).2&&Dt (fallback h path).1 path then((fallback h path).1,2,true)else(AQ,2,false))else(AQ,0,false)
abbrev Me (R:Rel):Prop:=∀(h:Hello) (path:List Gu),hB h→lnS JI path→R [arg (CP h),.sl 1 4 path.length (path.flatMap Dy)] [] (.tup [.agg (CP (Cr h path).1),I (Cr h path).2.1,B (Cr h path).2.2]) []
theorem Asg (D:Dn) (hI:Eo (D GJ)) (hW:Gi (D Adp)) (hC:KZ (D Yh)) (hF:Mg (D ZK)):Me (Body D Sb):=by
 intro h path hh hb
 simp -implicitDefEqProofs
 refine Aa (hI h hh) ?_
 by_cases g1:CB h=true
 rotate_left
 ·simp -implicitDefEqProofs [g1,Cr,AQ]
 simp -implicitDefEqProofs [g1]
 refine Aa (hW h path hh hb) ?_
 by_cases g2:Dt h path=true
 ·simp -implicitDefEqProofs [g2]
  refine Aa (hC h hh) ?_
  simp -implicitDefEqProofs [Cr,g1,g2]
 simp -implicitDefEqProofs [g2]
 refine Aa (hF h path hh hb) ?_
 have hr:=ArI (path:=path) hh
 have e:Cr h path=(if(fallback h path).2&&Dt (fallback h path).1 path then((fallback h path).1,2,true)else(AQ,2,false)):=by unfold Cr;rw[if_pos g1,if_neg g2]
 rw[e]
 generalize fallback h path=r at hr
 by_cases g3:r.2=true
 rotate_left
 ·simp -implicitDefEqProofs [g3,AQ]
 simp -implicitDefEqProofs [g3]
 refine Aa (hW r.1 path hr hb) ?_
 by_cases g4:Dt r.1 path=true
 ·simp -implicitDefEqProofs [g3,g4]
 ·simp -implicitDefEqProofs [g3,g4,AQ]
theorem Aus (D:Dn) (hI:Eo (D Im)) (hW:Gi (D TH)) (hC:KZ (D Xn)) (hF:Mg (D Aae)):Me (Body D SA):=by
 intro h path hh hb
 simp -implicitDefEqProofs
 refine Aa (hI h hh) ?_
 by_cases g1:CB h=true
 rotate_left
 ·simp -implicitDefEqProofs [g1,Cr,AQ]
 simp -implicitDefEqProofs [g1]
 refine Aa (hW h path hh hb) ?_
 by_cases g2:Dt h path=true
 ·simp -implicitDefEqProofs [g2]
  refine Aa (hC h hh) ?_
  simp -implicitDefEqProofs [Cr,g1,g2]
 simp -implicitDefEqProofs [g2]
 refine Aa (hF h path hh hb) ?_
 have hr:=ArI (path:=path) hh
 have e:Cr h path=(if(fallback h path).2&&Dt (fallback h path).1 path then((fallback h path).1,2,true)else(AQ,2,false)):=by unfold Cr;rw[if_pos g1,if_neg g2]
 rw[e]
 generalize fallback h path=r at hr
 by_cases g3:r.2=true
 rotate_left
 ·simp -implicitDefEqProofs [g3,AQ]
 simp -implicitDefEqProofs [g3]
 refine Aa (hW r.1 path hr hb) ?_
 by_cases g4:Dt r.1 path=true
 ·simp -implicitDefEqProofs [g3,g4]
 ·simp -implicitDefEqProofs [g3,g4,AQ]
theorem Ayj {h:Hello} {path:List Gu} (hh:hB h):hB (Cr h path).1:=by
 unfold Cr
 split
 ·split
  ·exact hh
  ·split
   ·exact ArI hh
   ·exact AkP
 ·exact AkP
end Go.Eng.T
namespace Go.Eng.T
set_option maxRecDepth 20000
set_option maxHeartbeats 2000000
open Go.Lib (compact compactUpTo keeps)
abbrev Up (l:List Int):Prop:=l.Pairwise (· < ·)
theorem ACS:∀ {a b:List Int},Up a→Up b→(∀x,x∈a↔x∈b)→a=b
 | [],[],_,_,_=>rfl
 | [],y::b,_,_,h=>by have:=(h y).2 (by simp);simp at this
 | x::a,[],_,_,h=>by have:=(h x).1 (by simp);simp at this
 | x::a,y::b,ha,hb,h=>by
  rw[Up,List.pairwise_cons]at ha hb
  have hxy:x=y:=by
   have h1:=(h x).1 (by simp)
   have h2:=(h y).2 (by simp)
   rcases List.mem_cons.1 h1 with e | h1
   ·exact e
   ·rcases List.mem_cons.1 h2 with e | h2
    ·exact e.symm
    ·have:=hb.1 x h1;have:=ha.1 y h2;omega
  subst hxy
  congr 1
  refine ACS ha.2 hb.2 fun z=>⟨fun hz=> ?_,fun hz=> ?_⟩
  ·rcases List.mem_cons.1 ((h z).1 (by simp[hz]))with e | h1
   ·subst e;have:=ha.1 z hz;omega
   ·exact h1
  ·rcases List.mem_cons.1 ((h z).2 (by simp[hz]))with e | h1
   ·subst e;have:=hb.1 z hz;omega
   ·exact h1
theorem Vt:∀(l:List Int) (v x:Int),x∈F3 l v↔x∈l∨x=v:=by
 intro l v x
 unfold F3
 split
 ·rename_i h
  constructor
  ·exact .inl
  ·rintro (h1 | rfl)
   ·exact h1
   ·exact List.mem_of_getElem? h
 ·unfold Abl
  rw[List.mem_append,List.mem_cons]
  have:x∈l↔x∈l.take (FI l v)∨x∈l.drop (FI l v):=by
   conv=>lhs;rw[←List.take_append_drop (FI l v) l,List.mem_append]
  rw[this]
  constructor
  ·rintro (h1 | h1 | h1)
   ·exact .inl (.inl h1)
   ·exact .inr h1
   ·exact .inl (.inr h1)
  ·rintro ((h1 | h1) | h1)
   ·exact .inl h1
   ·exact .inr (.inr h1)
   ·exact .inr (.inl h1)
theorem AgC:∀(l:List Int) (v x:Int),x∈l.take (FI l v)→x<v
 | [],v,x,h=>by simp at h
 | y::r,v,x,h=>by
  simp only[FI]at h
  split at h
  ·rw[List.take_succ_cons]at h
   rcases List.mem_cons.1 h with rfl | h
   ·assumption
   ·exact AgC r v x h
  ·simp at h
theorem Aqh:∀ {l:List Int} (v:Int),Up l→Up (F3 l v):=by
 intro l v hl
 unfold F3
 split
 ·exact hl
 ·rename_i hne
  unfold Abl Up
  rw[List.pairwise_append,List.pairwise_cons]
  have hb:=AgC l v
  have hafter:∀y,y∈l.drop (FI l v)→v<y:=by
   intro y hy
   by_cases hk:FI l v<l.length
   ·have hs:=Apf (l:=l) (v:=v) hk (by
     intro hlt
     have key:∀(l:List Int) (h:FI l v<l.length),¬l[FI l v]<v:=by
      intro l
      induction l with
      | nil=>intro h;simp at h
      | cons x r ih=>
       intro h
       by_cases hx:x<v
       ·have e:FI (x::r) v=FI r v+1:=by simp[FI,hx]
        have h':FI r v<r.length:=by rw[e]at h;simpa using h
        have:=ih h'
        simp only[e,List.getElem_cons_succ]
        exact this
       ·have e:FI (x::r) v=0:=by simp[FI,hx]
        simp only[e,List.getElem_cons_zero]
        exact hx
     exact key l hk hlt)
    have key:∀(l:List Int) (h:FI l v<l.length),¬l[FI l v]<v:=by
     intro l
     induction l with
     | nil=>intro h;simp at h
     | cons x r ih=>
      intro h
      by_cases hx:x<v
      ·have e:FI (x::r) v=FI r v+1:=by simp[FI,hx]
       have h':FI r v<r.length:=by rw[e]at h;simpa using h
       have:=ih h'
       simp only[e,List.getElem_cons_succ]
       exact this
      ·have e:FI (x::r) v=0:=by simp[FI,hx]
       simp only[e,List.getElem_cons_zero]
       exact hx
    have h1:=key l hk
    have h2:l[FI l v]≠v:=by
     intro e;apply hne;rw[List.getElem?_eq_getElem hk,e]
    rw[List.drop_eq_getElem_cons hk]at hy
    have hp:(l[FI l v]::l.drop (FI l v+1)).Pairwise (· < ·):=by rw[←List.drop_eq_getElem_cons hk];exact hl.drop
    rw[List.pairwise_cons]at hp
    rcases List.mem_cons.1 hy with rfl | hy
    ·omega
    ·have:=hp.1 y hy;omega
   ·rw[List.drop_eq_nil_of_le (by omega)]at hy;simp at hy
  refine⟨hl.take,⟨hafter,hl.drop⟩,fun a ha b hb'=> ?_⟩
  have h1:=hb a ha
  rcases List.mem_cons.1 hb' with rfl | hb'
  ·exact h1
  ·have:=hafter b hb';omega
def Wi (l:List Int) (xs:List Int):List Int:=xs.foldl F3 l
theorem Ao5:∀ {xs l:List Int},Up l→Up (Wi l xs)
 | [],_,h=>h
 | x::xs,l,h=>Ao5 (xs:=xs) (Aqh x h)
theorem Al5:∀(xs l:List Int) (x:Int),x∈Wi l xs↔x∈l∨x∈xs
 | [],l,x=>by simp[Wi]
 | y::xs,l,x=>by
  have:=Al5 xs (F3 l y) x
  unfold Wi at *
  rw[List.foldl_cons,this,Vt,List.mem_cons]
  constructor
  ·rintro ((h | h) | h)
   ·exact .inl h
   ·exact .inr (.inl h)
   ·exact .inr (.inr h)
  ·rintro (h | h | h)
   ·exact .inl (.inl h)
   ·exact .inl (.inr h)
   ·exact .inr h
theorem AvY:∀(xs l:List Int),(Wi l xs).length≤l.length+xs.length
 | [],l=>by simp[Wi]
 | x::xs,l=>by
  have h1:=AvY xs (F3 l x)
  have h2:=VI l x
  unfold Wi at *
  simp only[List.foldl_cons,List.length_cons]
  omega
def Arr (r:BL) (i:Nat):BL:=⟨r.version,r.stages,i,r.off⟩
def SG (r:BL) (n:Int):Nat→Int
 | 0=>0
 | k+1=>max (SG r n k) (countIn (Arr r k) n)
end Go.Eng.T
namespace Go.Eng.T
set_option maxRecDepth 20000
end Go.Eng.T
namespace Go.Eng.T
set_option maxRecDepth 20000
set_option maxHeartbeats 2000000
theorem up9:∀ {l:List Int} {a:Int},Up l→(∀x,x∈l→a<x∧x≤9)→(l.length:Int)≤9-a∨l=[]
 | [],_,_,_=> .inr rfl
 | x::r,a,h,hb=>by
  rw[Up,List.pairwise_cons]at h
  have h0:=hb x (by simp)
  have:=up9 (l:=r) (a:=x) h.2 (fun y hy=>⟨h.1 y hy,(hb y (by simp[hy])).2⟩)
  left
  rcases this with h1 | rfl
  ·simp only[List.length_cons];omega
  ·simp;omega
theorem AtM {l:List Int} (h:AU l=true):l.length≤9:=by
 have:=up9 (l:=l) (a:=0) (Apy h) (fun x hx=>by have:=AxI h x hx;exact⟨by omega,by omega⟩)
 rcases this with h1 | rfl
 ·omega
 ·simp
end Go.Eng.T
namespace Go.Eng.T
set_option maxRecDepth 20000
set_option maxHeartbeats 1000000
theorem ABK {D:Dn} {c:Cf} {a:SC} {Q:Out→St→Prop} {s:St} (h:swp D c a (fun o s'=>match o with | .normal=>False | o=>Q o s') s):swp D c (.loop a) Q s:=⟨1,h⟩
def inB (t:Int):Bool:=decide (Pv t 0 255)
def AgN (b:List Int) (t:Int):Bool:= !decide (t∈b)&&inB t
def Wq (h x:Hello):List Int:=leftOf h.versions x.versions++((Ap h.exts).filter (AgN (Ap x.exts))).map (fun t=>1000+t)
theorem Azx (a b:List Int):(leftOf a b).filter inB=a.filter (AgN b):=by
 unfold leftOf
 rw[List.filter_filter]
 congr 1
 funext t
 unfold AgN
 cases inB t<;>cases decide (t∈b)<;>rfl
abbrev Qd (R:Rel):Prop:=∀h x:Hello,hB h→hB x→R [arg (CP h),arg (CP x)] [] (.sl 0 1 (Wq h x).length (ints (Wq h x))) []
theorem ApJ {p:Int→Bool} {a l:List Int} {j:Nat} (h:j<l.length):
 a++((l.take (j+1)).filter p).map (fun t=>1000+t)=(a++((l.take j).filter p).map (fun t=>1000+t))++(if p l[j]then [1000+l[j]]else []):=by
 rw[Kk h,List.map_append,List.append_assoc]
 split<;>simp
theorem AsC {p:Int→Bool} {a l:List Int} {j:Nat}:(a++((l.take j).filter p).map (fun t=>1000+t)).length≤a.length+j:=by
 have:=M5 (p:=p) (xs:=l) (j:=j)
 simp only[List.length_append,List.length_map];omega
theorem Axa (D:Dn) (hL:Xz (D Aar)) (hX:Rb (D TJ)) (hI:Qo (D BF)):Qd (Body D Ui):=by
 intro h x hh hx
 have hxl:=hx.2.1
 have hhl:=hh.2.1
 have hvl:=hh.1
 simp -implicitDefEqProofs
 refine Aa (hL h.versions x.versions hh.1 hx.1) ?_
 have hal:=Ls h.versions x.versions
 have e:Wq h x=leftOf h.versions x.versions++((Ap h.exts).filter (AgN (Ap x.exts))).map (fun t=>1000+t):=rfl
 rw[e]
 have hpd:∀t,AgN (Ap x.exts) t=(!decide (t∈Ap x.exts)&&inB t):=fun t=>rfl
 generalize leftOf h.versions x.versions=a at hal
 generalize AgN (Ap x.exts)=p at hpd
 have htl:(Ap h.exts).length=h.exts.length:=M0 _
 have hte:∀j (hj:j<h.exts.length),(Ap h.exts)[j]'(by omega)=h.exts[j].tag:=fun j hj=>by simp[Ap]
 obtain⟨l,hl⟩:∃l,l=Ap h.exts:=⟨_,rfl⟩
 rw[←hl]at htl⊢
 simp -implicitDefEqProofs
 refine Ad (fun k s=>∃j o3 o4,j+k=h.exts.length∧s=⟨[.undef,.undef,.ptr 0 0,.ptr 1 0,.undef,.arr 5,I j,.undef,.undef],[.var ((CP h).map (AL 1)),.var ((CP x).map (AL 1)),.free,o3,o4,.arr 1 0 (a++((l.take j).filter p).map (fun t=>1000+t)).length (ints (a++((l.take j).filter p).map (fun t=>1000+t)))]⟩) ?_ (h.exts.length) _ ⟨0,.free,.free,by simp,by simp⟩
 intro k s ⟨j,o3,o4,hj,hs⟩
 subst hs
 by_cases hjn:j<h.exts.length
 ·have hw:IntKind.i64.wrap ((j:Int)+1)=(j+1:Nat):=by rw[Ab (by omega) (by omega)];simp
  have hjl:j<l.length:=by omega
  have hlt:l[j]=h.exts[j].tag:=by subst hl;exact hte j hjn
  have hst:=ApJ (p:=p) (a:=a) hjl
  have hfl:=AsC (p:=p) (a:=a) (l:=l) (j:=j)
  have hb1:((a++((l.take j).filter p).map (fun t=>1000+t)).length+1)*8≤1099511627776:=by omega
  have hpt:=hpd l[j]
  rw[hlt]at hst hpt
  generalize a++((l.take j).filter p).map (fun t=>1000+t)=r at hst hfl hb1
  simp -implicitDefEqProofs [hjn]
  refine Aa (hX x.exts h.exts[j].tag (by unfold maxLen;omega)) ?_
  by_cases h1:h.exts[j].tag∈Ap x.exts
  ·have h3:¬p h.exts[j].tag=true:=by rw[hpt];simp[h1]
   have h1':¬JH x.exts h.exts[j].tag<0:=by rw[Mk];simpa using h1
   rw[if_neg h3,List.append_nil]at hst
   simp -implicitDefEqProofs [h1']
   have hsl:=congrArg List.length hst
   simp only[List.length_append,List.length_map]at hsl
   exact⟨k-1,by omega,j+1,by omega,by simp[hw],by omega,by rw[hst]⟩
  have h1':JH x.exts h.exts[j].tag<0:=by rw[Mk];exact h1
  simp -implicitDefEqProofs [h1',hjn]
  refine Aa (hI _ _ _) ?_
  by_cases h2:Pv h.exts[j].tag 0 255
  ·have h3:p h.exts[j].tag=true:=by rw[hpt];simp[h1,inB,h2]
   rw[if_pos h3]at hst
   have hw2:IntKind.i64.wrap (1000+h.exts[j].tag)=1000+h.exts[j].tag:=Ab (by have:=h2.1;omega) (by have:=h2.2;omega)
   simp -implicitDefEqProofs [h2,hjn,hb1,hw2]
   have hsl:=congrArg List.length hst
   simp only[List.length_append,List.length_map,List.length_cons,List.length_nil]at hsl
   exact⟨k-1,by omega,j+1,by omega,by simp[hw],by omega,by rw[hst]⟩
  ·have h3:¬p h.exts[j].tag=true:=by rw[hpt];simp[h1,inB,h2]
   rw[if_neg h3,List.append_nil]at hst
   simp -implicitDefEqProofs [h2]
   have hsl:=congrArg List.length hst
   simp only[List.length_append,List.length_map]at hsl
   exact⟨k-1,by omega,j+1,by omega,by simp[hw],by omega,by rw[hst]⟩
 ·have e2:=K7 (p:=p) (xs:=l) (j:=j) (by omega)
  simp -implicitDefEqProofs [hjn,e2]
theorem AwW (D:Dn) (hL:Xz (D Ph)) (hT:Lp (D Rz)) (hI:Qo (D BB)):Qd (Body D UU):=by
 intro h x hh hx
 have hxl:=hx.2.1
 have hhl:=hh.2.1
 have hvl:=hh.1
 simp -implicitDefEqProofs
 refine Aa (hL h.versions x.versions hh.1 hx.1) ?_
 have hal:=Ls h.versions x.versions
 have e:Wq h x=leftOf h.versions x.versions++((Ap h.exts).filter (AgN (Ap x.exts))).map (fun t=>1000+t):=rfl
 rw[e,←Azx]
 generalize leftOf h.versions x.versions=a at hal
 simp -implicitDefEqProofs
 refine Aa (hT h.exts hh.2.1) ?_
 simp -implicitDefEqProofs
 refine Aa (hT x.exts hx.2.1) ?_
 simp -implicitDefEqProofs
 refine Aa (hL (Ap h.exts) (Ap x.exts) (by rw[M0];omega) (by rw[M0];omega)) ?_
 have hll:=Ls (Ap h.exts) (Ap x.exts)
 rw[M0]at hll
 generalize leftOf (Ap h.exts) (Ap x.exts)=l at hll
 generalize hpd:inB=p
 simp -implicitDefEqProofs
 refine Ad (fun k s=>∃j v6 o6 o7,j+k=l.length∧s=⟨[.undef,.undef,.undef,.undef,.undef,.arr 8,v6,.arr 5,I l.length,I j,.undef,.undef],[.var ((CP h).map (AL 1)),.var ((CP x).map (AL 1)),.free,.arr 1 0 (Ap h.exts).length (ints (Ap h.exts)),.arr 1 0 (Ap x.exts).length (ints (Ap x.exts)),.arr 1 0 l.length (ints l),o6,o7,.arr 1 0 (a++((l.take j).filter p).map (fun t=>1000+t)).length (ints (a++((l.take j).filter p).map (fun t=>1000+t)))]⟩) ?_ (l.length) _ ⟨0,.undef,.free,.free,by simp,by simp⟩
 intro k s ⟨j,v6,o6,o7,hj,hs⟩
 subst hs
 by_cases hjn:j<l.length
 ·have hw:IntKind.i64.wrap ((j:Int)+1)=(j+1:Nat):=by rw[Ab (by omega) (by omega)];simp
  have hst:=ApJ (p:=p) (a:=a) hjn
  have hfl:=AsC (p:=p) (a:=a) (l:=l) (j:=j)
  have hb1:((a++((l.take j).filter p).map (fun t=>1000+t)).length+1)*8≤1099511627776:=by omega
  have hpt:p l[j]=inB l[j]:=by rw[hpd]
  generalize a++((l.take j).filter p).map (fun t=>1000+t)=r at hst hfl hb1
  simp -implicitDefEqProofs [hjn]
  refine Aa (hI _ _ _) ?_
  by_cases h2:Pv l[j] 0 255
  ·have h3:p l[j]=true:=by rw[hpt];simp[inB,h2]
   rw[if_pos h3]at hst
   have hw2:IntKind.i64.wrap (1000+l[j])=1000+l[j]:=Ab (by have:=h2.1;omega) (by have:=h2.2;omega)
   simp -implicitDefEqProofs [h2,hjn,hb1,hw2]
   have hsl:=congrArg List.length hst
   simp only[List.length_append,List.length_map,List.length_cons,List.length_nil]at hsl
   exact⟨k-1,by omega,j+1,by omega,by simp[hw],by omega,by rw[hst]⟩
  ·have h3:¬p l[j]=true:=by rw[hpt];simp[inB,h2]
   rw[if_neg h3,List.append_nil]at hst
   simp -implicitDefEqProofs [h2]
   have hsl:=congrArg List.length hst
   simp only[List.length_append,List.length_map]at hsl
   exact⟨k-1,by omega,j+1,by omega,by simp[hw],by omega,by rw[hst]⟩
 ·have e2:=K7 (p:=p) (xs:=l) (j:=j) (by omega)
  simp -implicitDefEqProofs [hjn,e2]
def Gd:AAc:=⟨false,0,[]⟩
def AfS (h seen:Hello) (vs tags:List Int) (key:Int):AAc:=
 if(Bh vs tags seen).2&&(EH h (Bh vs tags seen).1&&(!decide (Dj key [Bb h,AJ (Bh vs tags seen).1] 1=0)&&
  decide (Dj key [Bb h,AJ (Bh vs tags seen).1] 1=Dj key [Bb seen,AJ (Bh vs tags seen).1] 1)))
 then⟨true,(Bh vs tags seen).1.version,Ap (Bh vs tags seen).1.exts⟩else Gd
theorem AsB (h:Hello):(Bb h).length≤47:=by
 unfold Bb
 have:=Mv h.exts
 split
 ·rename_i hc
  have:=AtM (AzF hc)
  simp only[List.length_append,List.length_cons];omega
 ·simp
theorem Art (h:Hello) (a:SE):G5 [Bb h,AJ a]≤4194304:=by
 have h1:=AsB h
 have h2:=AhB a
 simp[G5,Cu]
 omega
theorem Amg {vs tags:List Int} {h:Hello} (hh:hB h):UY (Bh vs tags h).1.exts:=by
 unfold Bh
 split
 ·exact VW (VW hh.2 (fun t=>decide (t∈tags))) (fun t=> !Au t)
 ·exact Ada
def VG (h:Hello) (path:List Gu) (vs tags:List Int) (key:Int):AAc:=if(Ba path h).2=true then AfS h (Ba path h).1 vs tags key else Gd
abbrev Mh (R:Rel):Prop:=∀(h:Hello) (path:List Gu) (vs tags:List Int) (key:Int),hB h→lnS JI path→vs.length≤4194304→tags.length≤4194304→
 R [arg (CP h),.sl 1 4 path.length (path.flatMap Dy),.sl 1 1 vs.length (ints vs),.sl 1 1 tags.length (ints tags),I key] [] (.agg (Asq (VG h path vs tags key))) []
theorem At4 (D:Dn) (hP:FV (D ML)) (hC:TW (D Acd)) (hFi:JW (D Aix)) (hHB:IW (D Afe)) (hAB:HV (D Acv))
 (hF:RF (D AlV)) (hT:Lp (D Ady)):Mh (Body D Sw):=by
 intro h path vs tags key hh hb hv ht
 simp -implicitDefEqProofs
 refine Aa (hP path h hb hh) ?_
 have hr:=Qe (path:=path) hh
 unfold VG
 generalize Ba path h=r at hr
 by_cases g1:r.2=true
 rotate_left
 ·simp -implicitDefEqProofs [g1,Gd]
 obtain⟨seen,ok⟩:=r
 obtain rfl:ok=true:=g1
 dsimp only at hr⊢
 simp -implicitDefEqProofs
 refine Aa (hC vs tags seen hv ht hr) ?_
 have ha:=Amg (vs:=vs) (tags:=tags) hr
 unfold AfS
 generalize Bh vs tags seen=q at ha
 obtain⟨a,fine⟩:=q
 dsimp only at ha⊢
 by_cases g2:fine=true
 rotate_left
 ·simp -implicitDefEqProofs [g2,Gd]
 simp -implicitDefEqProofs [g2]
 refine Aa (hFi h a hh ha) ?_
 by_cases g3:EH h a=true
 rotate_left
 ·simp -implicitDefEqProofs [g3,Gd]
 simp -implicitDefEqProofs [g3]
 refine Aa (hHB h hh) ?_
 simp -implicitDefEqProofs
 refine Aa (hAB a ha) ?_
 simp -implicitDefEqProofs
 have hf:=hF key [Bb h,AJ a] 1 (Art h a)
 simp -implicitDefEqProofs [H8,JB]at hf
 refine Aa (hf) ?_
 generalize Dj key [Bb h,AJ a] 1=m
 by_cases g4:m=0
 ·simp -implicitDefEqProofs [g4,Gd]
 simp -implicitDefEqProofs [g4]
 refine Aa (hHB seen hr) ?_
 simp -implicitDefEqProofs [g4]
 refine Aa (hAB a ha) ?_
 simp -implicitDefEqProofs [g4]
 have hf2:=hF key [Bb seen,AJ a] 1 (Art seen a)
 simp -implicitDefEqProofs [H8,JB]at hf2
 refine Aa (hf2) ?_
 generalize Dj key [Bb seen,AJ a] 1=m2
 by_cases g5:m=m2
 rotate_left
 ·simp -implicitDefEqProofs [g4,g5,Gd]
 subst g5
 simp -implicitDefEqProofs [g4]
 refine Aa (hT a.exts ha.1) ?_
 simp -implicitDefEqProofs [g4]
abbrev AqK (R:Rel):Prop:=∀(h seen:Hello) (vs tags:List Int) (key:Int),hB h→hB seen→vs.length≤4194304→tags.length≤4194304→
 R [arg (CP h),arg (CP seen),.sl 1 1 vs.length (ints vs),.sl 1 1 tags.length (ints tags),I key,.sl 1 2 0 []] [] (.agg (Asq (AfS h seen vs tags key))) []
theorem AEB (D:Dn) (hC:TW (D Aca)) (hFi:JW (D AiJ)) (hHB:IW (D AeI)) (hAB:HV (D Acu))
 (hF:RF (D Yl)) (hK:WA (D AhW)) (hT:Lp (D Rz)):AqK (Body D WC):=by
 intro h seen vs tags key hh hr hv ht
 simp -implicitDefEqProofs
 refine Aa (hC vs tags seen hv ht hr) ?_
 have ha:=Amg (vs:=vs) (tags:=tags) hr
 unfold AfS
 generalize Bh vs tags seen=q at ha
 obtain⟨a,fine⟩:=q
 dsimp only at ha⊢
 have e:(!decide (Dj key [Bb h,AJ a] 1=0)&&decide (Dj key [Bb h,AJ a] 1=Dj key [Bb seen,AJ a] 1))=
  RS key [Bb h,AJ a] 1 (Dj key [Bb seen,AJ a] 1):=by
  unfold RS
  by_cases e1:Dj key [Bb h,AJ a] 1=Dj key [Bb seen,AJ a] 1
  ·rw[e1]
  ·have e2:¬Dj key [Bb seen,AJ a] 1=Dj key [Bb h,AJ a] 1:=fun h=>e1 h.symm
   simp[e1,e2]
 rw[e]
 by_cases g2:fine=true
 rotate_left
 ·simp -implicitDefEqProofs [g2,Gd]
 simp -implicitDefEqProofs [g2]
 refine ABK ?_
 simp -implicitDefEqProofs
 refine Aa (hHB seen hr) ?_
 simp -implicitDefEqProofs
 refine Aa (hAB a ha) ?_
 simp -implicitDefEqProofs
 have hf2:=hF key [Bb seen,AJ a] 1 (Art seen a)
 simp -implicitDefEqProofs [H8,JB]at hf2
 refine Aa (hf2) ?_
 generalize Dj key [Bb seen,AJ a] 1=m2
 simp -implicitDefEqProofs
 refine Aa (hFi h a hh ha) ?_
 by_cases g3:EH h a=true
 rotate_left
 ·simp -implicitDefEqProofs [g3,Gd]
 simp -implicitDefEqProofs [g3]
 refine Aa (hHB h hh) ?_
 simp -implicitDefEqProofs
 refine Aa (hAB a ha) ?_
 simp -implicitDefEqProofs
 have hk:=hK key [Bb h,AJ a] 1 m2 (Art h a)
 simp -implicitDefEqProofs [H8,JB]at hk
 refine Aa (hk) ?_
 generalize RS key [Bb h,AJ a] 1 m2=c
 by_cases g5:c=true
 rotate_left
 ·simp -implicitDefEqProofs [g5,Gd]
 simp -implicitDefEqProofs [g5]
 refine Aa (hT a.exts ha.1) ?_
 simp -implicitDefEqProofs
theorem AsQ (D:Dn) (hP:FV (D MF)) (hD:AqK (D Atp)):Mh (Body D RX):=by
 intro h path vs tags key hh hb hv ht
 simp -implicitDefEqProofs
 refine Aa (hP path h hb hh) ?_
 have hr:=Qe (path:=path) hh
 unfold VG
 generalize Ba path h=r at hr
 by_cases g1:r.2=true
 rotate_left
 ·simp -implicitDefEqProofs [g1,Gd]
 simp -implicitDefEqProofs [g1]
 refine Aa (hD h r.1 vs tags key hh hr hv ht) ?_
 simp -implicitDefEqProofs
def Atb (h:Hello) (path:List Gu) (vs tags:List Int) (key:Int):Eh:=
 if(Cr h path).2.2=true then⟨VG (Cr h path).1 path vs tags key,(Cr h path).2.1,Wq h (Cr h path).1⟩else⟨Gd,(Cr h path).2.1,[]⟩
abbrev AgE (R:Rel):Prop:=∀(h:Hello) (path:List Gu) (vs tags:List Int) (key:Int),hB h→lnS JI path→vs.length≤4194304→tags.length≤4194304→
 R [arg (CP h),.sl 1 4 path.length (path.flatMap Dy),.sl 1 1 vs.length (ints vs),.sl 1 1 tags.length (ints tags),I key] [] (.agg (A9 (Atb h path vs tags key))) []
theorem AFc (D:Dn) (hH:Me (D AjB)) (hO:Mh (D AjJ)) (hG:Qd (D Anx)):AgE (Body D Abk):=by
 intro h path vs tags key hh hb hv ht
 simp -implicitDefEqProofs
 refine Aa (hH h path hh hb) ?_
 have hr:=Ayj (path:=path) hh
 unfold Atb
 generalize Cr h path=r at hr
 obtain⟨x,n,ok⟩:=r
 dsimp only at hr⊢
 by_cases g1:ok=true
 rotate_left
 ·simp -implicitDefEqProofs [g1,Gd]
 simp -implicitDefEqProofs [g1]
 refine Aa (hO x path vs tags key hr hb hv ht) ?_
 simp -implicitDefEqProofs
 refine Aa (hG h x hh hr) ?_
 simp -implicitDefEqProofs [g1]
theorem AEK (D:Dn) (hH:Me (D Alo)) (hO:Mh (D Al0)) (hG:Qd (D Aog)):AgE (Body D AbP):=by
 intro h path vs tags key hh hb hv ht
 simp -implicitDefEqProofs
 refine Aa (hH h path hh hb) ?_
 have hr:=Ayj (path:=path) hh
 unfold Atb
 generalize Cr h path=r at hr
 obtain⟨x,n,ok⟩:=r
 dsimp only at hr⊢
 by_cases g1:ok=true
 rotate_left
 ·simp -implicitDefEqProofs [g1,Gd]
 simp -implicitDefEqProofs [g1]
 refine Aa (hO x path vs tags key hr hb hv ht) ?_
 simp -implicitDefEqProofs
 refine Aa (hG h x hh hr) ?_
 simp -implicitDefEqProofs [g1]
end Go.Eng.T
namespace Go.Eng.T
set_option maxRecDepth 20000
set_option maxHeartbeats 1000000
theorem Asp {l:List Ext} {k:Nat} (h:k≤l.length):part (KP (l.flatMap Bw) 2 0 k) 2 k (l.length-k)=(l.drop k).flatMap Bw:=by
 have h0:(l.flatMap Bw).length=l.length*2:=RP l
 have e1:l.flatMap Bw=(l.take k).flatMap Bw++(l.drop k).flatMap Bw:=by rw[←List.flatMap_append,List.take_append_drop]
 have h1:((l.take k).flatMap Bw).length=k*2:=by rw[RP];simp;omega
 have h2:((l.drop k).flatMap Bw).length=(l.length-k)*2:=by rw[RP];simp
 unfold part KP
 rw[e1]
 simp only[Nat.zero_mul,List.take_zero,List.nil_append,Nat.zero_add]
 rw[List.drop_left' h1,List.drop_left' (by simp),List.take_of_length_le (by omega)]
theorem AzQ {l:List Ext} {k:Nat} (h:k≤l.length):part (l.flatMap Bw) 2 0 k=(l.take k).flatMap Bw:=by
 have e1:l.flatMap Bw=(l.take k).flatMap Bw++(l.drop k).flatMap Bw:=by rw[←List.flatMap_append,List.take_append_drop]
 have h1:((l.take k).flatMap Bw).length=k*2:=by rw[RP];simp;omega
 unfold part
 rw[e1,Nat.zero_mul,List.drop_zero,List.take_left' h1]
def AkM (seed:Int):List Int:=List.replicate (pick seed 2 3).toNat (pick seed 3 256)
def Am5 (l:List Ext) (seed:Int):Nat:=(pick seed 1 (l.length+1)).toNat
def Dm (l:List Ext) (seed:Int):List Ext:=
 if EK l&&(decide (l.length<6)&& !decide (Oq seed∈Ap l))then l.take (Am5 l seed)++⟨Oq seed,AkM seed⟩::l.drop (Am5 l seed)else l
theorem AxJ (l:List Ext) (seed:Int) (h:l.length≤6):Am5 l seed≤l.length:=by
 have:=TR seed 1 (n:=l.length+1) ⟨by omega,by omega⟩
 unfold Am5;omega
theorem AsR (seed:Int):(AkM seed).length≤2:=by
 have:=TR seed 2 (n:=3) ⟨by omega,by omega⟩
 unfold AkM;simp;omega
abbrev JQ (R:Rel):Prop:=∀(l:List Ext) (seed:Int),UY l→R [.sl 1 2 l.length (l.flatMap Bw),I seed] [] (.sl 0 2 (Dm l seed).length ((Dm l seed).flatMap Bw)) []
theorem AqV (D:Dn) (hG:Ke (D Ag6)) (hC:Ps (D Aax)) (hA:Gc (D KW)) (hX:Rb (D TJ)) (hP:AaA (D Ac3)):JQ (Body D Q8):=by
 intro l seed hl
 have hll:=hl.1
 simp -implicitDefEqProofs
 refine Aa (hG seed) ?_
 obtain⟨t,ht⟩:∃t,t=Oq seed:=⟨_,rfl⟩
 rw[←ht]
 simp -implicitDefEqProofs
 refine Aa (hC l hl) ?_
 simp -implicitDefEqProofs
 refine Aa (hA l hl) ?_
 by_cases h1:EK l=true
 rotate_left
 ·simp -implicitDefEqProofs [h1,Dm]
 by_cases h2:l.length<6
 rotate_left
 ·have h2':(6:Int)≤l.length:=by omega
  simp -implicitDefEqProofs [h1,h2,h2',Dm]
 have h2':¬(6:Int)≤l.length:=by omega
 simp -implicitDefEqProofs [h1,h2']
 refine Aa (hX l t (by unfold maxLen;omega)) ?_
 by_cases h3:t∈Ap l
 ·have h3':0≤JH l t:=by
   by_cases h:JH l t<0
   ·rw[Mk]at h;exact absurd h3 h
   ·omega
  simp -implicitDefEqProofs [h1,h2,h3',h3,Dm,←ht]
 have h3':¬0≤JH l t:=by
  have:JH l t<0:=by rw[Mk];exact h3
  omega
 have e:Dm l seed=l.take (Am5 l seed)++⟨t,AkM seed⟩::l.drop (Am5 l seed):=by
  unfold Dm
  rw[if_pos]
  ·rw[ht]
  ·simp[h1,h2,←ht,h3]
 have hgp:=AxJ l seed (by omega)
 have hgb:=AsR seed
 rw[e]
 simp -implicitDefEqProofs [h3']
 refine Aa (hP seed 2 3) ?_
 have hp2:=TR seed 2 (n:=3) ⟨by omega,by omega⟩
 have eb:AkM seed=List.replicate (pick seed 2 3).toNat (pick seed 3 256):=rfl
 obtain⟨n,hn⟩:∃n:Nat,pick seed 2 3=n:=⟨(pick seed 2 3).toNat,by omega⟩
 rw[hn]at eb hp2⊢
 rw[Int.toNat_natCast]at eb
 rw[eb]at hgb⊢
 generalize hv:pick seed 3 256=v at *
 simp -implicitDefEqProofs
 refine Ad (fun k s=>∃j o2 o3,j+k=n∧s=⟨[.sl 1 2 l.length (l.flatMap Bw),I seed,.undef,.undef,.arr 0,.ptr 1 0,I k,.undef,.undef,.undef],[.arr 2 0 l.length (l.flatMap Bw),.var [I t,.arr 9],o2,o3,.free,.free,.free,.free,.free,.arr 1 0 j (ints (List.replicate j v))]⟩) ?_ (n) _ ⟨0,.free,.free,by simp,by simp[ints]⟩
 intro k s ⟨j,o2,o3,hj,hs⟩
 subst hs
 by_cases hjn:j<n
 ·have hk0:0<k:=by omega
  have hb1:(j+1)*8≤1099511627776:=by omega
  have hwk:IntKind.i64.wrap ((k:Int)-1)=(k-1:Nat):=by rw[Ab (by omega) (by omega)];omega
  simp -implicitDefEqProofs [hk0]
  refine Aa (hP seed 3 256) ?_
  rw[hv]
  simp -implicitDefEqProofs [hb1]
  exact⟨k-1,by omega,j+1,by omega,by simp[hwk],by simp[ints,List.replicate_succ']⟩
 have hk0:k=0:=by omega
 obtain rfl:j=n:=by omega
 subst hk0
 have hwl:IntKind.i64.wrap ((l.length:Int)+1)=(l.length:Int)+1:=Ab (by omega) (by omega)
 simp -implicitDefEqProofs [hwl]
 refine Aa (hP seed 1 (l.length+1)) ?_
 have hp1:=TR seed 1 (n:=(l.length:Int)+1) ⟨by omega,by omega⟩
 have eg:Am5 l seed=(pick seed 1 (l.length+1)).toNat:=rfl
 generalize pick seed 1 (l.length+1)=k1 at hp1 eg
 obtain⟨kk,rfl⟩:∃kk:Nat,k1=kk:=⟨k1.toNat,by omega⟩
 rw[Int.toNat_natCast]at eg
 rw[eg]at hgp⊢
 have hk1:(kk:Int)≤l.length:=by omega
 have hb2:kk*32≤1099511627776:=by omega
 have hb3:(kk+1)*32≤1099511627776:=by omega
 have hb4:(kk+1+(l.length-kk))*32≤1099511627776:=by omega
 simp -implicitDefEqProofs [hk1,hgp,hb2,hb3,hb4,Asp hgp,AzQ hgp]
 all_goals omega
theorem AvF {l:List Ext} (hl:UY l) (h6:l.length≤4194303) (seed:Int):UY (Dm l seed):=by
 unfold Dm
 split
 ·refine⟨?_,?_⟩
  ·simp;omega
  ·intro x hx
   rcases List.mem_append.1 hx with h | h
   ·exact hl.2 x (List.mem_of_mem_take h)
   ·rcases List.mem_cons.1 h with h | h
    ·subst h;have:=AsR seed;dsimp only;omega
    ·exact hl.2 x (List.mem_of_mem_drop h)
 ·exact hl
def bare (ts:List Int):List Ext:=ts.map fun t=>⟨t,[]⟩
theorem Nl (ts:List Int):(bare ts).length=ts.length:=by simp[bare]
theorem AkA {ts:List Int} (h:ts.length≤4194304):UY (bare ts):=⟨by rw[Nl];exact h,fun x hx=>by
 obtain⟨t,_,rfl⟩:=List.mem_map.1 hx;simp⟩
theorem Apt {ts:List Int} {j:Nat} (h:j<ts.length):(bare (ts.take j)).flatMap Bw++ [.sc (.int .i64 ts[j]),.sl 0 1 0 []]=(bare (ts.take (j+1))).flatMap Bw:=by
 have e:ts.take (j+1)=ts.take j++ [ts[j]]:=by simp
 rw[e]
 unfold bare
 rw[List.map_append,List.flatMap_append]
 rfl
def H9 (e:Aq) (seed:Int):Hello:=if Ay e=true then⟨e.versions,Dm (bare e.tags) seed⟩else AQ
abbrev PZ (R:Rel):Prop:=∀(e:Aq) (seed:Int),Ar e≤4194304→R [arg (Ak e),I seed] [] (.agg (CP (H9 e seed))) []
theorem Wj {e:Aq} (h:Ay e=true):e.tags.length≤5:=by
 unfold Ay at h
 simp only[Bool.and_eq_true,decide_eq_true_eq]at h
 exact h.2.1
theorem AmL {e:Aq} (hsz:Ar e≤4194304) (seed:Int):hB (H9 e seed):=by
 unfold H9
 split
 ·rename_i h
  have:=Wj h
  exact⟨Zf hsz,AvF (AkA (by omega)) (by rw[Nl];omega) seed⟩
 ·exact AkP
theorem Awu (D:Dn) (hE:Fb (D OX)) (hG:JQ (D AhF)):PZ (Body D Ud):=by
 intro e seed hsz
 have hl:=Abs hsz
 have hv:=Zf hsz
 simp -implicitDefEqProofs
 refine Aa (hE e hl) ?_
 by_cases h1:Ay e=true
 rotate_left
 ·simp -implicitDefEqProofs [h1,H9,AQ]
 have h5:=Wj h1
 have he:H9 e seed=⟨e.versions,Dm (bare e.tags) seed⟩:=by unfold H9;rw[if_pos h1]
 rw[he]
 have hb2:e.versions.length*8≤1099511627776:=by omega
 simp -implicitDefEqProofs [h1]
 refine Ad (fun k s=>∃j o3 o4,j+k=e.tags.length∧s=⟨[.undef,I seed,.ptr 0 0,.ptr 1 0,.arr 8,I j,.undef,.undef],[.var ((Ak e).map (AL 1)),.var [.nil 1,.nil 2],.free,o3,o4,.free,.free,.free,.arr 2 0 j ((bare (e.tags.take j)).flatMap Bw)]⟩) ?_ (e.tags.length) _ ⟨0,.free,.free,by simp,by simp[bare]⟩
 intro k s ⟨j,o3,o4,hj,hs⟩
 subst hs
 by_cases hjn:j<e.tags.length
 ·have hw:IntKind.i64.wrap ((j:Int)+1)=(j+1:Nat):=by rw[Ab (by omega) (by omega)];simp
  have hst:=Apt hjn
  have hb1:(j+1)*32≤1099511627776:=by omega
  have hlen:(bare (e.tags.take j)).length=j:=by rw[Nl];simp;omega
  have hlen2:(bare (e.tags.take (j+1))).length=j+1:=by rw[Nl];simp;omega
  simp -implicitDefEqProofs [hjn,hb1]
  exact⟨k-1,by omega,j+1,by omega,by simp[hw],by rw[←hst];exact⟨rfl,rfl⟩⟩
 have e2:e.tags.take j=e.tags:=List.take_of_length_le (by omega)
 obtain rfl:j=e.tags.length:=by omega
 simp -implicitDefEqProofs [hjn,e2,hb2]
 have hq:=hG (bare e.tags) seed (AkA (by omega))
 rw[Nl]at hq
 refine Aa (hq) ?_
 simp -implicitDefEqProofs
theorem AwL (D:Dn) (hE:Fb (D OU)) (hG:JQ (D AhR)):PZ (Body D UE):=by
 intro e seed hsz
 have hl:=Abs hsz
 have hv:=Zf hsz
 simp -implicitDefEqProofs
 refine Aa (hE e hl) ?_
 by_cases h1:Ay e=true
 rotate_left
 ·simp -implicitDefEqProofs [h1,H9,AQ]
 have h5:=Wj h1
 have he:H9 e seed=⟨e.versions,Dm (bare e.tags) seed⟩:=by unfold H9;rw[if_pos h1]
 rw[he]
 have hb2:e.versions.length*8≤1099511627776:=by omega
 simp -implicitDefEqProofs [h1]
 refine Ad (fun k s=>∃j o3 o4,j+k=e.tags.length∧s=⟨[.undef,I seed,.ptr 0 0,.ptr 1 0,.arr 8,.undef,.undef,.sl 1 1 e.tags.length (ints e.tags),I e.tags.length,I j,.undef],[.var ((Ak e).map (AL 1)),.var [.nil 1,.nil 2],.free,o3,o4,.free,.free,.free,.arr 2 0 j ((bare (e.tags.take j)).flatMap Bw)]⟩) ?_ (e.tags.length) _ ⟨0,.free,.free,by simp,by simp[bare]⟩
 intro k s ⟨j,o3,o4,hj,hs⟩
 subst hs
 by_cases hjn:j<e.tags.length
 ·have hw:IntKind.i64.wrap ((j:Int)+1)=(j+1:Nat):=by rw[Ab (by omega) (by omega)];simp
  have hst:=Apt hjn
  have hb1:(j+1)*32≤1099511627776:=by omega
  have hlen:(bare (e.tags.take j)).length=j:=by rw[Nl];simp;omega
  have hlen2:(bare (e.tags.take (j+1))).length=j+1:=by rw[Nl];simp;omega
  simp -implicitDefEqProofs [hjn,hb1]
  exact⟨k-1,by omega,j+1,by omega,by simp[hw],by rw[←hst];exact⟨rfl,rfl⟩⟩
 have e2:e.tags.take j=e.tags:=List.take_of_length_le (by omega)
 obtain rfl:j=e.tags.length:=by omega
 simp -implicitDefEqProofs [hjn,e2,hb2]
 have hq:=hG (bare e.tags) seed (AkA (by omega))
 rw[Nl]at hq
 refine Aa (hq) ?_
 simp -implicitDefEqProofs
def Nn:Eh:=⟨Gd,0,[]⟩
def Lm (e:Aq) (vs tags:List Int) (key seed:Int):Eh:=if Ay e=true then Atb (H9 e seed) e.path vs tags key else Nn
abbrev Qg (R:Rel):Prop:=∀(e:Aq) (vs tags:List Int) (key seed:Int),Ar e≤4194304→vs.length≤4194304→tags.length≤4194304→
 R [arg (Ak e),.sl 1 1 vs.length (ints vs),.sl 1 1 tags.length (ints tags),I key,I seed] [] (.agg (A9 (Lm e vs tags key seed))) []
theorem AwV (D:Dn) (hE:Fb (D OX)) (hH:PZ (D AoP)) (hD:AgE (D Avj)):Qg (Body D U8):=by
 intro e vs tags key seed hsz hv ht
 have hl:=Abs hsz
 simp -implicitDefEqProofs
 refine Aa (hE e hl) ?_
 by_cases h1:Ay e=true
 rotate_left
 ·simp -implicitDefEqProofs [h1,Lm,Nn,Gd]
 simp -implicitDefEqProofs [h1]
 refine Aa (hH e seed hsz) ?_
 have hh:=AmL hsz seed
 have he:Lm e vs tags key seed=Atb (H9 e seed) e.path vs tags key:=by unfold Lm;rw[if_pos h1]
 rw[he]
 generalize H9 e seed=h at hh
 simp -implicitDefEqProofs
 refine Aa (hD h e.path vs tags key hh hl.2.2 hv ht) ?_
 simp -implicitDefEqProofs
theorem Axd (D:Dn) (hE:Fb (D OU)) (hH:PZ (D AnN)) (hD:AgE (D AvV)):Qg (Body D UR):=by
 intro e vs tags key seed hsz hv ht
 have hl:=Abs hsz
 simp -implicitDefEqProofs
 refine Aa (hE e hl) ?_
 by_cases h1:Ay e=true
 rotate_left
 ·simp -implicitDefEqProofs [h1,Lm,Nn,Gd]
 simp -implicitDefEqProofs [h1]
 refine Aa (hH e seed hsz) ?_
 have hh:=AmL hsz seed
 have he:Lm e vs tags key seed=Atb (H9 e seed) e.path vs tags key:=by unfold Lm;rw[if_pos h1]
 rw[he]
 generalize H9 e seed=h at hh
 simp -implicitDefEqProofs
 refine Aa (hD h e.path vs tags key hh hl.2.2 hv ht) ?_
 simp -implicitDefEqProofs
def clip (n:Int):Int:=max (-100000) (min 100000 n)
abbrev AxR (R:Rel):Prop:=∀n:Int,R [I n] [] (I (clip n)) []
theorem AAz (D:Dn) (hM:Aup (D Apa)) (hN:Axz (D AAH)):AxR (Body D Ut):=by
 intro n
 simp -implicitDefEqProofs
 refine Aa (hN _ _) ?_
 simp -implicitDefEqProofs
 refine Aa (hM _ _) ?_
 simp -implicitDefEqProofs [clip]
def LA (w:World) (i:Int):Eh:=if Po i 0 ((w.ends.length:Int)-1)then(match w.ends[i.toNat]? with | some e=>Lm e w.server w.tags w.key (16*clip w.now+i) | none=>Nn)else Nn
abbrev TY (R:Rel):Prop:=∀(w:World) (i:Int),Af w≤4194304→R [arg (Bn w),I i] [] (.agg (A9 (LA w i))) []
theorem Axs (n:Int):-100000≤clip n∧clip n≤100000:=by unfold clip;omega
theorem AzE (D:Dn) (hI:Qo (D BF)) (hC:AxR (D Aoj)) (hB:Qg (D Aoo)):TY (Body D Wo):=by
 intro w i hsz
 have he:=ER hsz
 have hw:IntKind.i64.wrap ((w.ends.length:Int)-1)=(w.ends.length:Int)-1:=Ab (by omega) (by omega)
 simp -implicitDefEqProofs [hw]
 refine Aa (hI _ _ _) ?_
 by_cases h1:Po i 0 ((w.ends.length:Int)-1)
 rotate_left
 ·simp -implicitDefEqProofs [h1,LA,Nn,Gd]
 obtain⟨n,rfl⟩:∃n:Nat,i=n:=⟨i.toNat,by have:=h1.1;omega⟩
 have hn:n<w.ends.length:=by have:=h1.2;omega
 have hb:=Ms hsz
 have hes:=Vw hsz hn
 have e:LA w n=Lm w.ends[n] w.server w.tags w.key (16*clip w.now+n):=by unfold LA;rw[if_pos h1];simp[hn]
 rw[e]
 simp -implicitDefEqProofs [h1,hn]
 refine Aa (hC w.now) ?_
 have hcl:=Axs w.now
 generalize clip w.now=c at hcl
 have hw1:IntKind.i64.wrap (16*c)=16*c:=Ab (by omega) (by omega)
 have hw2:IntKind.i64.wrap (16*c+n)=16*c+n:=Ab (by omega) (by omega)
 simp -implicitDefEqProofs [hw1,hw2]
 refine Aa (hB w.ends[n] w.server w.tags w.key _ hes hb.1 hb.2.1) ?_
 simp -implicitDefEqProofs
theorem AyF (D:Dn) (hI:Ajs (D ApS)) (hB:Qg (D Anu)):TY (Body D WG):=by
 intro w i hsz
 have he:=ER hsz
 simp -implicitDefEqProofs
 refine Aa (hI w i he) ?_
 by_cases h1:Po i 0 ((w.ends.length:Int)-1)
 rotate_left
 ·simp -implicitDefEqProofs [h1,LA,Nn,Gd]
 obtain⟨n,rfl⟩:∃n:Nat,i=n:=⟨i.toNat,by have:=h1.1;omega⟩
 have hn:n<w.ends.length:=by have:=h1.2;omega
 have hb:=Ms hsz
 have hes:=Vw hsz hn
 have e:LA w n=Lm w.ends[n] w.server w.tags w.key (16*clip w.now+n):=by unfold LA;rw[if_pos h1];simp[hn]
 rw[e]
 simp -implicitDefEqProofs [h1,hn]
 have hc:(if(if 100000<w.now then 100000 else w.now)< -100000 then -100000 else if 100000<w.now then 100000 else w.now)=clip w.now:=by
  unfold clip
  split<;>split<;>omega
 rw[hc]
 have hcl:=Axs w.now
 generalize clip w.now=c at hcl
 have hw1:IntKind.i64.wrap (16*c)=16*c:=Ab (by omega) (by omega)
 have hw2:IntKind.i64.wrap (16*c+n)=16*c+n:=Ab (by omega) (by omega)
 rw[hw1,hw2]
 refine Aa (hB w.ends[n] w.server w.tags w.key _ hes hb.1 hb.2.1) ?_
 simp -implicitDefEqProofs
end Go.Eng.T
namespace Go.Eng.T
set_option maxRecDepth 20000
set_option maxHeartbeats 4000000
end Go.Eng.T
namespace Go.Eng.T
set_option maxRecDepth 20000
set_option maxHeartbeats 2000000
theorem Ajp (p:Int→Bool) (l:List Ext):(kept p l).length≤l.length:=List.length_filter_le _ _
theorem AvU (b:Gu) (h:Hello):(BM b h).1.exts.length≤h.exts.length:=by
 unfold BM
 split
 ·exact Ajp _ _
 ·simp[AQ]
theorem Apm:∀(path:List Gu) (h:Hello),(Ik path h).1.exts.length≤h.exts.length
 | [],h=>by simp[Ik]
 | b::r,h=>by
  have h1:=AvU b h
  have h2:=Apm r (BM b h).1
  unfold Ik
  split
  ·omega
  ·simp[AQ]
theorem AtL (path:List Gu) (h:Hello):(Ba path h).1.exts.length≤h.exts.length:=by
 unfold Ba
 split
 ·exact Apm _ _
 ·simp[AQ]
theorem AF6 (h:Hello) (a b:List Int):(Fz h a b).1.exts.length≤h.exts.length:=by
 unfold Fz
 split
 ·exact Ajp (fun t=> !decide (t∈b)) h.exts
 ·simp[AQ]
theorem AEG (h:Hello) (path:List Gu):(Cr h path).1.exts.length≤h.exts.length:=by
 unfold Cr fallback
 have:=AF6 h (Bo path h.versions) (Fu path (leftOf h.versions (Bo path h.versions)) h.exts)
 repeat' split
 all_goals simp[AQ]<;>omega
theorem Az6 (h seen:Hello) (vs tags:List Int) (key:Int):(AfS h seen vs tags key).tags.length≤seen.exts.length:=by
 unfold AfS
 split
 ·have:(Bh vs tags seen).1.exts.length≤seen.exts.length:=by
   unfold Bh
   split
   ·exact Nat.le_trans (Ajp (fun t=> !Au t) (Ll seen.exts tags)) (Ajp (fun t=>decide (t∈tags)) seen.exts)
   ·simp
  simpa[Ap]using this
 ·simp[Gd]
theorem AFj (h:Hello) (path:List Gu) (vs tags:List Int) (key:Int):DW (Atb h path vs tags key)≤2*h.exts.length+h.versions.length:=by
 unfold Atb
 split
 ·have h1:=AEG h path
  have h2:=AtL path (Cr h path).1
  have h3:(VG (Cr h path).1 path vs tags key).tags.length≤h.exts.length:=by
   unfold VG
   split
   ·have:=Az6 (Cr h path).1 (Ba path (Cr h path).1).1 vs tags key;omega
   ·simp[Gd]
  have h4:(Wq h (Cr h path).1).length≤h.exts.length+h.versions.length:=by
   unfold Wq leftOf
   have a1:=List.length_filter_le (fun v=> !decide (v∈(Cr h path).1.versions)) h.versions
   have a2:=List.length_filter_le (AgN (Ap (Cr h path).1.exts)) (Ap h.exts)
   have a3:(Ap h.exts).length=h.exts.length:=M0 _
   simp only[List.length_append,List.length_map]
   omega
  simp only[DW,YJ]
  omega
 ·simp[DW,YJ,Gd]
theorem AAC (l:List Ext) (seed:Int) (h:l.length≤5):(Dm l seed).length≤6:=by
 unfold Dm
 split
 ·simp;omega
 ·omega
theorem Aw6 (e:Aq) (vs tags:List Int) (key seed:Int):DW (Lm e vs tags key seed)≤21:=by
 unfold Lm
 split
 ·rename_i h1
  have h5:=Wj h1
  have e1:H9 e seed=⟨e.versions,Dm (bare e.tags) seed⟩:=by unfold H9;rw[if_pos h1]
  have h2:=AFj (H9 e seed) e.path vs tags key
  have h3:=AAC (bare e.tags) seed (by rw[Nl];exact h5)
  have h4:e.versions.length≤9:=by
   unfold Ay at h1
   simp only[Bool.and_eq_true,decide_eq_true_eq]at h1
   exact AtM h1.1
  rw[e1]at h2⊢
  dsimp only at h2⊢
  omega
 ·simp[DW,YJ,Nn,Gd]
theorem Apl (w:World) (i:Int):DW (LA w i)≤21:=by
 unfold LA
 repeat' split
 all_goals first | exact Aw6 _ _ _ _ _ | simp[DW,YJ,Nn,Gd]
def Y5 (w:World) (i:Int) (d:Eh) (on:Bool):World:=
 {w with log:=w.log++ [⟨i,w.now,on,d⟩],stage:=(if on=true then w.stage++ [d]else w.stage),hurt:=(if(on&&NK w.rollout.version d)=true then IntKind.i64.wrap (w.hurt+1)else w.hurt)}
def Ze (w:World) (i:Int):Bool:=decide (Po i 0 ((w.ends.length:Int)-1))&&(decide (w.log.length<60)&&decide (w.stage.length<60))
def EW (w:World) (i:Int):World×Bool:=if Ze w i=true then(Y5 w i (LA w i) (WI w i),true)else(w,false)
abbrev Y7 (R:Rel):Prop:=∀(w:World) (i:Int),Af w≤4194304→R [arg (Bn w),I i] [] (.tup [.agg (Bn (EW w i).1),B (EW w i).2]) []
theorem Aum (D:Dn) (hC:Ga (D Db)) (hI:Qo (D BF)) (hDo:TY (D AqU)) (hOn:Aeq (D AoF)) (hCd:VN (D Xp)) (hB:F4 (D AiF)):Y7 (Body D Sm):=by
 intro w i hsz
 have he:=ER hsz
 have hw:IntKind.i64.wrap ((w.ends.length:Int)-1)=(w.ends.length:Int)-1:=Ab (by omega) (by omega)
 simp -implicitDefEqProofs
 refine Aa (hC w hsz) ?_
 simp -implicitDefEqProofs [hw]
 refine Aa (hI _ _ _) ?_
 by_cases h1:Po i 0 ((w.ends.length:Int)-1)
 rotate_left
 ·simp -implicitDefEqProofs [h1,EW,Ze]
 by_cases h2:w.log.length<60
 rotate_left
 ·have h2':(60:Int)≤w.log.length:=by omega
  simp -implicitDefEqProofs [h1,h2,h2',EW,Ze]
 have h2':¬(60:Int)≤w.log.length:=by omega
 by_cases h3:w.stage.length<60
 rotate_left
 ·have h3':(60:Int)≤w.stage.length:=by omega
  simp -implicitDefEqProofs [h1,h2,h2',h3,h3',EW,Ze]
 have h3':¬(60:Int)≤w.stage.length:=by omega
 have e:EW w i=(Y5 w i (LA w i) (WI w i),true):=by unfold EW Ze;rw[if_pos (by simp[h1,h2,h3])]
 rw[e]
 have hds:=Apl w i
 simp -implicitDefEqProofs [h1,h2',h3']
 refine Aa (hDo w i hsz) ?_
 generalize LA w i=d at hds
 simp -implicitDefEqProofs
 refine Aa (hOn w i hsz) ?_
 generalize WI w i=on
 have b1:(w.log.length+1)*96≤1099511627776:=by omega
 have b2:(w.stage.length+1)*72≤1099511627776:=by omega
 have b3:d.up.length≤maxLen:=by unfold DW at hds;unfold maxLen;omega
 by_cases g:on=true
 rotate_left
 ·simp -implicitDefEqProofs [g,b1,Y5,Av]
 simp -implicitDefEqProofs [g,b1]
 trace_state
 refine Aa (hCd d (by omega)) ?_
 simp -implicitDefEqProofs [g,b1,b2]
 refine Aa (hB d _ b3) ?_
 by_cases g2:NK w.rollout.version d=true
 ·simp -implicitDefEqProofs [g,g2,b1,b2,Y5,Av,A9]
 ·simp -implicitDefEqProofs [g,g2,b1,b2,Y5,Av,A9]
theorem Ana (D:Dn) (hC:Ga (D ABi)) (hI:Ajs (D ApS)) (hDo:TY (D Ari)) (hOn:Aeq (D AEe)) (hCd:VN (D AAF)) (hB:F4 (D Ag5)):Y7 (Body D O8):=by
 intro w i hsz
 have he:=ER hsz
 simp -implicitDefEqProofs
 refine Aa (hC w hsz) ?_
 simp -implicitDefEqProofs
 refine Aa (hI w i he) ?_
 by_cases h1:Po i 0 ((w.ends.length:Int)-1)
 rotate_left
 ·simp -implicitDefEqProofs [h1,EW,Ze]
 by_cases h2:w.log.length<60
 rotate_left
 ·have h2':(60:Int)≤w.log.length:=by omega
  simp -implicitDefEqProofs [h1,h2,h2',EW,Ze]
 have h2':¬(60:Int)≤w.log.length:=by omega
 by_cases h3:w.stage.length<60
 rotate_left
 ·have h3':(60:Int)≤w.stage.length:=by omega
  simp -implicitDefEqProofs [h1,h2,h2',h3,h3',EW,Ze]
 have h3':¬(60:Int)≤w.stage.length:=by omega
 have e:EW w i=(Y5 w i (LA w i) (WI w i),true):=by unfold EW Ze;rw[if_pos (by simp[h1,h2,h3])]
 rw[e]
 have hds:=Apl w i
 simp -implicitDefEqProofs [h1,h2',h3']
 refine Aa (hDo w i hsz) ?_
 generalize LA w i=d at hds
 simp -implicitDefEqProofs
 refine Aa (hOn w i hsz) ?_
 generalize WI w i=on
 have b1:(w.log.length+1)*96≤1099511627776:=by omega
 have b2:(w.stage.length+1)*72≤1099511627776:=by omega
 have b3:d.up.length≤maxLen:=by unfold DW at hds;unfold maxLen;omega
 by_cases g:on=true
 rotate_left
 ·simp -implicitDefEqProofs [g,b1,Y5,Av]
 simp -implicitDefEqProofs [g,b1]
 trace_state
 refine Aa (hCd d (by omega)) ?_
 simp -implicitDefEqProofs [g,b1,b2]
 refine Aa (hB d _ b3) ?_
 by_cases g2:NK w.rollout.version d=true
 ·simp -implicitDefEqProofs [g,g2,b1,b2,Y5,Av,A9]
 ·simp -implicitDefEqProofs [g,g2,b1,b2,Y5,Av,A9]
theorem Acl (w:World) (i:Int):Af (EW w i).1+(60-(EW w i).1.log.length)*50≤Af w+(60-w.log.length)*50∧(EW w i).1.ends=w.ends∧(EW w i).1.rollout=w.rollout:=by
 unfold EW
 split
 ·rename_i h
  unfold Ze at h
  simp only[Bool.and_eq_true,decide_eq_true_eq]at h
  have hd:=Apl w i
  refine⟨?_,rfl,rfl⟩
  unfold Y5
  simp only[Af,Cu,List.length_append,List.length_cons,List.length_nil,List.map_append,List.map_cons,List.map_nil,List.sum_append,List.sum_cons,List.sum_nil,Ce]
  split
  ·simp only[List.length_append,List.length_cons,List.length_nil,List.map_append,List.map_cons,List.map_nil,List.sum_append,List.sum_cons,List.sum_nil];omega
  ·omega
 ·exact⟨Nat.le_refl _,rfl,rfl⟩
def Ayd (w:World):Nat→World
 | 0=>w
 | n+1=>(EW (Ayd w n) n).1
def TF (w:World):World:=Ayd w w.ends.length
theorem AyZ (w:World):∀n,Af (Ayd w n)+(60-(Ayd w n).log.length)*50≤Af w+(60-w.log.length)*50
 | 0=>Nat.le_refl _
 | n+1=>Nat.le_trans (Acl (Ayd w n) n).1 (AyZ w n)
theorem Ag4 (w:World) (n:Nat):Af (Ayd w n)≤Af w+3000:=by have:=AyZ w n;omega
abbrev PV (R:Rel):Prop:=∀w:World,Af w≤4190000→R [arg (Bn w)] [] (.agg (Bn (TF w))) []
theorem Apu (D:Dn) (hC:Ga (D Db)) (hD:Y7 (D AjE)):PV (Body D QV):=by
 intro w hsz
 have he:=ER (w:=w) (by omega)
 simp -implicitDefEqProofs
 refine Aa (hC w (by omega)) ?_
 simp -implicitDefEqProofs
 refine Ad (fun k s=>∃j,j+k=w.ends.length∧s=⟨[.undef,.ptr 0 0,.ptr 1 0,.ptr 8 0,I j,.undef],[.var ((Bn w).map (AL 1)),.var [.nil 1,.nil 1,I 0,.nil 4,I 0,.nil 1,I 0,B false,I 0,I 0,.nil 5,.nil 8,I 0,I 0,I 0],.free,.free,.free,.free,.free,.free,.var [.arr 15,.arr 16,I (Ayd w j).key,.arr 17,I (Ayd w j).rollout.version,.arr 18,I (Ayd w j).rollout.pos,B (Ayd w j).rollout.off,I (Ayd w j).least,I (Ayd w j).percent,.arr 19,.arr 20,I (Ayd w j).now,I (Ayd w j).hurt,I (Ayd w j).reached],.free,.free,.free,.free,.free,.free,.arr 1 0 (Ayd w j).server.length (ints (Ayd w j).server),.arr 1 0 (Ayd w j).tags.length (ints (Ayd w j).tags),.arr 4 0 (Ayd w j).ends.length ((Ayd w j).ends.flatMap Ak),.arr 1 0 (Ayd w j).rollout.stages.length (ints (Ayd w j).rollout.stages),.arr 5 0 (Ayd w j).stage.length ((Ayd w j).stage.flatMap A9),.arr 8 0 (Ayd w j).log.length ((Ayd w j).log.flatMap Av)]⟩) ?_ (w.ends.length) _ ⟨0,by simp,by simp[Ayd]⟩
 intro k s ⟨j,hj,hs⟩
 subst hs
 by_cases hjn:j<w.ends.length
 ·have hw:IntKind.i64.wrap ((j:Int)+1)=(j+1:Nat):=by rw[Ab (by omega) (by omega)];simp
  simp -implicitDefEqProofs [hjn]
  refine Aa (hD (Ayd w j) j (by have:=Ag4 w j;omega)) ?_
  have e:(EW (Ayd w j) j).1=Ayd w (j+1):=rfl
  rw[e]
  simp -implicitDefEqProofs
  exact⟨k-1,by omega,j+1,by omega,by simp[hw]⟩
 ·obtain rfl:j=w.ends.length:=by omega
  simp -implicitDefEqProofs [TF]
theorem Apz (D:Dn) (hC:Ga (D ABi)) (hD:Y7 (D ACx)):PV (Body D RD):=by
 intro w hsz
 have he:=ER (w:=w) (by omega)
 simp -implicitDefEqProofs
 refine Aa (hC w (by omega)) ?_
 simp -implicitDefEqProofs
 refine Ad (fun k s=>∃j,j+k=w.ends.length∧s=⟨[.undef,.undef,.ptr 1 0,.ptr 8 0,.undef,I w.ends.length,I j,.undef],[.var ((Bn w).map (AL 1)),.var [.nil 1,.nil 1,I 0,.nil 4,I 0,.nil 1,I 0,B false,I 0,I 0,.nil 5,.nil 8,I 0,I 0,I 0],.free,.free,.free,.free,.free,.free,.var [.arr 15,.arr 16,I (Ayd w j).key,.arr 17,I (Ayd w j).rollout.version,.arr 18,I (Ayd w j).rollout.pos,B (Ayd w j).rollout.off,I (Ayd w j).least,I (Ayd w j).percent,.arr 19,.arr 20,I (Ayd w j).now,I (Ayd w j).hurt,I (Ayd w j).reached],.free,.free,.free,.free,.free,.free,.arr 1 0 (Ayd w j).server.length (ints (Ayd w j).server),.arr 1 0 (Ayd w j).tags.length (ints (Ayd w j).tags),.arr 4 0 (Ayd w j).ends.length ((Ayd w j).ends.flatMap Ak),.arr 1 0 (Ayd w j).rollout.stages.length (ints (Ayd w j).rollout.stages),.arr 5 0 (Ayd w j).stage.length ((Ayd w j).stage.flatMap A9),.arr 8 0 (Ayd w j).log.length ((Ayd w j).log.flatMap Av)]⟩) ?_ (w.ends.length) _ ⟨0,by simp,by simp[Ayd]⟩
 intro k s ⟨j,hj,hs⟩
 subst hs
 by_cases hjn:j<w.ends.length
 ·have hw:IntKind.i64.wrap ((j:Int)+1)=(j+1:Nat):=by rw[Ab (by omega) (by omega)];simp
  simp -implicitDefEqProofs [hjn]
  refine Aa (hD (Ayd w j) j (by have:=Ag4 w j;omega)) ?_
  have e:(EW (Ayd w j) j).1=Ayd w (j+1):=rfl
  rw[e]
  simp -implicitDefEqProofs
  exact⟨k-1,by omega,j+1,by omega,by simp[hw]⟩
 ·obtain rfl:j=w.ends.length:=by omega
  simp -implicitDefEqProofs [TF]
end Go.Eng.T
namespace Go.Eng.T
open Go.Eng.X
def EC:Nat→Bj
 |0=>R 0 [m (z 2)] [] [2]
 |1=>R 1 [m (s 0),C 318 [r (l 0)] [0],m (s 1),C 319 [r (l 2)] [],m (l 1),m (l 3)] [(3,4),(4,5)] []
 |2=>R 2 [m (s 0),C 320 [r (l 0)] [],n (l 1),m (l 2),G 3 (m (s 0)),G 3 (e (l 4)),G 3 (y .eql (l 5) (i 6)),k (l 3) t (l 6),m (l 7),G 8 (m (s 0)),G 8 (m (s 4)),G 8 (C 321 [r (l 9),r (l 10)] []),G 8 (y .geq (l 11) (i 0)),k (l 8) t (l 12)] [(6,13)] []
 |3=>R 3 [m (s 3),m (l 0)] [(2,1)] [0,1,3,4]
 |4=>R 4 [m (s 1),C 322 [r (l 0),r (i 3),r (i 256)] [],M 1 1 1 [l 1],m (s 1),C 322 [r (l 3),r (i 2),r (i 3)] [],C 323 [r (l 2),r (l 4)] [2],m (l 5)] [(5,6)] []
 |_=>R 5 [m (s 3),m (s 1),m (s 0),e (l 2),y .add (l 3) (i 1),C 322 [r (l 1),r (i 1),r (l 4)] [],m (s 4),m (s 5),b [o,N 1] [(0,1,l 6),(1,1,l 7)],M 3 2 1 [l 8],C 324 [v (l 0),r (l 5),v (l 9)] [4],m (l 10)] [(2,11)] [0,1,3,4,5]
def OI:Bl:=⟨7,5,[0,1],0,false,[],j (d (EC 0)) (j (d (EC 1)) (j (j (d (EC 2)) (h 6 (j (d (EC 3)) (.ret)) (.skip))) (j (d (EC 4)) (j (d (EC 5)) (.ret))))),[.slot 2]⟩
def AbT:List Tmp:=[0,1,4,5,6,7,25]
def Ag:Nat→Bj
 |0=>R 0 [x 0 (s 0),m f] [(1,0)] [0,2]
 |1=>R 1 [m (i 1048576)] [(3,0)] []
 |2=>R 2 [P 15 (s 1),m (s 3),C 7 [r (l 0),r (l 1)] [],m (l 2)] [(3,3)] []
 |3=>R 3 [m (s 3),y .lss (l 0) (i 0)] [(11,1)] [3]
 |4=>R 4 [m t] [(2,0)] [1]
 |5=>R 5 [P 15 (s 1),C 8 [r (l 0)] [1,2,3,4,5,6],C 25 [r (l 1)] [7,8,9,10,11,12],a 13 zW,W 15 (l 3) (l 2)] [(4,3)] []
 |6=>R 6 [P 15 (s 1),C 8 [r (l 0)] [14,15,16,17,18,19],a 20 zW,W 15 (l 2) (l 1)] [(5,2)] []
 |7=>R 7 [P 15 (s 5),C 44 [r (l 0)] [21,22,23,24,25,26],a 27 zW,W 15 (l 2) (l 1)] [(6,2)] []
 |8=>R 8 [P 15 (s 6),P 15 (s 4),C 11 [r (l 0),r (l 1)] [],n (l 2)] [(12,3)] []
 |9=>R 9 [m f] [(2,0)] [1,4,5,6]
 |10=>T 10 [D (P 15 (s 5)) [20] [],D (P 15 (s 1)) [0] [],D (C 8 [r (l 1)] [28,29,30,31,32,33]) [28,29,30,31,32,33] [28,29,30,31,32,33],D (C 11 [r (l 0),r (l 2)] []) [14,15,16,17,18,19,28,29,30,31,32,33] [],D (n (l 3)) [] []] [(13,4)] []
 |11=>R 11 [m f] [(2,0)] [1,4,5,6]
 |12=>R 12 [m (i 1)] [(7,0)] []
 |13=>R 13 [P 15 (s 5),m (s 7),C 12 [v (l 0),r (l 1)] [],m (l 2)] [(7,3)] [5]
 |14=>R 14 [m (s 7),y .lss (l 0) (i 0),m (l 1),G 2 (P 15 (s 6)),G 2 (P 15 (s 4)),G 2 (C 11 [r (l 3),r (l 4)] []),G 2 (n (l 5)),k (l 2) t (l 6)] [(14,7)] [7]
 |15=>R 15 [m f] [(2,0)] [1,4,6]
 |16=>R 16 [m (i 1)] [(8,0)] []
 |17=>R 17 [P 15 (s 6),m (s 8),C 12 [v (l 0),r (l 1)] [],m (l 2)] [(8,3)] []
 |18=>R 18 [m (i 1)] [(9,0)] []
 |19=>R 19 [P 15 (s 6),m (s 9),C 13 [r (l 0),r (l 1)] [],m (l 2)] [(9,3)] []
 |20=>R 20 [m (s 9),y .lss (l 0) (i 0)] [(15,1)] []
 |21=>R 21 [m f] [(2,0)] [1,4,6,8,9]
 |22=>R 22 [m (s 9),m (s 8),y .neq (l 0) (l 1)] [(16,2)] [9]
 |23=>R 23 [m f] [(2,0)] [1,4,6,8]
 |24=>R 24 [P 15 (s 1),C 8 [r (l 0)] [34,35,36,37,38,39],C 44 [r (l 1)] [40,41,42,43,44,45],a 46 zW,W 15 (l 3) (l 2)] [(10,3)] [1]
 |25=>R 25 [P 15 (s 10),P 15 (s 4),C 11 [r (l 0),r (l 1)] [],n (l 2)] [(17,3)] [4,10]
 |26=>R 26 [m f] [(2,0)] [6,8]
 |27=>R 27 [m (i 1)] [(9,0)] []
 |28=>R 28 [P 15 (s 6),m (s 9),C 13 [r (l 0),r (l 1)] [],m (l 2)] [(9,3)] [6]
 |29=>R 29 [m (s 9),y .lss (l 0) (i 0)] [(18,1)] []
 |30=>R 30 [m f] [(2,0)] [8,9]
 |31=>R 31 [m (s 9),m (s 8),y .neq (l 0) (l 1)] [(19,2)] [8,9]
 |32=>R 32 [m f] [(2,0)] []
 |_=>R 33 [m t] [(2,0)] []
def Ho:Bl:=⟨20,47,[0],0,false,[],j (d (Ag 0)) (j (d (Ag 1)) (j (d (Ag 2)) (j (j (d (Ag 3)) (h 11 (j (d (Ag 4)) (.ret)) (.skip))) (j (d (Ag 5)) (j (d (Ag 6)) (j (d (Ag 7)) (j (j (d (Ag 8)) (h 12 (j (d (Ag 9)) (.ret)) (.skip))) (j (j (d (Ag 10)) (h 13 (j (d (Ag 11)) (.ret)) (.skip))) (j (d (Ag 12)) (j (d (Ag 13)) (j (j (d (Ag 14)) (h 14 (j (d (Ag 15)) (.ret)) (.skip))) (j (d (Ag 16)) (j (d (Ag 17)) (j (d (Ag 18)) (j (d (Ag 19)) (j (j (d (Ag 20)) (h 15 (j (d (Ag 21)) (.ret)) (.skip))) (j (j (d (Ag 22)) (h 16 (j (d (Ag 23)) (.ret)) (.skip))) (j (d (Ag 24)) (j (j (d (Ag 25)) (h 17 (j (d (Ag 26)) (.ret)) (.skip))) (j (d (Ag 27)) (j (d (Ag 28)) (j (j (d (Ag 29)) (h 18 (j (d (Ag 30)) (.ret)) (.skip))) (j (j (d (Ag 31)) (h 19 (j (d (Ag 32)) (.ret)) (.skip))) (j (d (Ag 33)) (.ret))))))))))))))))))))))))),[.slot 2]⟩
def Tz:List Tmp:=[0,1,2,3,4,5,6,7,8,9,10,15,26,31,42,50,53,60,65,68]
def Ai:Nat→Bj
 |0=>R 0 [m (z 1)] [] [1]
 |1=>R 1 [m (i 0)] [(2,0)] []
 |2=>R 2 [m (s 0),e (l 0),m (i 0)] [(6,0),(7,1),(8,2)] []
 |3=>R 3 [y .lss (s 8) (s 7)] [(9,0)] []
 |4=>R 4 [A 1 (s 6) (s 8),L (l 0),m (l 1)] [(3,2)] []
 |5=>R 5 [m (s 2),m (s 3),e (l 1),y .add (l 0) (l 2),m (l 3)] [(2,4)] [3]
 |6=>R 6 [m (s 2),y .lss (l 0) (i 0)] [(10,1)] []
 |7=>R 8 [y .add (s 8) (i 1),m (l 0)] [(8,1)] []
 |8=>Q 9 [m (s 2),C 419 [r (.con (.sc (.slice none 0 0))),r (l 0)] [0],m (l 1)] [(4,2)] [2,6,7,8] [] [w 0 2]
 |9=>R 10 [m (s 0),e (l 0),m (i 0)] [(11,0),(12,1),(13,2)] [0]
 |10=>R 11 [y .lss (s 13) (s 12)] [(14,0)] []
 |11=>R 12 [A 1 (s 11) (s 13),L (l 0),m (l 1)] [(5,2)] []
 |12=>Q 13 [m (s 4),m (s 5),q 1 1 8 (l 0) (l 1),m (l 2)] [(4,3)] [5] [1] [w 1 2]
 |13=>R 14 [y .add (s 13) (i 1),m (l 0)] [(13,1)] []
 |_=>R 15 [m (s 4),m (l 0)] [(1,1)] [4,11,12,13]
def GZ:Bl:=⟨15,3,[0],0,false,[],j (d (Ai 0)) (j (d (Ai 1)) (j (j (d (Ai 2)) (.block 0 (.loop (j (d (Ai 3)) (j (h 9 (.skip) (.exit 0)) (j (.block 1 (j (d (Ai 4)) (j (d (Ai 5)) (j (d (Ai 6)) (h 10 (.stuck) (.skip)))))) (d (Ai 7)))))))) (j (d (Ai 8)) (j (j (d (Ai 9)) (.block 2 (.loop (j (d (Ai 10)) (j (h 14 (.skip) (.exit 2)) (j (.block 3 (j (d (Ai 11)) (d (Ai 12)))) (d (Ai 13)))))))) (j (d (Ai 14)) (.ret)))))),[.slot 1]⟩
def QS:List Tmp:=[0,2,3,5,6,8,9,10,11,12,20,25,26,27,28]
attribute [simp] EC OI Ag Ho Ai GZ
end Go.Eng.T
