/- Own work: part 46 of the proof of FnExactStepDial. -/
import Derived.Test.YtdgpapmladligaaGreatP45
import Derived.Lib.SlicesCompact
set_option linter.unusedSimpArgs false
set_option linter.unusedVariables false
namespace Go.Eng.T
set_option maxRecDepth 20000
abbrev J4 (D:Dn) (R:Rel):Prop:=∀(xs:List Ext) (g:Nat) (caps:List V) (p:Ext→Bool),xs.length≤maxLen→MR caps→(∀(j:Nat) (h:j<xs.length),D g (arg (BD xs[j])::caps) [] (B (p xs[j])) [])→R [.sl 1 2 xs.length (xs.flatMap BD),.fn g caps] [] (I (G8 p xs 0)) []
theorem Ah0 (D:Dn):J4 D (Body D Du):=by
 intro xs g caps p hl hc hp
 unfold maxLen at hl
 simp -implicitDefEqProofs
 refine Af (fun k s=>∃j,j+k=xs.length∧G8 p xs 0=G8 p (xs.drop j) j∧s=⟨[.sl 1 2 xs.length (xs.flatMap BD),.fn g caps,.undef,.undef,.sc (.int .i64 xs.length),.sc (.int .i64 j),.undef,.undef],[]⟩) ?_ xs.length _ ⟨0,by simp,by simp,by simp⟩
 intro k s ⟨j,hj,hi,hs⟩
 subst hs
 by_cases hjn:j<xs.length
 ·have hw:IntKind.i64.wrap ((j:Int)+1)=(j+1:Nat):=by rw[Ab (by omega) (by omega)];simp
  rw[T9 hjn]at hi
  simp -implicitDefEqProofs [hjn,hc.1,hc.2.1]
  refine Aa (hp j hjn) ?_
  by_cases he:p xs[j]=true
  ·rw[if_pos he]at hi
   simp -implicitDefEqProofs [he,hi]
  ·rw[if_neg he]at hi
   simp -implicitDefEqProofs [he]
   exact⟨k-1,by omega,j+1,by omega,by simpa using hi,by simp[hw]⟩
 ·rw[WJ (by omega)]at hi
  simp -implicitDefEqProofs [hjn,hi]
abbrev JB (D:Dn) (R:Rel):Prop:=∀(xs:List Ext) (g:Nat) (caps:List V) (p:Ext→Bool),xs.length≤maxLen→MR caps→(∀(j:Nat) (h:j<xs.length),D g (arg (BD xs[j])::caps) [] (B (p xs[j])) [])→R [.sl 1 2 xs.length (xs.flatMap BD),.fn g caps] [] (B (xs.any p)) []
theorem AcC (D:Dn) (hI:J4 D (D Fh)):JB D (Body D CY):=by
 intro xs g caps p hl hc hp
 simp -implicitDefEqProofs [hc.2.2]
 refine Aa (hI xs g caps p hl hc hp) ?_
 have e:decide (0≤G8 p xs 0)=xs.any p:=by rw[Bool.eq_iff_iff];simp only[decide_eq_true_eq];rw[Vt (by omega)]
 simp -implicitDefEqProofs [e]
end Go.Eng.T
namespace Go.Eng.T
set_option maxRecDepth 20000
def Gn (t:Int) (x:Ext):Bool:=decide (x.tag=t)
def Jb (l:List Ext) (t:Int):Int:=G8 (Gn t) l 0
abbrev O8 (R:Rel):Prop:=∀(l:List Ext) (t:Int),l.length≤maxLen→R [.sl 1 2 l.length (l.flatMap BD),I t] [] (I (Jb l t)) []
theorem Azd (D:Dn):O8 (Body D WR):=by
 intro l t hl
 unfold maxLen at hl
 have hres:Jb l t=G8 (Gn t) l 0:=rfl
 rw[hres]
 simp -implicitDefEqProofs
 refine Af (fun k s=>∃j,j+k=l.length∧G8 (Gn t) l 0=G8 (Gn t) (l.drop j) j∧s=⟨[.sl 1 2 l.length (l.flatMap BD),I t,.undef,I j,.undef,.undef],[]⟩) ?_ (l.length) _ ⟨0,by simp,by simp,by simp⟩
 intro k s ⟨j,hj,hi,hs⟩
 subst hs
 by_cases hjn:j<l.length
 ·have hw:IntKind.i64.wrap ((j:Int)+1)=(j+1:Nat):=by rw[Ab (by omega) (by omega)];simp
  rw[T9 hjn]at hi
  by_cases he:l[j].tag=t
  ·rw[if_pos (by simp[Gn,he])]at hi
   simp -implicitDefEqProofs [hjn,he,hi]
  ·rw[if_neg (by simp[Gn,he])]at hi
   simp -implicitDefEqProofs [hjn,he]
   exact⟨k-1,by omega,j+1,by omega,by simpa using hi,by simp[hw]⟩
 ·rw[WJ (by omega)]at hi
  simp -implicitDefEqProofs [hjn,hi]
abbrev Ahi (R:Rel):Prop:=∀(x:Ext) (t:Int),R [arg (BD x),.rptr 1 [I t] 0] [] (B (Gn t x)) []
theorem Ay1 (D:Dn):Ahi (Body D SA):=by
 intro x t
 simp -implicitDefEqProofs [Gn,Awg]
theorem Azx (D:Dn) (h1:Ahi (D Al5)) (hX:J4 D (D Fh)):O8 (Body D WS):=by
 intro l t hl
 have hres:Jb l t=G8 (Gn t) l 0:=rfl
 rw[hres]
 simp -implicitDefEqProofs
 refine Aa (hX l 351 _ (Gn t) hl (Aet Gp) (fun j h=>h1 l[j] t)) ?_
 simp -implicitDefEqProofs
def Xh (x:Ext):Bool:=decide (InR x.tag 0 255)&&(decide (x.body.length≤4)&&allIn x.body 0 255)
def U9 (l:List Ext) (i:Nat):Bool:=match l[i]? with
 | some x=>Xh x&& !(l.take i).any (Gn x.tag)
 | none=>true
theorem Adl {l:List Ext} {i:Nat} (h:i<l.length):U9 l i=(Xh l[i]&& !(l.take i).any (Gn l[i].tag)):=by
 unfold U9
 rw[List.getElem?_eq_getElem h]
def EC (l:List Ext):Bool:=RO (U9 l) l.length&&decide (l.length≤6)
theorem AsG {α:Type} {p:α→Bool}:∀ {xs:List α} {i:Int},G8 p xs i= -1∨(i≤G8 p xs i∧G8 p xs i<i+xs.length)
 | [],i=> .inl rfl
 | x::r,i=>by
  by_cases hp:p x=true
  ·right;simp[G8,hp];omega
  ·rcases AsG (p:=p) (xs:=r) (i:=i+1)with h | h
   ·left;simp[G8,hp,h]
   ·right;simp[G8,hp]at *;omega
theorem AuI {α:Type} {p:α→Bool}:∀ {xs:List α} {i:Int} {j:Nat},0≤i→(h:j<xs.length)→p xs[j]=true→(G8 p xs i<i+j↔(xs.take j).any p=true)
 | x::r,i,0,hi,h,hp=>by
  have:p x=true:=hp
  simp[G8,this]
 | x::r,i,j+1,hi,h,hp=>by
  by_cases hx:p x=true
  ·simp[G8,hx];omega
  ·have:=AuI (p:=p) (xs:=r) (i:=i+1) (j:=j) (by omega) (by simpa using h) (by simpa using hp)
   simp only[G8,hx,List.take_succ_cons,List.any_cons,Bool.false_or]
   rw[←this]
   simp
   omega
theorem ArW {l:List Ext} {j:Nat} (h:j<l.length):(Jb l l[j].tag<(j:Int))=((l.take j).any (Gn l[j].tag)=true):=by
 have:=AuI (p:=Gn l[j].tag) (i:=0) (by omega) h (by simp[Gn])
 rw[Int.zero_add]at this
 exact propext this
theorem AjQ {l:List Ext} {j:Nat} {t:Int}:(0≤Jb (l.take j) t)=((l.take j).any (Gn t)=true):=Vt (by omega)
theorem IK {l:List Ext} {j:Nat} (h:j<l.length) (hn:U9 l j=false):EC l=false:=by
 unfold EC
 rw[Aq7 h hn];rfl
abbrev FE (R:Rel):Prop:=∀l:List Ext,SY l→R [.sl 1 2 l.length (l.flatMap BD)] [] (B (EC l)) []
theorem Aum (D:Dn) (hI:Uk (D Dk)) (hB:XB (D UI)) (hX:O8 (D Ry)):FE (Body D Sv):=by
 intro l hl
 have hll:=hl.1
 simp -implicitDefEqProofs
 refine Af (fun k s=>∃j,j+k=l.length∧RO (U9 l) j=true∧s=⟨[.sl 1 2 l.length (l.flatMap BD),.undef,I j,.undef,.undef],[]⟩) ?_ (l.length) _ ⟨0,by simp,by simp,by simp⟩
 intro k s ⟨j,hj,hr,hs⟩
 subst hs
 by_cases hjn:j<l.length
 ·have hw:IntKind.i64.wrap ((j:Int)+1)=(j+1:Nat):=by rw[Ab (by omega) (by omega)];simp
  have hst:=Nh (U9 l) j
  have hq:=Adl hjn
  have hb:=MF hl hjn
  rw[hr,Bool.true_and]at hst
  simp -implicitDefEqProofs [hjn]
  refine Aa (hI _ _ _) ?_
  by_cases h1:InR l[j].tag 0 255
  rotate_left
  ·have e:=IK hjn (by rw[hq];simp[Xh,h1])
   simp -implicitDefEqProofs [h1,e]
  by_cases h2:l[j].body.length≤4
  rotate_left
  ·have e:=IK hjn (by rw[hq];simp[Xh,h2])
   have h2':(4:Int)<l[j].body.length:=by omega
   simp -implicitDefEqProofs [hjn,h1,h2',e]
  have h2':¬(4:Int)<l[j].body.length:=by omega
  simp -implicitDefEqProofs [hjn,h1,h2']
  refine Aa (hB _ (by unfold maxLen;omega)) ?_
  by_cases h3:allIn l[j].body 0 255=true
  rotate_left
  ·have e:=IK hjn (by rw[hq];simp[Xh,h3])
   simp -implicitDefEqProofs [hjn,h3,e]
  simp -implicitDefEqProofs [hjn,h3]
  refine Aa (hX l _ (by unfold maxLen;omega)) ?_
  by_cases h4:(l.take j).any (Gn l[j].tag)=true
  ·have e:=IK hjn (by rw[hq];simp only[h4];simp)
   have h4':Jb l l[j].tag<(j:Int):=by rw[ArW hjn];exact h4
   simp -implicitDefEqProofs [hjn,h4',e]
  ·have h4':¬Jb l l[j].tag<(j:Int):=by rw[ArW hjn];exact h4
   have h4f:(l.take j).any (Gn l[j].tag)=false:=by simpa using h4
   simp -implicitDefEqProofs [hjn,h4']
   exact⟨k-1,by omega,j+1,by omega,by rw[hst,hq,h4f];simp[Xh,h1,h2,h3],by simp[hw]⟩
 ·obtain rfl:j=l.length:=by omega
  have e:EC l=decide (l.length≤6):=by unfold EC;rw[hr];rfl
  by_cases h5:l.length≤6
  ·have h5':(l.length:Int)≤6:=by omega
   simp -implicitDefEqProofs [e,h5,h5']
  ·have h5':¬(l.length:Int)≤6:=by omega
   simp -implicitDefEqProofs [e,h5,h5']
theorem Ath (D:Dn) (hI:Uk (D Cj)) (hX:O8 (D AeW)) (hN:II (D Jz)):FE (Body D SI):=by
 intro l hl
 have hll:=hl.1
 simp -implicitDefEqProofs
 refine Af (fun k s=>∃j o0,j+k=l.length∧RO (U9 l) j=true∧s=⟨[.sl 1 2 l.length (l.flatMap BD),.undef,.undef,.undef,.sl 1 2 l.length (l.flatMap BD),I l.length,I j,.undef,.undef],[o0]⟩) ?_ (l.length) _ ⟨0,.free,by simp,by simp,by simp⟩
 intro k s ⟨j,o0,hj,hr,hs⟩
 subst hs
 by_cases hjn:j<l.length
 ·have hw:IntKind.i64.wrap ((j:Int)+1)=(j+1:Nat):=by rw[Ab (by omega) (by omega)];simp
  have hst:=Nh (U9 l) j
  have hq:=Adl hjn
  have hb:=MF hl hjn
  rw[hr,Bool.true_and]at hst
  simp -implicitDefEqProofs [hjn]
  refine Aa (hI _ _ _) ?_
  by_cases h1:InR l[j].tag 0 255
  rotate_left
  ·have e:=IK hjn (by rw[hq];simp[Xh,h1])
   simp -implicitDefEqProofs [h1,e]
  have hjl:j≤l.length:=by omega
  have hmin:min j l.length=j:=by omega
  simp -implicitDefEqProofs [hjn,hjl,hmin,h1]
  have hxx:=hX (l.take j) l[j].tag (by simp;unfold maxLen;omega)
  rw[List.length_take,hmin]at hxx
  refine Aa (hxx) ?_
  by_cases h4:(l.take j).any (Gn l[j].tag)=true
  ·have e:=IK hjn (by rw[hq];simp only[h4];simp)
   have h4':0≤Jb (l.take j) l[j].tag:=by rw[AjQ];exact h4
   simp -implicitDefEqProofs [hjn,h4',e]
  have h4':¬0≤Jb (l.take j) l[j].tag:=by rw[AjQ];exact h4
  have h4f:(l.take j).any (Gn l[j].tag)=false:=by simpa using h4
  by_cases h2:l[j].body.length≤4
  rotate_left
  ·have e:=IK hjn (by rw[hq];simp[Xh,h2])
   have h2':(4:Int)<l[j].body.length:=by omega
   simp -implicitDefEqProofs [hjn,h4',h2',e]
  have h2':¬(4:Int)<l[j].body.length:=by omega
  simp -implicitDefEqProofs [hjn,h4',h2']
  refine Aa (hN _ _ _ (by unfold maxLen;omega)) ?_
  by_cases h3:allIn l[j].body 0 255=true
  rotate_left
  ·have e:=IK hjn (by rw[hq];simp[Xh,h3])
   simp -implicitDefEqProofs [hjn,h3,e]
  simp -implicitDefEqProofs [hjn,h3]
  exact⟨k-1,by omega,j+1,by omega,by rw[hst,hq,h4f];simp[Xh,h1,h2,h3],by simp[hw]⟩
 ·obtain rfl:j=l.length:=by omega
  have e:EC l=decide (l.length≤6):=by unfold EC;rw[hr];rfl
  by_cases h5:l.length≤6
  ·have h5':(l.length:Int)≤6:=by omega
   simp -implicitDefEqProofs [e,h5,h5']
  ·have h5':¬(l.length:Int)≤6:=by omega
   simp -implicitDefEqProofs [e,h5,h5']
def Ar (l:List Ext):List Int:=l.map (·.tag)
theorem Amx {l:List Ext} {j:Nat} (h:j<l.length):Ar (l.take (j+1))=Ar (l.take j)++ [l[j].tag]:=by
 have e:l.take (j+1)=l.take j++ [l[j]]:=by simp
 unfold Ar
 rw[e,List.map_append];rfl
abbrev Kq (R:Rel):Prop:=∀l:List Ext,l.length≤4194304→R [.sl 1 2 l.length (l.flatMap BD)] [] (.sl 0 1 (Ar l).length (ints (Ar l))) []
theorem Axb (D:Dn):Kq (Body D Va):=by
 intro l hl
 simp -implicitDefEqProofs
 refine Af (fun k s=>∃j o1 o2,j+k=l.length∧s=⟨[.sl 1 2 l.length (l.flatMap BD),.undef,.arr 3,I j,.undef],[.free,o1,o2,.arr 1 0 (Ar (l.take j)).length (ints (Ar (l.take j)))]⟩) ?_ (l.length) _ ⟨0,.free,.free,by simp,by simp[Ar]⟩
 intro k s ⟨j,o1,o2,hj,hs⟩
 subst hs
 by_cases hjn:j<l.length
 ·have hw:IntKind.i64.wrap ((j:Int)+1)=(j+1:Nat):=by rw[Ab (by omega) (by omega)];simp
  have hst:=Amx hjn
  have hlen:(Ar (l.take j)).length=j:=by simp[Ar];omega
  have hb:(j+1)*8≤1099511627776:=by omega
  simp -implicitDefEqProofs [hjn,hlen,hb]
  exact⟨k-1,by omega,j+1,by omega,by simp[hw],by rw[hst];simp[hlen],by rw[hst]⟩
 ·have e:l.take j=l:=List.take_of_length_le (by omega)
  simp -implicitDefEqProofs [hjn,e]
theorem AwW (D:Dn):Kq (Body D UX):=by
 intro l hl
 simp -implicitDefEqProofs
 refine Af (fun k s=>∃j v3 o1 o2 o3,j+k=l.length∧s=⟨[.undef,.undef,.arr 4,v3,.sl 1 2 l.length (l.flatMap BD),I l.length,I j,.undef],[.free,o1,o2,o3,.arr 1 0 (Ar (l.take j)).length (ints (Ar (l.take j)))]⟩) ?_ (l.length) _ ⟨0,.undef,.free,.free,.free,by simp,by simp[Ar]⟩
 intro k s ⟨j,v3,o1,o2,o3,hj,hs⟩
 subst hs
 by_cases hjn:j<l.length
 ·have hw:IntKind.i64.wrap ((j:Int)+1)=(j+1:Nat):=by rw[Ab (by omega) (by omega)];simp
  have hst:=Amx hjn
  have hlen:(Ar (l.take j)).length=j:=by simp[Ar];omega
  have hb:(j+1)*8≤1099511627776:=by omega
  simp -implicitDefEqProofs [hjn,hlen,hb]
  exact⟨k-1,by omega,j+1,by omega,by simp[hw],by rw[hst];simp[hlen],by rw[hst]⟩
 ·have e:l.take j=l:=List.take_of_length_le (by omega)
  simp -implicitDefEqProofs [hjn,e]
end Go.Eng.T
namespace Go.Eng.T
set_option maxRecDepth 20000
def kept (p:Int→Bool) (l:List Ext):List Ext:=l.filter fun x=>p x.tag
theorem Xt {p:Int→Bool} {l:List Ext} {j:Nat} (h:j<l.length):kept p (l.take (j+1))=kept p (l.take j)++(if p l[j].tag then [l[j]]else []):=Aiq (p:=fun x:Ext=>p x.tag) h
theorem TG {p:Int→Bool} {l:List Ext} {j:Nat} (h:l.length≤j):kept p (l.take j)=kept p l:=Ad6 h
theorem Ug {p:Int→Bool} {l:List Ext} {j:Nat}:(kept p (l.take j)).length≤j:=Amw
theorem TW {l:List Ext} (h:SY l) (p:Int→Bool):SY (kept p l):=AtB h _
theorem Qk {p:Int→Bool} {l:List Ext} {j:Nat} (h:j<l.length) (hp:p l[j].tag=true):
 (kept p (l.take j)).flatMap BD++ [.sc (.int .i64 l[j].tag),.sl 0 1 l[j].body.length (ints l[j].body)]=(kept p (l.take (j+1))).flatMap BD:=by
 rw[Xt h,if_pos hp,List.flatMap_append];simp
theorem Io {p:Int→Bool} {l:List Ext} {j:Nat} (h:j<l.length) (hp:p l[j].tag=true):(kept p (l.take (j+1))).length=(kept p (l.take j)).length+1:=by
 rw[Xt h,if_pos hp];simp
theorem Tq {p:Int→Bool} {l:List Ext} {j:Nat} (h:j<l.length) (hp:¬p l[j].tag=true):kept p (l.take (j+1))=kept p (l.take j):=by
 rw[Xt h,if_neg hp,List.append_nil]
def AmY (caps:List V):Prop:=∀k,caps.any (m1 k)=false
theorem Qi:AmY []:=fun _=>rfl
theorem Aap {fl:Nat} {cs:List V} {o:Nat} {r:List V} (h:AmY r):AmY (.rptr fl cs o::r):=fun k=>by
 have:=h k
 simp only[List.any_cons,this,m1,Bool.or_self]
theorem Qj {k g:Nat} {caps:List V} (h:AmY caps):Qp k (.fn g caps)= .fn g caps:=by
 have:=h k
 simp only[Qp,m3,m2,this]
 rfl
theorem V4 {a b g:Nat} {caps:List V} (h:AmY caps):AcD a b (.fn g caps)= .fn g caps:=by
 have:=h a
 simp only[AcD,m3,m2,this]
 rfl
abbrev K8 (D:Dn) (R:Rel):Prop:=∀(l:List Ext) (g:Nat) (caps:List V) (p:Int→Bool),SY l→MR caps→AmY caps→(∀t:Int,D g (I t::caps) [] (B (p t)) [])→
 R [.sl 1 2 l.length (l.flatMap BD),.fn g caps] [] (.sl 0 2 (kept p l).length ((kept p l).flatMap BD)) []
theorem Asy (D:Dn):K8 D (Body D Q9):=by
 intro l g caps p hl hc hno hp
 have hll:=hl.1
 simp -implicitDefEqProofs [↓Qj hno,↓V4 hno]
 refine Af (fun k s=>∃j v4 o1 o2 o3 o4 o5,j+k=l.length∧s=⟨[.undef,.fn g caps,.undef,.arr 6,v4,.sl 1 2 l.length (l.flatMap BD),I l.length,I j,.undef,.undef],[.free,o1,o2,o3,o4,o5,.arr 2 0 (kept p (l.take j)).length ((kept p (l.take j)).flatMap BD)]⟩) ?_ (l.length) _ ⟨0,.undef,.free,.free,.free,.free,.free,by simp,by simp[kept,↓Qj hno,↓V4 hno]⟩
 intro k s ⟨j,v4,o1,o2,o3,o4,o5,hj,hs⟩
 subst hs
 by_cases hjn:j<l.length
 ·have hw:IntKind.i64.wrap ((j:Int)+1)=(j+1:Nat):=by rw[Ab (by omega) (by omega)];simp
  have hb:=MF hl hjn
  have h1:l[j].body.length*8≤1099511627776:=by omega
  have hkl:=Ug (p:=p) (l:=l) (j:=j)
  have h2:((kept p (l.take j)).length+1)*32≤1099511627776:=by omega
  simp -implicitDefEqProofs [hjn,↓Qj hno,↓V4 hno,hc.1,hc.2.1]
  refine Aa (hp l[j].tag) ?_
  by_cases he:p l[j].tag=true
  ·have hst:=Qk hjn he
   have hsl:=Io hjn he
   simp -implicitDefEqProofs [he,hjn,↓Qj hno,↓V4 hno,h1,h2]
   exact⟨k-1,by omega,j+1,by omega,by simp[hw],by rw[hsl],by rw[←hst]⟩
  ·have hst:=Tq hjn he
   simp -implicitDefEqProofs [he,↓Qj hno,↓V4 hno]
   exact⟨k-1,by omega,j+1,by omega,by simp[hw],by rw[hst],by rw[hst]⟩
 ·have e:=TG (p:=p) (l:=l) (j:=j) (by omega)
  simp -implicitDefEqProofs [hjn,e]
abbrev AaV (R:Rel):Prop:=∀t:Int,R [I t] [] (B true) []
abbrev U3 (R:Rel):Prop:=∀t:Int,R [I t] [] (B (!AO t)) []
theorem Aqj (D:Dn):AaV (Body D NA):=by
 intro t
 simp -implicitDefEqProofs
theorem Aj1 (D:Dn) (hR:Ff (D Ub)):U3 (Body D JU):=by
 intro t
 simp -implicitDefEqProofs
 refine Aa (hR t) ?_
 simp -implicitDefEqProofs
theorem Awt (l:List Ext):kept (fun _=>true) l=l:=by simp[kept]
abbrev NR (R:Rel):Prop:=∀l:List Ext,SY l→R [.sl 1 2 l.length (l.flatMap BD)] [] (.sl 0 2 l.length (l.flatMap BD)) []
theorem AtE (D:Dn) (h1:AaV (D Tn)) (hK:K8 D (D IQ)):NR (Body D QM):=by
 intro l hl
 simp -implicitDefEqProofs
 refine Aa (hK l Tn [] (fun _=>true) hl Gp Qi (fun t=>h1 t)) ?_
 simp -implicitDefEqProofs [Awt]
def Z9 (l:List Ext):List Ext:=kept (fun t=> !AO t) l
def Kl (l:List Ext) (tags:List Int):List Ext:=kept (fun t=>decide (t∈tags)) l
abbrev Gy (R:Rel):Prop:=∀l:List Ext,SY l→R [.sl 1 2 l.length (l.flatMap BD)] [] (.sl 0 2 (Z9 l).length ((Z9 l).flatMap BD)) []
theorem Ajk (D:Dn) (h1:U3 (D PE)) (hK:K8 D (D IQ)):Gy (Body D MO):=by
 intro l hl
 simp -implicitDefEqProofs
 refine Aa (hK l PE [] (fun t=> !AO t) hl Gp Qi (fun t=>h1 t)) ?_
 simp -implicitDefEqProofs [Z9]
abbrev Mq (R:Rel):Prop:=∀(l:List Ext) (tags:List Int),SY l→tags.length≤maxLen→R [.sl 1 2 l.length (l.flatMap BD),.sl 1 1 tags.length (ints tags)] [] (.sl 0 2 (Kl l tags).length ((Kl l tags).flatMap BD)) []
abbrev XQ (R:Rel):Prop:=∀(t:Int) (tags:List Int),tags.length≤maxLen→R [I t,.rptr 1 [.sl 0 1 tags.length (ints tags)] 0] [] (B (decide (t∈tags))) []
theorem Aji {a:List Int} {r:List V} (h:MR r):MR (.rptr 1 [.sl 0 1 a.length (ints a)] 0::r):=ZX (fun H=>by simp) (fun H=>by simp) h
theorem AtP (D:Dn) (hH:QA (D Bv)):XQ (Body D Pe):=by
 intro t tags hl
 simp -implicitDefEqProofs
 refine Aa (hH tags t hl) ?_
 simp -implicitDefEqProofs
theorem As0 (D:Dn) (h1:XQ (D VE)) (hK:K8 D (D IQ)):Mq (Body D SF):=by
 intro l tags hl ht
 simp -implicitDefEqProofs
 refine Aa (hK l VE _ (fun t=>decide (t∈tags)) hl (Aji Gp) (Aap Qi) (fun t=>h1 t tags ht)) ?_
 simp -implicitDefEqProofs [Kl]
theorem Auh (D:Dn) (hH:QA (D IZ)):Mq (Body D Sz):=by
 intro l tags hl ht
 have hll:=hl.1
 have hres:Kl l tags=kept (fun t=>decide (t∈tags)) l:=rfl
 rw[hres]
 generalize hp:(fun t=>decide (t∈tags))=p
 simp -implicitDefEqProofs
 refine Af (fun k s=>∃j o1 o2 o3 o4,j+k=l.length∧s=⟨[.sl 1 2 l.length (l.flatMap BD),.sl 1 1 tags.length (ints tags),.undef,.arr 5,I j,.undef,.undef],[.free,o1,o2,o3,o4,.arr 2 0 (kept p (l.take j)).length ((kept p (l.take j)).flatMap BD)]⟩) ?_ (l.length) _ ⟨0,.free,.free,.free,.free,by simp,by simp[kept]⟩
 intro k s ⟨j,o1,o2,o3,o4,hj,hs⟩
 subst hs
 by_cases hjn:j<l.length
 ·have hw:IntKind.i64.wrap ((j:Int)+1)=(j+1:Nat):=by rw[Ab (by omega) (by omega)];simp
  have hb:=MF hl hjn
  have h1:l[j].body.length*8≤1099511627776:=by omega
  have hkl:=Ug (p:=p) (l:=l) (j:=j)
  have h2:((kept p (l.take j)).length+1)*32≤1099511627776:=by omega
  simp -implicitDefEqProofs [hjn]
  refine Aa (hH tags l[j].tag ht) ?_
  have hpe:decide (l[j].tag∈tags)=p l[j].tag:=by rw[←hp]
  rw[hpe]
  by_cases he:p l[j].tag=true
  ·have hst:=Qk hjn he
   have hsl:=Io hjn he
   simp -implicitDefEqProofs [he,hjn,h1,h2]
   exact⟨k-1,by omega,j+1,by omega,by simp[hw],by rw[hsl],by rw[←hst]⟩
  ·have hst:=Tq hjn he
   simp -implicitDefEqProofs [he]
   exact⟨k-1,by omega,j+1,by omega,by simp[hw],by rw[hst],by rw[hst]⟩
 ·have e:=TG (p:=p) (l:=l) (j:=j) (by omega)
  simp -implicitDefEqProofs [hjn,e]
theorem Ai9 (D:Dn) (hR:Ff (D M6)):Gy (Body D Mc):=by
 intro l hl
 have hll:=hl.1
 have hres:Z9 l=kept (fun t=> !AO t) l:=rfl
 rw[hres]
 generalize hp:(fun t=> !AO t)=p
 simp -implicitDefEqProofs
 refine Af (fun k s=>∃j o1 o2 o3 o4,j+k=l.length∧s=⟨[.sl 1 2 l.length (l.flatMap BD),.undef,.arr 5,I j,.undef,.undef],[.free,o1,o2,o3,o4,.arr 2 0 (kept p (l.take j)).length ((kept p (l.take j)).flatMap BD)]⟩) ?_ (l.length) _ ⟨0,.free,.free,.free,.free,by simp,by simp[kept]⟩
 intro k s ⟨j,o1,o2,o3,o4,hj,hs⟩
 subst hs
 by_cases hjn:j<l.length
 ·have hw:IntKind.i64.wrap ((j:Int)+1)=(j+1:Nat):=by rw[Ab (by omega) (by omega)];simp
  have hb:=MF hl hjn
  have h1:l[j].body.length*8≤1099511627776:=by omega
  have hkl:=Ug (p:=p) (l:=l) (j:=j)
  have h2:((kept p (l.take j)).length+1)*32≤1099511627776:=by omega
  simp -implicitDefEqProofs [hjn]
  refine Aa (hR l[j].tag) ?_
  have hpe:(!AO l[j].tag)=p l[j].tag:=by rw[←hp]
  by_cases he:p l[j].tag=true
  ·have hst:=Qk hjn he
   have hsl:=Io hjn he
   have he':AO l[j].tag=false:=by rw[he]at hpe;simpa using hpe
   simp -implicitDefEqProofs [he',hjn,h1,h2]
   exact⟨k-1,by omega,j+1,by omega,by simp[hw],by rw[hsl],by rw[←hst]⟩
  ·have hst:=Tq hjn he
   have he':AO l[j].tag=true:=by simp at he;rw[he]at hpe;simpa using hpe
   simp -implicitDefEqProofs [he']
   exact⟨k-1,by omega,j+1,by omega,by simp[hw],by rw[hst],by rw[hst]⟩
 ·have e:=TG (p:=p) (l:=l) (j:=j) (by omega)
  simp -implicitDefEqProofs [hjn,e]
theorem Atd (l:List Ext):Kl l (Ar l)=l:=by
 unfold Kl kept
 rw[List.filter_eq_self]
 intro x hx
 simp only[decide_eq_true_eq]
 exact List.mem_map.2 ⟨x,hx,rfl⟩
theorem MJ (l:List Ext):(Ar l).length=l.length:=by simp[Ar]
theorem AwT (D:Dn) (hT:Kq (D Acw)) (hK:Mq (D YG)):NR (Body D Td):=by
 intro l hl
 have hll:=hl.1
 simp -implicitDefEqProofs
 refine Aa (hT l hll) ?_
 simp -implicitDefEqProofs
 refine Aa (hK l (Ar l) hl (by rw[MJ];unfold maxLen;omega)) ?_
 simp -implicitDefEqProofs [Atd]
end Go.Eng.T
namespace Go.Eng.T
set_option maxRecDepth 20000
def hB (h:Hello):Prop:=h.versions.length≤4194304∧SY h.exts
def CP (h:Hello):Bool:=Bq h.versions&&EC h.exts
abbrev Eh (R:Rel):Prop:=∀h:Hello,hB h→R [arg (CV h)] [] (B (CP h)) []
theorem AtZ (D:Dn) (hA:CB (D Gz)) (hE:FE (D Kk)):Eh (Body D Sj):=by
 intro h hh
 simp -implicitDefEqProofs
 refine Aa (hA _ (by have:=hh.1;unfold maxLen;omega)) ?_
 by_cases h1:Bq h.versions=true
 rotate_left
 ·simp -implicitDefEqProofs [h1,CP]
 simp -implicitDefEqProofs [h1]
 refine Aa (hE _ hh.2) ?_
 simp -implicitDefEqProofs [h1,CP]
theorem At8 (D:Dn) (hA:CB (D Gt)) (hE:FE (D Ki)):Eh (Body D Sg):=by
 intro h hh
 simp -implicitDefEqProofs
 refine Aa (hA _ (by have:=hh.1;unfold maxLen;omega)) ?_
 by_cases h1:Bq h.versions=true
 rotate_left
 ·simp -implicitDefEqProofs [h1,CP]
 simp -implicitDefEqProofs [h1]
 refine Aa (hE _ hh.2) ?_
 simp -implicitDefEqProofs [h1,CP]
abbrev J8 (R:Rel):Prop:=∀h:Hello,hB h→R [arg (CV h)] [] (.agg (CV h)) []
theorem Aqx (D:Dn) (hE:NR (D Wz)):J8 (Body D OU):=by
 intro h hh
 have h1:h.versions.length*8≤1099511627776:=by have:=hh.1;omega
 simp -implicitDefEqProofs [h1]
 refine Aa (hE _ hh.2) ?_
 simp -implicitDefEqProofs
theorem Atr (D:Dn) (hE:NR (D YA)):J8 (Body D Rk):=by
 intro h hh
 have h1:h.versions.length*8≤1099511627776:=by have:=hh.1;omega
 simp -implicitDefEqProofs [h1]
 refine Aa (hE _ hh.2) ?_
 simp -implicitDefEqProofs
def lossy (b:FI) (x:Ext):Bool:=decide (x.tag∈b.drops)||(b.lists&&(!decide (x.tag∈b.strips)&& !decide (InR x.tag 1 3)))
def AtS (vs:List Int):Int:=vs.getLastD 0
def Nb (b:FI) (h:Hello):Bool:=(decide (0<b.limit)&&decide (b.limit<AtS h.versions))||h.exts.any (lossy b)
def stays (b:FI) (t:Int):Bool:= !decide (t∈b.strips)
def AZ:Hello:=⟨[],[]⟩
def Ca (b:FI) (h:Hello):Hello×Bool:=if Ib b&&(CP h&& !Nb b h)then(⟨h.versions,kept (stays b) h.exts⟩,true)else(AZ,false)
abbrev Oe (R:Rel):Prop:=∀(b:FI) (h:Hello),Ih b→hB h→R [arg (Cn b),arg (CV h)] [] (.tup [.agg (CV (Ca b h).1),B (Ca b h).2]) []
theorem Xb {xs:List Int} (h:Bq xs=true):0<xs.length:=by
 unfold Bq at h
 simp only[Bool.and_eq_true,decide_eq_true_eq]at h
 exact h.2
theorem ABU {xs:List Int} (h:xs.length-1<xs.length):AtS xs=xs[xs.length-1]:=by
 unfold AtS
 rw[List.getLastD_eq_getLast?,List.getLast?_eq_getElem?,List.getElem?_eq_getElem h];rfl
theorem AsE (D:Dn) (hX:RZ (D AeX)) (hE:Eh (D FP)) (hH:QA (D IZ)) (hI:Uk (D Dk)):Oe (Body D R9):=by
 intro b h hb hh
 obtain⟨hv,hx⟩:=hh
 have hll:=hx.1
 simp -implicitDefEqProofs
 refine Aa (hX b hb) ?_
 by_cases h1:Ib b=true
 rotate_left
 ·simp -implicitDefEqProofs [h1,Ca,AZ]
 simp -implicitDefEqProofs [h1]
 refine Aa (hE h ⟨hv,hx⟩) ?_
 by_cases h2:CP h=true
 rotate_left
 ·simp -implicitDefEqProofs [h2,Ca,AZ]
 have hpos:0<h.versions.length:=Xb (by unfold CP at h2;simp only[Bool.and_eq_true]at h2;exact h2.1)
 have hn1:h.versions.length-1<h.versions.length:=by omega
 have hw1:IntKind.i64.wrap ((h.versions.length:Int)-1)=((h.versions.length-1:Nat):Int):=by rw[Ab (by omega) (by omega)];omega
 have htop:=ABU hn1
 by_cases h3:0<b.limit
 ·by_cases h4:b.limit<h.versions[h.versions.length-1]
  ·have e:Ca b h=(AZ,false):=by simp[Ca,Nb,htop,h3,h4]
   simp -implicitDefEqProofs [h2,h3,hw1,hn1,hpos,h4,e,AZ]
  ·have h3':b.limit<AtS h.versions↔False:=by rw[htop];simpa using h4
   have b0:h.versions.length*8≤1099511627776:=by omega
   simp -implicitDefEqProofs [h2,h3,hw1,hn1,hpos,h4,b0]
   refine Af (fun k s=>∃j v8 o6 o7 o8 o9,j+k=h.exts.length∧(h.exts.take j).any (lossy b)=false∧s=⟨[.undef,.undef,.ptr 0 0,.ptr 1 0,.ptr 2 0,.undef,.ptr 5 0,I j,v8,.undef,.undef,.undef,.undef,.undef],[.var ((Cn b).map (Bc 1)),.var ((CV h).map (Bc 1)),.var [.nil 1,.nil 2],.dead,.arr 1 0 h.versions.length (ints h.versions),.var [.arr 4,.arr 10],o6,o7,o8,o9,.arr 2 0 (kept (stays b) (h.exts.take j)).length ((kept (stays b) (h.exts.take j)).flatMap BD)]⟩) ?_ (h.exts.length) _ ⟨0,.undef,.free,.free,.free,.free,by simp,by simp,by simp[kept]⟩
   intro k s ⟨j,v8,o6,o7,o8,o9,hj,hp,hs⟩
   subst hs
   by_cases hjn:j<h.exts.length
   ·have hw:IntKind.i64.wrap ((j:Int)+1)=(j+1:Nat):=by rw[Ab (by omega) (by omega)];simp
    have hbd:=MF hx hjn
    have b1:h.exts[j].body.length*8≤1099511627776:=by omega
    have hkl:=Ug (p:=stays b) (l:=h.exts) (j:=j)
    have b2:((kept (stays b) (h.exts.take j)).length+1)*32≤1099511627776:=by omega
    have hst:=Aju (p:=lossy b) hjn
    rw[hp,Bool.false_or]at hst
    simp -implicitDefEqProofs [hjn]
    refine Aa (hH _ _ hb.2) ?_
    simp -implicitDefEqProofs
    refine Aa (hH _ _ hb.1) ?_
    by_cases g1:h.exts[j].tag∈b.drops
    ·have e:Ca b h=(AZ,false):=by
      have:=Ws (p:=lossy b) hjn (by simp[lossy,g1])
      simp[Ca,Nb,this]
     simp -implicitDefEqProofs [g1,e,AZ]
    by_cases g2:h.exts[j].tag∈b.strips
    ·have hl:lossy b h.exts[j]=false:=by simp[lossy,g1,g2]
     have hk:=Tq (p:=stays b) hjn (by simp[stays,g2])
     by_cases g3:b.lists=true
     ·simp -implicitDefEqProofs [g1,g2,g3]
      exact⟨k-1,by omega,j+1,by omega,by simpa using hst.trans hl,by simp[hw],by rw[hk],by rw[hk]⟩
     ·simp -implicitDefEqProofs [g1,g2,g3]
      exact⟨k-1,by omega,j+1,by omega,by simpa using hst.trans hl,by simp[hw],by rw[hk],by rw[hk]⟩
    have hk:=Qk (p:=stays b) hjn (by simp[stays,g2])
    have hkl:=Io (p:=stays b) hjn (by simp[stays,g2])
    by_cases g3:b.lists=true
    rotate_left
    ·have hl:lossy b h.exts[j]=false:=by simp[lossy,g1,g2,g3]
     simp -implicitDefEqProofs [g1,g2,g3,hjn,b1,b2]
     exact⟨k-1,by omega,j+1,by omega,by simpa using hst.trans hl,by simp[hw],by rw[hkl],by rw[←hk]⟩
    simp -implicitDefEqProofs [g1,g2,g3]
    refine Aa (hI _ _ _) ?_
    by_cases g4:InR h.exts[j].tag 1 3
    ·have hl:lossy b h.exts[j]=false:=by simp[lossy,g1,g2,g3,g4]
     simp -implicitDefEqProofs [g4,hjn,b1,b2]
     exact⟨k-1,by omega,j+1,by omega,by simpa using hst.trans hl,by simp[hw],by rw[hkl],by rw[←hk]⟩
    ·have e:Ca b h=(AZ,false):=by
      have:=Ws (p:=lossy b) hjn (by simp[lossy,g1,g2,g3,g4])
      simp[Ca,Nb,this]
     simp -implicitDefEqProofs [g4,e,AZ]
   ·have hje:j=h.exts.length:=by omega
    have ea:h.exts.any (lossy b)=false:=any_none (by omega) hp
    have ek:=TG (p:=stays b) (l:=h.exts) (j:=j) (by omega)
    have e:Ca b h=(⟨h.versions,kept (stays b) h.exts⟩,true):=by simp only[Ca,h1,h2,Nb,ea,h3'];simp
    simp -implicitDefEqProofs [hjn,e,ek]
 ·have b0:h.versions.length*8≤1099511627776:=by omega
  simp -implicitDefEqProofs [h2,h3,b0]
  refine Af (fun k s=>∃j v8 o6 o7 o8 o9,j+k=h.exts.length∧(h.exts.take j).any (lossy b)=false∧s=⟨[.undef,.undef,.ptr 0 0,.ptr 1 0,.ptr 2 0,.undef,.ptr 5 0,I j,v8,.undef,.undef,.undef,.undef,.undef],[.var ((Cn b).map (Bc 1)),.var ((CV h).map (Bc 1)),.var [.nil 1,.nil 2],.dead,.arr 1 0 h.versions.length (ints h.versions),.var [.arr 4,.arr 10],o6,o7,o8,o9,.arr 2 0 (kept (stays b) (h.exts.take j)).length ((kept (stays b) (h.exts.take j)).flatMap BD)]⟩) ?_ (h.exts.length) _ ⟨0,.undef,.free,.free,.free,.free,by simp,by simp,by simp[kept]⟩
  intro k s ⟨j,v8,o6,o7,o8,o9,hj,hp,hs⟩
  subst hs
  by_cases hjn:j<h.exts.length
  ·have hw:IntKind.i64.wrap ((j:Int)+1)=(j+1:Nat):=by rw[Ab (by omega) (by omega)];simp
   have hbd:=MF hx hjn
   have b1:h.exts[j].body.length*8≤1099511627776:=by omega
   have hkl:=Ug (p:=stays b) (l:=h.exts) (j:=j)
   have b2:((kept (stays b) (h.exts.take j)).length+1)*32≤1099511627776:=by omega
   have hst:=Aju (p:=lossy b) hjn
   rw[hp,Bool.false_or]at hst
   simp -implicitDefEqProofs [hjn]
   refine Aa (hH _ _ hb.2) ?_
   simp -implicitDefEqProofs
   refine Aa (hH _ _ hb.1) ?_
   by_cases g1:h.exts[j].tag∈b.drops
   ·have e:Ca b h=(AZ,false):=by
     have:=Ws (p:=lossy b) hjn (by simp[lossy,g1])
     simp[Ca,Nb,this]
    simp -implicitDefEqProofs [g1,e,AZ]
   by_cases g2:h.exts[j].tag∈b.strips
   ·have hl:lossy b h.exts[j]=false:=by simp[lossy,g1,g2]
    have hk:=Tq (p:=stays b) hjn (by simp[stays,g2])
    by_cases g3:b.lists=true
    ·simp -implicitDefEqProofs [g1,g2,g3]
     exact⟨k-1,by omega,j+1,by omega,by simpa using hst.trans hl,by simp[hw],by rw[hk],by rw[hk]⟩
    ·simp -implicitDefEqProofs [g1,g2,g3]
     exact⟨k-1,by omega,j+1,by omega,by simpa using hst.trans hl,by simp[hw],by rw[hk],by rw[hk]⟩
   have hk:=Qk (p:=stays b) hjn (by simp[stays,g2])
   have hkl:=Io (p:=stays b) hjn (by simp[stays,g2])
   by_cases g3:b.lists=true
   rotate_left
   ·have hl:lossy b h.exts[j]=false:=by simp[lossy,g1,g2,g3]
    simp -implicitDefEqProofs [g1,g2,g3,hjn,b1,b2]
    exact⟨k-1,by omega,j+1,by omega,by simpa using hst.trans hl,by simp[hw],by rw[hkl],by rw[←hk]⟩
   simp -implicitDefEqProofs [g1,g2,g3]
   refine Aa (hI _ _ _) ?_
   by_cases g4:InR h.exts[j].tag 1 3
   ·have hl:lossy b h.exts[j]=false:=by simp[lossy,g1,g2,g3,g4]
    simp -implicitDefEqProofs [g4,hjn,b1,b2]
    exact⟨k-1,by omega,j+1,by omega,by simpa using hst.trans hl,by simp[hw],by rw[hkl],by rw[←hk]⟩
   ·have e:Ca b h=(AZ,false):=by
     have:=Ws (p:=lossy b) hjn (by simp[lossy,g1,g2,g3,g4])
     simp[Ca,Nb,this]
    simp -implicitDefEqProofs [g4,e,AZ]
  ·have hje:j=h.exts.length:=by omega
   have ea:h.exts.any (lossy b)=false:=any_none (by omega) hp
   have ek:=TG (p:=stays b) (l:=h.exts) (j:=j) (by omega)
   have e:Ca b h=(⟨h.versions,kept (stays b) h.exts⟩,true):=by simp only[Ca,h1,h2,Nb,ea,h3];simp
   simp -implicitDefEqProofs [hjn,e,ek]
abbrev Xr (R:Rel):Prop:=∀(t:Int) (b:FI),Ih b→R [I t,.rptr 1 (Cn b) 0] [] (B (stays b t)) []
theorem As1 (D:Dn) (hH:QA (D Bv)):Xr (Body D Pz):=by
 intro t b hb
 simp -implicitDefEqProofs
 refine Aa (hH b.strips t hb.2) ?_
 simp -implicitDefEqProofs [stays]
abbrev Ahb (R:Rel):Prop:=∀(x:Ext) (b:FI),Ih b→R [arg (BD x),.rptr 1 (Cn b) 0] [] (B (lossy b x)) []
theorem Azf (D:Dn) (hH:QA (D Bv)) (hI:Uk (D Cj)):Ahb (Body D SB):=by
 intro x b hb
 simp -implicitDefEqProofs
 refine Aa (hH b.drops x.tag hb.1) ?_
 by_cases g1:x.tag∈b.drops
 ·simp -implicitDefEqProofs [g1,lossy]
 by_cases g3:b.lists=true
 rotate_left
 ·simp -implicitDefEqProofs [g1,g3,lossy]
 simp -implicitDefEqProofs [g1,g3]
 refine Aa (hH b.strips x.tag hb.2) ?_
 by_cases g2:x.tag∈b.strips
 ·simp -implicitDefEqProofs [g1,g2,g3,lossy]
 simp -implicitDefEqProofs [g2]
 refine Aa (hI _ _ _) ?_
 simp -implicitDefEqProofs [g1,g2,g3,lossy]
def ABK (xs:List Int):Int:=xs.foldl max (xs.headD 0)
abbrev AD9 (R:Rel):Prop:=∀xs:List Int,0<xs.length→xs.length≤4194304→R [.sl 1 1 xs.length (ints xs)] [] (I (ABK xs)) []
abbrev AtN (R:Rel):Prop:=∀xs:List Int,xs.length≤4194304→R [.sl 1 1 xs.length (ints xs)] [] (.sl 0 1 xs.length (ints xs)) []
abbrev AoD (R:Rel):Prop:=∀(b:FI) (h:Hello),Ih b→hB h→Ib b=true→Bq h.versions=true→R [arg (Cn b),arg (CV h)] [] (B (Nb b h)) []
theorem AaR:∀(xs:List Int) (a:Int),(∀x,x∈xs→a≤x)→(∀i,(h:i+1<xs.length)→xs[i]≤xs[i+1])→xs.foldl max a=(xs.getLast?.getD a)
 | [],a,_,_=>rfl
 | x::r,a,h1,h2=>by
  have hx:=h1 x (by simp)
  have hr:∀y,y∈r→x≤y:=by
   intro y hy
   obtain⟨n,hn,rfl⟩:=List.getElem_of_mem hy
   have key:∀m,(hm:m<r.length)→x≤r[m]:=by
    intro m
    induction m with
    | zero=>intro hm;have:=h2 0 (by simp;omega);simpa using this
    | succ m ih=>
     intro hm
     have h3:=ih (by omega)
     have:=h2 (m+1) (by simp;omega)
     simp only[List.getElem_cons_succ]at this
     omega
   exact key n hn
  have ih:=AaR r x hr (fun i h=>by have:=h2 (i+1) (by simp;omega);simpa using this)
  simp only[List.foldl_cons]
  rw[show max a x=x by omega,ih]
  cases r with
  | nil=>rfl
  | cons y s=>simp[List.getLast?_cons_cons,List.getLast?_cons]
theorem Apl {xs:List Int} (h:Bq xs=true) {i:Nat} (hi:i+1<xs.length):xs[i]<xs[i+1]:=by
 unfold Bq KC at h
 simp only[Bool.and_eq_true,List.all_eq_true,List.mem_range]at h
 have:=(h.1 (i+1) hi).2
 rw[Wn hi,show i+1-1=i by omega,Wn (by omega)]at this
 simpa using this
theorem Aw4 {xs:List Int} (h:Bq xs=true):ABK xs=AtS xs:=by
 cases xs with
 | nil=>rfl
 | cons x r=>
  unfold ABK AtS
  simp only[List.headD_cons,List.foldl_cons]
  rw[show max x x=x by omega,AaR r x ?_ ?_]
  ·cases r with
   | nil=>rfl
   | cons y s=>simp[List.getLastD_eq_getLast?,List.getLast?_cons_cons,List.getLast?_cons]
  ·intro y hy
   obtain⟨n,hn,rfl⟩:=List.getElem_of_mem hy
   induction n with
   | zero=>have:=Apl h (i:=0) (by simp;omega);simp at this;omega
   | succ m ih=>
    have h3:=ih (by omega) (List.getElem_mem _)
    have:=Apl h (i:=m+1) (by simp;omega)
    simp only[List.getElem_cons_succ]at this
    omega
  ·intro i hi
   have:=Apl h (i:=i+1) (by simp;omega)
   simp only[List.getElem_cons_succ]at this
   omega
theorem Aem {b:FI} {r:List V} (h:MR r):MR (.rptr 1 (Cn b) 0::r):=ZX (fun H=>by simp) (fun H=>by simp) h
theorem ACT (D:Dn) (hM:AD9 (D Ve)) (h1:Ahb (D Sy)) (hC:JB D (D Ia)):AoD (Body D Xj):=by
 intro b h hb hh hbox hver
 obtain⟨hv,hx⟩:=hh
 have hll:=hx.1
 have hpos:=Xb hver
 have hlim:0≤b.limit:=by unfold Ib at hbox;simp only[Bool.and_eq_true,decide_eq_true_eq]at hbox;exact hbox.1.1.1.1.1
 by_cases h0:b.limit=0
 ·obtain⟨lim,dr,st,li⟩:=b
  dsimp only at h0
  subst h0
  simp -implicitDefEqProofs
  refine Aa (hC h.exts Sy _ (lossy ⟨0,dr,st,li⟩) (by unfold maxLen;omega) (Aem (b:=⟨0,dr,st,li⟩) Gp) (fun j hj=>h1 h.exts[j] ⟨0,dr,st,li⟩ hb)) ?_
  simp -implicitDefEqProofs [Nb]
 ·have hn:0<b.limit:=by omega
  simp -implicitDefEqProofs [h0]
  refine Aa (hM h.versions hpos hv) ?_
  rw[Aw4 hver]
  by_cases h4:b.limit<AtS h.versions
  ·simp -implicitDefEqProofs [h0,h4,Nb,hn]
  ·simp -implicitDefEqProofs [h0,h4]
   refine Aa (hC h.exts Sy _ (lossy b) (by unfold maxLen;omega) (Aem Gp) (fun j hj=>h1 h.exts[j] b hb)) ?_
   simp -implicitDefEqProofs [Nb,hn,h4]
theorem Aus (D:Dn) (hX:RZ (D Ae3)) (hE:Eh (D GA)) (hL:AoD (D ArK)) (hC:AtN (D SQ)) (h1':Xr (D VD)) (hK:K8 D (D IQ)):Oe (Body D Ta):=by
 intro b h hb hh
 simp -implicitDefEqProofs
 refine Aa (hX b hb) ?_
 by_cases h1:Ib b=true
 rotate_left
 ·simp -implicitDefEqProofs [h1,Ca,AZ]
 simp -implicitDefEqProofs [h1]
 refine Aa (hE h hh) ?_
 by_cases h2:CP h=true
 rotate_left
 ·simp -implicitDefEqProofs [h2,Ca,AZ]
 have hver:Bq h.versions=true:=by unfold CP at h2;simp only[Bool.and_eq_true]at h2;exact h2.1
 simp -implicitDefEqProofs [h2]
 refine Aa (hL b h hb hh h1 hver) ?_
 by_cases h3:Nb b h=true
 ·simp -implicitDefEqProofs [h3,Ca,AZ]
 have e:Ca b h=(⟨h.versions,kept (stays b) h.exts⟩,true):=by simp[Ca,h1,h2,h3]
 simp -implicitDefEqProofs [h3]
 refine Aa (hC h.versions hh.1) ?_
 simp -implicitDefEqProofs
 refine Aa (hK h.exts VD _ (stays b) hh.2 (Aem Gp) (Aap Qi) (fun t=>h1' t b hb)) ?_
 simp -implicitDefEqProofs [e]
end Go.Eng.T
namespace Go.Eng.T
set_option maxRecDepth 20000
def Ho:List FI→Hello→Hello×Bool
 | [],h=>(h,true)
 | b::r,h=>if(Ca b h).2=true then Ho r (Ca b h).1 else(AZ,false)
theorem AeG {path:List FI} {j:Nat} {x:Hello} (h:j<path.length):Ho (path.drop j) x=if(Ca path[j] x).2=true then Ho (path.drop (j+1)) (Ca path[j] x).1 else(AZ,false):=by
 rw[List.drop_eq_getElem_cons h];rfl
theorem AjY {path:List FI} {j:Nat} {x:Hello} (h:path.length≤j):Ho (path.drop j) x=(x,true):=by rw[List.drop_eq_nil_of_le h];rfl
def Be (path:List FI) (h:Hello):Hello×Bool:=if decide (path.length≤4)&&CP h then Ho path h else(AZ,false)
theorem AhW:hB AZ:=⟨by simp[AZ],Acb⟩
theorem An4 {b:FI} {h:Hello} (hh:hB h):hB (Ca b h).1:=by
 unfold Ca
 split
 ·exact⟨hh.1,TW hh.2 _⟩
 ·exact AhW
theorem AsX {b:FI} {h:Hello} (hk:(Ca b h).2=false):(Ca b h).1=AZ:=by
 unfold Ca at *
 split at hk
 ·cases hk
 ·rename_i hc;rw[if_neg hc]
abbrev Fv (R:Rel):Prop:=∀(path:List FI) (h:Hello),lnS Ih path→hB h→R [.sl 1 4 path.length (path.flatMap Cn),arg (CV h)] [] (.tup [.agg (CV (Be path h).1),B (Be path h).2]) []
theorem Aq0 (D:Dn) (hE:Eh (D FP)) (hC:J8 (D V5)) (hP:Oe (D AkG)):Fv (Body D Q0):=by
 intro path h hb hh
 have hl:=hb.1
 unfold maxLen at hl
 by_cases h1:path.length≤4
 rotate_left
 ·have h1':(4:Int)<path.length:=by omega
  simp -implicitDefEqProofs [h1',h1,Be,AZ]
 have h1':¬(4:Int)<path.length:=by omega
 simp -implicitDefEqProofs [h1']
 refine Aa (hE h hh) ?_
 by_cases h2:CP h=true
 rotate_left
 ·simp -implicitDefEqProofs [h2,h1,Be,AZ]
 have e:Be path h=Ho path h:=by simp[Be,h1,h2]
 rw[e]
 simp -implicitDefEqProofs [h2]
 refine Aa (hC h hh) ?_
 simp -implicitDefEqProofs
 refine Af (fun k s=>∃j x o5 o6 o7,j+k=path.length∧hB x∧Ho path h=Ho (path.drop j) x∧s=⟨[.sl 1 4 path.length (path.flatMap Cn),.undef,.undef,.ptr 1 0,.undef,.ptr 4 0,I j,.undef,.undef,.undef,.undef,.undef],[.var ((CV h).map (Bc 1)),.var [.nil 1,.nil 2],.free,.free,.var [.arr 8,.arr 9],o5,o6,o7,.arr 1 0 x.versions.length (ints x.versions),.arr 2 0 x.exts.length (x.exts.flatMap BD)]⟩) ?_ (path.length) _ ⟨0,h,.free,.free,.free,by simp,hh,by simp,by simp⟩
 intro k s ⟨j,x,o5,o6,o7,hj,hx,hg,hs⟩
 subst hs
 by_cases hjn:j<path.length
 ·have hw:IntKind.i64.wrap ((j:Int)+1)=(j+1:Nat):=by rw[Ab (by omega) (by omega)];simp
  rw[AeG hjn]at hg
  simp -implicitDefEqProofs [hjn]
  refine Aa (hP path[j] x (hb.2 j hjn) hx) ?_
  have hx':=An4 (b:=path[j]) hx
  generalize Ca path[j] x=r at hg hx'
  by_cases hk:r.2=true
  ·rw[if_pos hk]at hg
   simp -implicitDefEqProofs [hk]
   refine⟨k-1,by omega,j+1,by omega,r.1,hx',?_⟩
   simp[hw,hg]
  ·rw[if_neg hk]at hg
   simp -implicitDefEqProofs [hk,hg,AZ]
 ·rw[AjY (by omega)]at hg
  simp -implicitDefEqProofs [hjn,hg]
theorem ArE (D:Dn) (hE:Eh (D GA)) (hC:J8 (D VF)) (hP:Oe (D Ale)):Fv (Body D Qq):=by
 intro path h hb hh
 have hl:=hb.1
 unfold maxLen at hl
 simp -implicitDefEqProofs
 refine Aa (hE h hh) ?_
 by_cases h2:CP h=true
 rotate_left
 ·simp -implicitDefEqProofs [h2,Be,AZ]
 by_cases h1:path.length≤4
 rotate_left
 ·have h1':(4:Int)<path.length:=by omega
  simp -implicitDefEqProofs [h2,h1',h1,Be,AZ]
 have h1':¬(4:Int)<path.length:=by omega
 have e:Be path h=Ho path h:=by simp[Be,h1,h2]
 rw[e]
 simp -implicitDefEqProofs [h2,h1']
 refine Aa (hC h hh) ?_
 simp -implicitDefEqProofs
 refine Af (fun k s=>∃j x ok o5 o6,j+k=path.length∧hB x∧Ho path h=(if ok=true then Ho (path.drop j) x else(AZ,false))∧(ok=false→x=AZ)∧s=⟨[.sl 1 4 path.length (path.flatMap Cn),.undef,.undef,.ptr 1 0,.undef,.ptr 4 0,B ok,I j,.undef,.undef],[.var ((CV h).map (Bc 1)),.var [.nil 1,.nil 2],.free,.free,.var [.arr 7,.arr 8],o5,o6,.arr 1 0 x.versions.length (ints x.versions),.arr 2 0 x.exts.length (x.exts.flatMap BD)]⟩) ?_ (path.length) _ ⟨0,h,true,.free,.free,by simp,hh,by simp,by simp,by simp⟩
 intro k s ⟨j,x,ok,o5,o6,hj,hx,hg,hno,hs⟩
 subst hs
 by_cases hok:ok=true
 rotate_left
 ·rw[if_neg hok]at hg
  have hok':ok=false:=by simpa using hok
  have hno':=hno hok'
  subst hok'
  subst hno'
  by_cases hjn:j<path.length
  ·simp -implicitDefEqProofs [hjn,hg,AZ]
  ·simp -implicitDefEqProofs [hjn,hg,AZ]
 rw[if_pos hok]at hg
 subst hok
 by_cases hjn:j<path.length
 ·have hw:IntKind.i64.wrap ((j:Int)+1)=(j+1:Nat):=by rw[Ab (by omega) (by omega)];simp
  rw[AeG hjn]at hg
  simp -implicitDefEqProofs [hjn]
  refine Aa (hP path[j] x (hb.2 j hjn) hx) ?_
  have hx':=An4 (b:=path[j]) hx
  have hno':=AsX (b:=path[j]) (h:=x)
  generalize Ca path[j] x=r at hg hx' hno'
  simp -implicitDefEqProofs
  refine⟨k-1,by omega,j+1,by omega,r.1,hx',?_⟩
  simp[hw,hg,hno']
  by_cases hr:r.2=true
  ·right;exact⟨fun h=>by simp[hr]at h,hr⟩
  ·left;exact⟨fun h=>absurd h hr,hno' (by simpa using hr),by simpa using hr⟩
 ·rw[AjY (by omega)]at hg
  simp -implicitDefEqProofs [hjn,hg]
def ADd (b:FI):Bool:=decide (b.limit=0)&&(decide (b.drops.length=0)&&(decide (b.strips.length=0)&& !b.lists))
def ApV (path:List FI):Bool:=decide (path.length≤4)&&path.all ADd
theorem AaX {α:Type} {p:α→Bool} {xs:List α} {j:Nat} (h:j<xs.length) (hp:p xs[j]=false):xs.all p=false:=List.all_eq_false.2 ⟨_,List.getElem_mem h,by simp[hp]⟩
theorem Aj5 {α:Type} {p:α→Bool} {xs:List α} {j:Nat} (h:j<xs.length):(xs.take (j+1)).all p=((xs.take j).all p&&p xs[j]):=by
 have e:xs.take (j+1)=xs.take j++ [xs[j]]:=by simp
 rw[e,List.all_append];simp
theorem An6 {α:Type} {p:α→Bool} {xs:List α} {j:Nat} (h:xs.length≤j):(xs.take j).all p=xs.all p:=by rw[List.take_of_length_le h]
abbrev FR (R:Rel):Prop:=∀xs:List Int,xs.length≤4194304→R [.sl 1 1 xs.length (ints xs)] [] (.agg (CV ⟨xs,[]⟩)) []
theorem AlI (D:Dn):FR (Body D Nn):=by
 intro xs h
 have h1:xs.length*8≤1099511627776:=by omega
 simp -implicitDefEqProofs [h1]
theorem AkI (D:Dn):FR (Body D NI):=by
 intro xs h
 have h1:xs.length*8≤1099511627776:=by omega
 simp -implicitDefEqProofs [h1]
def isOpen (path:List FI) (vs:List Int):Bool:=Bq vs&&(Be path ⟨vs.take 1,[]⟩).2
abbrev Gq (R:Rel):Prop:=∀(path:List FI) (vs:List Int),lnS Ih path→vs.length≤4194304→R [.sl 1 4 path.length (path.flatMap Cn),.sl 1 1 vs.length (ints vs)] [] (B (isOpen path vs)) []
theorem AkK (D:Dn) (hA:CB (D Gz)) (hH:FR (D Uc)) (hP:Fv (D Lj)):Gq (Body D Nt):=by
 intro path vs hb hv
 simp -implicitDefEqProofs
 refine Aa (hA vs (by unfold maxLen;omega)) ?_
 by_cases h1:Bq vs=true
 rotate_left
 ·simp -implicitDefEqProofs [h1,isOpen]
 have hpos:=Xb h1
 have h1l:(1:Int)≤vs.length:=by omega
 have h1n:1≤vs.length:=by omega
 have hlen:(vs.take 1).length=1:=by simp;omega
 have hmin:min 1 vs.length=1:=by omega
 simp -implicitDefEqProofs [h1,h1l,h1n]
 have hh:=hH (vs.take 1) (by omega)
 rw[hlen]at hh
 refine Aa (hh) ?_
 simp -implicitDefEqProofs [hmin]
 have hp:=hP path ⟨vs.take 1,[]⟩ hb ⟨by simp;omega,Acb⟩
 simp -implicitDefEqProofs [hmin]at hp
 refine Aa (hp) ?_
 simp -implicitDefEqProofs [isOpen,h1]
theorem Ama (D:Dn) (hA:CB (D Gt)) (hH:FR (D TV)) (hP:Fv (D LZ)):Gq (Body D Nk):=by
 intro path vs hb hv
 simp -implicitDefEqProofs
 refine Aa (hA vs (by unfold maxLen;omega)) ?_
 by_cases h1:Bq vs=true
 rotate_left
 ·simp -implicitDefEqProofs [h1,isOpen]
 have hpos:=Xb h1
 have h1l:(1:Int)≤vs.length:=by omega
 have h1n:1≤vs.length:=by omega
 have hlen:(vs.take 1).length=1:=by simp;omega
 have hmin:min 1 vs.length=1:=by omega
 simp -implicitDefEqProofs [h1,h1l,h1n]
 have hh:=hH (vs.take 1) (by omega)
 rw[hlen]at hh
 refine Aa (hh) ?_
 simp -implicitDefEqProofs [hmin]
 have hp:=hP path ⟨vs.take 1,[]⟩ hb ⟨by simp;omega,Acb⟩
 simp -implicitDefEqProofs [hmin]at hp
 refine Aa (hp) ?_
 simp -implicitDefEqProofs [isOpen,h1]
def Kb (path:List FI) (v:Int):Bool:= !(Be path ⟨[v],[]⟩).2
def Bt (path:List FI) (vs:List Int):List Int:=if Bq vs=true then vs.filter (Kb path)else []
abbrev FQ (R:Rel):Prop:=∀(path:List FI) (vs:List Int),lnS Ih path→vs.length≤4194304→R [.sl 1 4 path.length (path.flatMap Cn),.sl 1 1 vs.length (ints vs)] [] (.sl 0 1 (Bt path vs).length (ints (Bt path vs))) []
theorem As3 (path:List FI) (v:Int):isOpen path [v]= !Kb path v:=by
 unfold isOpen Kb
 by_cases h:Bq [v]=true
 ·simp[h]
 ·have:Be path ⟨[v],[]⟩=(AZ,false):=by
   unfold Be CP
   have h':Bq [v]=false:=by simpa using h
   simp[h']
  simp[h,this]
theorem AgU (D:Dn) (hA:CB (D Gz)) (hO:Gq (D TU)):FQ (Body D KL):=by
 intro path vs hb hv
 by_cases h1:Bq vs=true
 rotate_left
 ·have e:Bt path vs=[]:=by unfold Bt;rw[if_neg h1]
  rw[e]
  simp -implicitDefEqProofs
  refine Af (fun k s=>s=⟨[.sl 1 4 path.length (path.flatMap Cn),.sl 1 1 vs.length (ints vs),.undef,.arr 3,I 0,.undef,.undef],[.free,.free,.free,.arr 1 0 0 (ints [])]⟩) ?_ 0 _ (by simp)
  intro k s hs
  subst hs
  by_cases h0:0<vs.length
  ·simp -implicitDefEqProofs [h0]
   refine Aa (hA vs (by unfold maxLen;omega)) ?_
   simp -implicitDefEqProofs [h1]
  ·simp -implicitDefEqProofs [h0]
 have e:Bt path vs=vs.filter (Kb path):=by unfold Bt;rw[if_pos h1]
 rw[e]
 simp -implicitDefEqProofs
 refine Af (fun k s=>∃j o1 o2,j+k=vs.length∧s=⟨[.sl 1 4 path.length (path.flatMap Cn),.sl 1 1 vs.length (ints vs),.undef,.arr 3,I j,.undef,.undef],[.free,o1,o2,.arr 1 0 ((vs.take j).filter (Kb path)).length (ints ((vs.take j).filter (Kb path)))]⟩) ?_ (vs.length) _ ⟨0,.free,.free,by simp,by simp⟩
 intro k s ⟨j,o1,o2,hj,hs⟩
 subst hs
 by_cases hjn:j<vs.length
 ·have hw:IntKind.i64.wrap ((j:Int)+1)=(j+1:Nat):=by rw[Ab (by omega) (by omega)];simp
  have hst:=KY (p:=Kb path) hjn
  have hfl:=Om (p:=Kb path) (xs:=vs) (j:=j)
  have hb1:(((vs.take j).filter (Kb path)).length+1)*8≤1099511627776:=by omega
  have hw1:IntKind.i64.wrap ((j:Int)+1)=(j:Int)+1:=Ab (by omega) (by omega)
  have hj1:j+1≤vs.length:=by omega
  have hj2:(j:Int)+1≤vs.length:=by omega
  have hdt:(vs.drop j).take 1=[vs[j]]:=by rw[List.drop_eq_getElem_cons hjn];rfl
  simp -implicitDefEqProofs [hjn]
  refine Aa (hA vs (by unfold maxLen;omega)) ?_
  have hjj:(j:Int)≤(j:Int)+1:=by omega
  have h11:j+1-j=1:=by omega
  simp -implicitDefEqProofs [h1,hw1,hj1,hj2,hdt,hjn,hjj,h11]
  refine Aa (hO path [vs[j]] hb (by simp)) ?_
  rw[As3]
  by_cases h2:Kb path vs[j]=true
  ·rw[if_pos h2]at hst
   simp -implicitDefEqProofs [h2,hjn,hb1]
   exact⟨k-1,by omega,j+1,by omega,by simp[hw],by rw[hst];simp,by rw[hst]⟩
  ·rw[if_neg h2,List.append_nil]at hst
   simp -implicitDefEqProofs [h2]
   exact⟨k-1,by omega,j+1,by omega,by simp[hw],by rw[hst],by rw[hst]⟩
 ·have e2:=Ma (p:=Kb path) (xs:=vs) (j:=j) (by omega)
  simp -implicitDefEqProofs [hjn,e2]
theorem Afh (D:Dn) (hA:CB (D Gt)) (hH:FR (D TV)) (hP:Fv (D LZ)):FQ (Body D KN):=by
 intro path vs hb hv
 simp -implicitDefEqProofs
 refine Aa (hA vs (by unfold maxLen;omega)) ?_
 by_cases h1:Bq vs=true
 rotate_left
 ·have e:Bt path vs=[]:=by unfold Bt;rw[if_neg h1]
  rw[e]
  simp -implicitDefEqProofs [h1]
 have e:Bt path vs=vs.filter (Kb path):=by unfold Bt;rw[if_pos h1]
 rw[e]
 simp -implicitDefEqProofs [h1]
 refine Af (fun k s=>∃j v4 o1 o2 o3 o4 o5 o6 o7 o8,j+k=vs.length∧s=⟨[.sl 1 4 path.length (path.flatMap Cn),.undef,.undef,.arr 9,v4,.undef,.undef,.sl 1 1 vs.length (ints vs),I vs.length,I j,.undef,.undef],[.free,o1,o2,o3,o4,o5,o6,o7,o8,.arr 1 0 ((vs.take j).filter (Kb path)).length (ints ((vs.take j).filter (Kb path)))]⟩) ?_ (vs.length) _ ⟨0,.undef,.free,.free,.free,.free,.free,.free,.free,.free,by simp,by simp⟩
 intro k s ⟨j,v4,o1,o2,o3,o4,o5,o6,o7,o8,hj,hs⟩
 subst hs
 by_cases hjn:j<vs.length
 ·have hw:IntKind.i64.wrap ((j:Int)+1)=(j+1:Nat):=by rw[Ab (by omega) (by omega)];simp
  have hst:=KY (p:=Kb path) hjn
  have hfl:=Om (p:=Kb path) (xs:=vs) (j:=j)
  have hb1:(((vs.take j).filter (Kb path)).length+1)*8≤1099511627776:=by omega
  simp -implicitDefEqProofs [hjn]
  refine Aa (hH [vs[j]] (by simp)) ?_
  simp -implicitDefEqProofs
  refine Aa (hP path ⟨[vs[j]],[]⟩ hb ⟨by simp,Acb⟩) ?_
  have hq:Kb path vs[j]= !(Be path ⟨[vs[j]],[]⟩).2:=rfl
  generalize Be path ⟨[vs[j]],[]⟩=r at hq
  by_cases h2:r.2=true
  ·have h3:¬Kb path vs[j]=true:=by rw[hq,h2];simp
   rw[if_neg h3,List.append_nil]at hst
   simp -implicitDefEqProofs [h2]
   exact⟨k-1,by omega,j+1,by omega,by simp[hw],by rw[hst],by rw[hst]⟩
  ·have h3:Kb path vs[j]=true:=by rw[hq];simpa using h2
   rw[if_pos h3]at hst
   simp -implicitDefEqProofs [h2,hb1]
   exact⟨k-1,by omega,j+1,by omega,by simp[hw],by rw[hst];simp,by rw[hst]⟩
 ·have e2:=Ma (p:=Kb path) (xs:=vs) (j:=j) (by omega)
  simp -implicitDefEqProofs [hjn,e2]
end Go.Eng.T
namespace Go.Eng.T
set_option maxRecDepth 20000
def Afu {α:Type} (p:α→Bool):List α→Nat→List Int
 | [],_=> []
 | x::r,i=>if p x then(i:Int)::Afu p r (i+1)else Afu p r (i+1)
theorem Aqn {α:Type} {p:α→Bool} (b:List α):∀(a:List α) (i:Nat),Afu p (a++b) i=Afu p a i++Afu p b (i+a.length)
 | [],i=>by simp[Afu]
 | x::r,i=>by
  have:=Aqn (p:=p) b r (i+1)
  simp only[List.cons_append,Afu,this,List.length_cons]
  rw[show i+1+r.length=i+(r.length+1)by omega]
  by_cases h:p x=true<;>simp[h]
theorem AzE {α:Type} {p:α→Bool}:∀(xs:List α) (i:Nat),(Afu p xs i).length≤xs.length
 | [],_=>by simp[Afu]
 | x::r,i=>by
  have:=AzE (p:=p) r (i+1)
  by_cases h:p x=true
  ·simp[Afu,h];omega
  ·simp[Afu,h];omega
end Go.Eng.T
namespace Go.Eng.T
set_option maxRecDepth 20000
set_option maxHeartbeats 1000000
def Qy (xs:List (List Int)):List V:=xs.map fun l=> .sl 0 1 l.length (ints l)
@[simp high] theorem AFe (xs:List (List Int)):(Qy xs).length=xs.length:=by simp[Qy]
@[simp] theorem AFu:Qy []=[]:=rfl
@[simp] theorem AFS (xs:List (List Int)):(Qy xs).map (Bc 0)=Qy xs:=by simp[Qy,Function.comp_def,Bc]
@[simp high] theorem AFQ {xs:List (List Int)} {j:Nat} (h:j<xs.length):(Qy xs)[j]? =some (V.sl 0 1 xs[j].length (ints xs[j])):=by simp[Qy,h]
def Lu (xs:List (List Int)):Nat:=BB List.length xs
theorem Aho {xs:List (List Int)} {j:Nat} (h:j<xs.length):xs[j].length≤Lu xs:=size_at (f:=List.length) h
theorem V7 {xs:List (List Int)}:xs.length≤Lu xs:=Gb
abbrev Lc (ls:List (List Int)):V:= .sl 1 1 ls.length (Qy ls)
def AGr (s:List Int) (v:Int) (l:List Int):Bool:=decide (0<Dl s l)&&decide (Dl (AAI s v) l=0)
def AFW (s:List Int) (ls:List (List Int)) (v:Int):List Int:=Afu (AGr s v) ls 0
end Go.Eng.T
namespace Go.Eng.T
set_option maxRecDepth 20000
set_option maxHeartbeats 1000000
def leftOf (a b:List Int):List Int:=a.filter fun v=> !decide (v∈b)
abbrev VH (R:Rel):Prop:=∀a b:List Int,a.length≤4194304→b.length≤4194304→R [.sl 1 1 a.length (ints a),.sl 1 1 b.length (ints b)] [] (.sl 0 1 (leftOf a b).length (ints (leftOf a b))) []
theorem AvL (D:Dn) (hH:QA (D IZ)):VH (Body D Si):=by
 intro a b ha hb
 have hres:leftOf a b=a.filter (fun v=> !decide (v∈b)):=rfl
 rw[hres]
 simp -implicitDefEqProofs
 refine Af (fun k s=>∃j o1 o2,j+k=a.length∧s=⟨[.sl 1 1 a.length (ints a),.sl 1 1 b.length (ints b),.undef,.arr 3,I j,.undef,.undef],[.free,o1,o2,.arr 1 0 ((a.take j).filter (fun v=> !decide (v∈b))).length (ints ((a.take j).filter (fun v=> !decide (v∈b))))]⟩) ?_ (a.length) _ ⟨0,.free,.free,by simp,by simp⟩
 intro k s ⟨j,o1,o2,hj,hs⟩
 subst hs
 by_cases hjn:j<a.length
 ·have hw:IntKind.i64.wrap ((j:Int)+1)=(j+1:Nat):=by rw[Ab (by omega) (by omega)];simp
  have hst:=KY (p:=fun v=> !decide (v∈b)) hjn
  have hln:=Om (p:=fun v=> !decide (v∈b)) (xs:=a) (j:=j)
  have hbd:(((a.take j).filter (fun v=> !decide (v∈b))).length+1)*8≤1099511627776:=by omega
  simp -implicitDefEqProofs [hjn]
  refine Aa (hH b _ (by unfold maxLen;omega)) ?_
  by_cases h1:a[j]∈b
  ·rw[if_neg (by simp[h1]),List.append_nil]at hst
   simp -implicitDefEqProofs [h1,hjn,hbd]
   exact⟨k-1,by omega,j+1,by omega,by simp[hw],by rw[hst],by rw[hst]⟩
  ·rw[if_pos (by simp[h1])]at hst
   simp -implicitDefEqProofs [h1,hjn,hbd]
   exact⟨k-1,by omega,j+1,by omega,by simp[hw],by rw[hst];simp,by rw[hst]⟩
 ·have hx:=Ma (p:=fun v=> !decide (v∈b)) (xs:=a) (j:=j) (by omega)
  simp -implicitDefEqProofs [hjn,hx]
theorem Aun (D:Dn) (hH:QA (D Bv)):VH (Body D Sk):=by
 intro a b ha hb
 have hres:leftOf a b=a.filter (fun v=> !decide (v∈b)):=rfl
 rw[hres]
 simp -implicitDefEqProofs
 refine Af (fun k s=>∃j v4 o1 o2,j+k=a.length∧s=⟨[.undef,.sl 1 1 b.length (ints b),.undef,.arr 3,v4,.sl 1 1 a.length (ints a),I a.length,I j,.undef,.undef],[.free,o1,o2,.arr 1 0 ((a.take j).filter (fun v=> !decide (v∈b))).length (ints ((a.take j).filter (fun v=> !decide (v∈b))))]⟩) ?_ (a.length) _ ⟨0,.undef,.free,.free,by simp,by simp⟩
 intro k s ⟨j,v4,o1,o2,hj,hs⟩
 subst hs
 by_cases hjn:j<a.length
 ·have hw:IntKind.i64.wrap ((j:Int)+1)=(j+1:Nat):=by rw[Ab (by omega) (by omega)];simp
  have hst:=KY (p:=fun v=> !decide (v∈b)) hjn
  have hln:=Om (p:=fun v=> !decide (v∈b)) (xs:=a) (j:=j)
  have hbd:(((a.take j).filter (fun v=> !decide (v∈b))).length+1)*8≤1099511627776:=by omega
  simp -implicitDefEqProofs [hjn]
  refine Aa (hH b _ (by unfold maxLen;omega)) ?_
  by_cases h1:a[j]∈b
  ·rw[if_neg (by simp[h1]),List.append_nil]at hst
   simp -implicitDefEqProofs [h1,hjn,hbd]
   exact⟨k-1,by omega,j+1,by omega,by simp[hw],by rw[hst],by rw[hst]⟩
  ·rw[if_pos (by simp[h1])]at hst
   simp -implicitDefEqProofs [h1,hjn,hbd]
   exact⟨k-1,by omega,j+1,by omega,by simp[hw],by rw[hst];simp,by rw[hst]⟩
 ·have hx:=Ma (p:=fun v=> !decide (v∈b)) (xs:=a) (j:=j) (by omega)
  simp -implicitDefEqProofs [hjn,hx]
def upTo (xs:List Int) (i:Nat):Bool:=decide (i=0)||decide (xs.getD (i-1) 0<xs.getD i 0)
def Ml (xs:List Int):Bool:=RO (upTo xs) xs.length&&allIn xs 0 255
abbrev Ab9 (R:Rel):Prop:=∀xs:List Int,xs.length≤maxLen→R [.sl 1 1 xs.length (ints xs)] [] (B (Ml xs)) []
theorem ArZ {xs:List Int} {j:Nat} (h:j<xs.length) (hn:¬InR xs[j] 0 255):Ml xs=false:=by unfold Ml;rw[Arf h hn];simp
theorem AeO {xs:List Int} {j:Nat} (h:j<xs.length) (hn:upTo xs j=false):Ml xs=false:=by unfold Ml;rw[Aq7 h hn];simp
theorem Am0 (xs:List Int):upTo xs 0=true:=by simp[upTo]
theorem Ahj {xs:List Int} {j:Nat} (h0:¬j=0) (h:j<xs.length) (h':j-1<xs.length):upTo xs j=decide (xs[j-1]<xs[j]):=by
 unfold upTo
 rw[Wn h,Wn h']
 simp[h0]
theorem Auq (D:Dn) (hN:II (D Jz)):Ab9 (Body D Sl):=by
 intro xs hl
 have hl0:=hl
 unfold maxLen at hl
 simp -implicitDefEqProofs
 refine Af (fun k s=>∃j,j+k=xs.length∧RO (upTo xs) j=true∧s=⟨[.sl 1 1 xs.length (ints xs),.undef,.undef,.undef,.sl 1 1 xs.length (ints xs),I xs.length,I j,.undef,.undef],[]⟩) ?_ (xs.length) _ ⟨0,by simp,by simp,by simp⟩
 intro k s ⟨j,hj,hr,hs⟩
 subst hs
 by_cases hjn:j<xs.length
 ·have hw:IntKind.i64.wrap ((j:Int)+1)=(j+1:Nat):=by rw[Ab (by omega) (by omega)];simp
  have hst:=Nh (upTo xs) j
  rw[hr,Bool.true_and]at hst
  by_cases h0:j=0
  ·subst h0
   simp -implicitDefEqProofs [hjn]
   exact⟨k-1,by omega,1,by omega,by rw[hst,Am0],by simpa using hw⟩
  ·have hw2:IntKind.i64.wrap ((j:Int)-1)=((j-1:Nat):Int):=by rw[Ab (by omega) (by omega)];omega
   have h2:(0:Int)<j:=by omega
   have h2':0<j:=by omega
   have h3:j-1<xs.length:=by omega
   rw[Ahj h0 hjn h3]at hst
   by_cases h4:xs[j-1]<xs[j]
   ·have h4':¬xs[j]≤xs[j-1]:=by omega
    simp -implicitDefEqProofs [h2,h2',hw2,h3,hjn,h4']
    exact⟨k-1,by omega,j+1,by omega,by rw[hst];simp[h4],by simp[hw]⟩
   ·have e:=AeO hjn (by rw[Ahj h0 hjn h3];simp[h4])
    have h4':xs[j]≤xs[j-1]:=by omega
    simp -implicitDefEqProofs [h2,h2',hw2,h3,hjn,h4',e]
 ·obtain rfl:j=xs.length:=by omega
  have e:Ml xs=allIn xs 0 255:=by unfold Ml;rw[hr];rfl
  simp -implicitDefEqProofs
  refine Aa (hN xs _ _ hl0) ?_
  simp -implicitDefEqProofs [e]
def Bj (e:AQ):Bool:=Bq e.versions&&(decide (e.tags.length≤5)&&(Ml e.tags&&(!e.tags.any AO&&(decide (e.path.length≤4)&&(e.path.all Ib&&decide (InR e.cls 0 5))))))
abbrev FV (R:Rel):Prop:=∀e:AQ,Hz e→R [arg (Ah e)] [] (B (Bj e)) []
theorem AlS (D:Dn) (hI:Uk (D Dk)) (hR:Ff (D M6)) (hX:RZ (D AeX)) (hA:CB (D Gz)):FV (Body D Nj):=by
 intro e hl
 obtain⟨hl1,hl2,hl3⟩:=hl
 have hl4:=hl3.1
 have hl2':=hl2
 unfold IX at hl2
 unfold maxLen at hl2 hl4
 simp -implicitDefEqProofs
 refine Af (fun k s=>∃j,j+k=e.tags.length∧allIn (e.tags.take j) 0 255=true∧RO (upTo e.tags) j=true∧(e.tags.take j).any AO=false∧s=⟨[.undef,.ptr 0 0,.undef,I j,.undef,.undef,.undef,.undef,.undef],[.var ((Ah e).map (Bc 1))]⟩) ?_ (e.tags.length) _ ⟨0,by simp,by simp[allIn],by simp,by simp,by simp⟩
 intro k s ⟨j,hj,hp,hr,hq,hs⟩
 subst hs
 by_cases hjn:j<e.tags.length
 ·have hw:IntKind.i64.wrap ((j:Int)+1)=(j+1:Nat):=by rw[Ab (by omega) (by omega)];simp
  have hst:=Nh (upTo e.tags) j
  rw[hr,Bool.true_and]at hst
  have hsq:=Aju (p:=AO) hjn
  rw[hq,Bool.false_or]at hsq
  simp -implicitDefEqProofs [hjn]
  refine Aa (hI _ _ _) ?_
  by_cases h1:InR e.tags[j] 0 255
  rotate_left
  ·have e0:Bj e=false:=by unfold Bj;rw[ArZ hjn h1];simp
   simp -implicitDefEqProofs [h1,e0]
  simp -implicitDefEqProofs [h1,hjn]
  refine Aa (hR _) ?_
  by_cases h5:AO e.tags[j]=true
  ·have e0:Bj e=false:=by unfold Bj;rw[Ws hjn h5];simp
   simp -implicitDefEqProofs [h5,e0]
  have h5':AO e.tags[j]=false:=by simpa using h5
  by_cases h0:j=0
  ·subst h0
   simp -implicitDefEqProofs [h1,h5']
   exact⟨k-1,by omega,1,by omega,by rw[ZF hjn,hp];simp[h1],by rw[hst,Am0],by simpa using hsq.trans h5',by simpa using hw⟩
  ·have hw2:IntKind.i64.wrap ((j:Int)-1)=((j-1:Nat):Int):=by rw[Ab (by omega) (by omega)];omega
   have h2:(0:Int)<j:=by omega
   have h2':0<j:=by omega
   have h3:j-1<e.tags.length:=by omega
   rw[Ahj h0 hjn h3]at hst
   by_cases h4:e.tags[j-1]<e.tags[j]
   ·have h4':¬e.tags[j]≤e.tags[j-1]:=by omega
    simp -implicitDefEqProofs [h1,h5',h2,h2',hw2,h3,hjn,h4']
    exact⟨k-1,by omega,j+1,by omega,by rw[ZF hjn,hp];simp[h1],by rw[hst];simp[h4],by simpa using hsq.trans h5',by simp[hw]⟩
   ·have e0:Bj e=false:=by unfold Bj;rw[AeO hjn (by rw[Ahj h0 hjn h3];simp[h4])];simp
    have h4':e.tags[j]≤e.tags[j-1]:=by omega
    simp -implicitDefEqProofs [h1,h5',h2,h2',hw2,h3,hjn,h4',e0]
 obtain rfl:j=e.tags.length:=by omega
 have et:Ml e.tags=true:=by unfold Ml;rw[hr,AmZ (by omega) hp];rfl
 have er:e.tags.any AO=false:=any_none (by omega) hq
 simp -implicitDefEqProofs
 refine Af (fun k s=>∃j,j+k=e.path.length∧(e.path.take j).all Ib=true∧s=⟨[.undef,.ptr 0 0,.undef,.undef,I j,.undef,.undef,.undef,.undef],[.var ((Ah e).map (Bc 1))]⟩) ?_ (e.path.length) _ ⟨0,by simp,by simp,by simp⟩
 intro k s ⟨j,hj,hb,hs⟩
 subst hs
 by_cases hjn:j<e.path.length
 ·have hw:IntKind.i64.wrap ((j:Int)+1)=(j+1:Nat):=by rw[Ab (by omega) (by omega)];simp
  have hst:=Aj5 (p:=Ib) hjn
  rw[hb,Bool.true_and]at hst
  simp -implicitDefEqProofs [hjn]
  refine Aa (hX _ (hl3.2 j hjn)) ?_
  by_cases h1:Ib e.path[j]=true
  ·simp -implicitDefEqProofs [h1]
   exact⟨k-1,by omega,j+1,by omega,by simpa using hst.trans h1,by simp[hw]⟩
  ·have e0:Bj e=false:=by unfold Bj;rw[AaX hjn (by simpa using h1)];simp
   simp -implicitDefEqProofs [h1,e0]
 have eb:e.path.all Ib=true:=by rw[←An6 (j:=j) (by omega),hb]
 simp -implicitDefEqProofs [hjn]
 refine Aa (hA _ hl1) ?_
 by_cases g1:Bq e.versions=true
 rotate_left
 ·simp -implicitDefEqProofs [g1,Bj]
 by_cases g2:e.tags.length≤5
 rotate_left
 ·have g2':¬(e.tags.length:Int)≤5:=by omega
  simp -implicitDefEqProofs [g1,g2,g2',Bj]
 have g2':(e.tags.length:Int)≤5:=by omega
 by_cases g3:e.path.length≤4
 rotate_left
 ·have g3':¬(e.path.length:Int)≤4:=by omega
  simp -implicitDefEqProofs [g1,g2,g2',g3,g3',Bj]
 have g3':(e.path.length:Int)≤4:=by omega
 simp -implicitDefEqProofs [g1,g2',g3']
 refine Aa (hI _ _ _) ?_
 have ee:Bj e=decide (InR e.cls 0 5):=by unfold Bj;rw[et,er,eb];simp[g1,g2,g3]
 simp -implicitDefEqProofs [ee]
abbrev Qc (R:Rel):Prop:=∀b:FI,Ih b→R [arg (Cn b)] [] (B (!Ib b)) []
theorem AlC (D:Dn) (hX:RZ (D Ae3)):Qc (Body D KI):=by
 intro b hb
 simp -implicitDefEqProofs
 refine Aa (hX b hb) ?_
 simp -implicitDefEqProofs
theorem AuG {α:Type} (p:α→Bool) (xs:List α):(xs.any fun x=> !p x)= !xs.all p:=by rw[List.all_eq_not_any_not];simp
theorem AlR (D:Dn) (hA:CB (D Gt)) (hT:Ab9 (D Alu)) (hH:Ou (D Tt)) (h1:Qc (D QD)) (hC:Jw D (D H7)) (hI:Uk (D Cj)):FV (Body D Ni):=by
 intro e hl
 obtain⟨hl1,hl2,hl3⟩:=hl
 simp -implicitDefEqProofs
 refine Aa (hA _ hl1) ?_
 by_cases g1:Bq e.versions=true
 rotate_left
 ·simp -implicitDefEqProofs [g1,Bj]
 by_cases g2:e.tags.length≤5
 rotate_left
 ·have g2':¬(e.tags.length:Int)≤5:=by omega
  simp -implicitDefEqProofs [g1,g2,g2',Bj]
 have g2':(e.tags.length:Int)≤5:=by omega
 simp -implicitDefEqProofs [g1,g2']
 refine Aa (hT _ hl2) ?_
 by_cases g4:Ml e.tags=true
 rotate_left
 ·simp -implicitDefEqProofs [g4,Bj]
 simp -implicitDefEqProofs [g4]
 refine Aa (hH _ hl2) ?_
 by_cases g5:e.tags.any AO=true
 ·have e0:Bj e=false:=by unfold Bj;rw[g5];simp
  generalize e.tags.any AO=q at g5
  subst g5
  simp -implicitDefEqProofs [e0]
 have g5':e.tags.any AO=false:=by simpa using g5
 have ee:Bj e=(decide (e.path.length≤4)&&(e.path.all Ib&&decide (InR e.cls 0 5))):=by unfold Bj;rw[g5',g1,g4];simp[g2]
 rw[ee]
 generalize e.tags.any AO=q at g5'
 subst g5'
 by_cases g3:e.path.length≤4
 rotate_left
 ·have g3':¬(e.path.length:Int)≤4:=by omega
  simp -implicitDefEqProofs [g3,g3']
 have g3':(e.path.length:Int)≤4:=by omega
 simp -implicitDefEqProofs [g3,g3']
 refine Aa (hC e.path QD [] (fun b=> !Ib b) hl3.1 Gp (fun j hj=>h1 e.path[j] (hl3.2 j hj))) ?_
 rw[AuG]
 generalize e.path.all Ib=q
 by_cases g6:q=true
 rotate_left
 ·simp -implicitDefEqProofs [g6]
 simp -implicitDefEqProofs [g6]
 refine Aa (hI _ _ _) ?_
 simp -implicitDefEqProofs
theorem AEY {b:FI} (h:BP b≤4194304):Ih b:=by
 unfold BP at h
 exact⟨by unfold IX maxLen;omega,by unfold IX maxLen;omega⟩
theorem ACl {p:List FI} (h:BB BP p≤4194304):lnS Ih p:=
 ⟨by have:=Gb (f:=BP) (xs:=p);unfold maxLen;omega,fun j hj=>AEY (by have:=size_at (f:=BP) hj;omega)⟩
theorem Aoo {e:AQ} (h:Ae e≤4194304):Hz e:=by
 unfold Ae at h
 exact⟨by unfold IX maxLen;omega,by unfold IX maxLen;omega,ACl (by omega)⟩
theorem AmB {w:World} (h:AY w≤4194304) {n:Nat} (hn:n<w.ends.length):Ae w.ends[n]≤4194304:=by
 have:=size_at (f:=Ae) hn
 have:=(TT h).2.2.1
 omega
theorem AdN {e:AQ} (h:Ae e≤4194304):e.versions.length≤4194304:=by unfold Ae at h;omega
theorem Ap0 (path:List FI) (vs:List Int):(Bt path vs).length≤vs.length:=by
 unfold Bt
 split
 ·exact List.length_filter_le _ _
 ·simp
end Go.Eng.T
namespace Go.Eng.T
set_option maxRecDepth 20000
set_option maxHeartbeats 2000000
abbrev LY (D:Dn) (R:Rel):Prop:=∀(xs:List (List Int)) (g:Nat) (caps:List V) (p:List Int→Bool),xs.length≤maxLen→MR caps→(∀(j:Nat) (h:j<xs.length),D g (.sl 1 1 xs[j].length (ints xs[j])::caps) [] (B (p xs[j])) [])→R [Lc xs,.fn g caps] [] (I (G8 p xs 0)) []
theorem Afq (D:Dn):LY D (Body D EI):=by
 intro xs g caps p hl hc hp
 unfold maxLen at hl
 simp -implicitDefEqProofs
 refine Af (fun k s=>∃j,j+k=xs.length∧G8 p xs 0=G8 p (xs.drop j) j∧s=⟨[Lc xs,.fn g caps,.undef,.undef,I xs.length,I j,.undef,.undef],[]⟩) ?_ (xs.length) _ ⟨0,by simp,by simp,by simp⟩
 intro k s ⟨j,hj,hi,hs⟩
 subst hs
 by_cases hjn:j<xs.length
 ·have hw:IntKind.i64.wrap ((j:Int)+1)=(j+1:Nat):=by rw[Ab (by omega) (by omega)];simp
  rw[T9 hjn]at hi
  simp -implicitDefEqProofs [hjn,hc.1,hc.2.1]
  refine Aa (hp j hjn) ?_
  by_cases he:p xs[j]=true
  ·rw[if_pos he]at hi
   simp -implicitDefEqProofs [he,hi]
  ·rw[if_neg he]at hi
   simp -implicitDefEqProofs [he]
   exact⟨k-1,by omega,j+1,by omega,by simpa using hi,by simp[hw]⟩
 ·rw[WJ (by omega)]at hi
  simp -implicitDefEqProofs [hjn,hi]
abbrev IB (D:Dn) (R:Rel):Prop:=∀(xs:List (List Int)) (g:Nat) (caps:List V) (p:List Int→Bool),xs.length≤maxLen→MR caps→(∀(j:Nat) (h:j<xs.length),D g (.sl 1 1 xs[j].length (ints xs[j])::caps) [] (B (p xs[j])) [])→R [Lc xs,.fn g caps] [] (B (xs.any p)) []
theorem ZM (D:Dn) (hI:LY D (D LD)):IB D (Body D Ef):=by
 intro xs g caps p hl hc hp
 simp -implicitDefEqProofs [hc.2.2]
 refine Aa (hI xs g caps p hl hc hp) ?_
 have e:decide (0≤G8 p xs 0)=xs.any p:=by rw[Bool.eq_iff_iff];simp only[decide_eq_true_eq];rw[Vt (by omega)]
 simp -implicitDefEqProofs [e]
def TJ (k:Int):Bool:=decide (InR k 1 2147483646)
abbrev K9 (R:Rel):Prop:=∀k:Int,R [I k] [] (B (TJ k)) []
theorem ArG (D:Dn) (hI:Uk (D Dk)):K9 (Body D M8):=by
 intro k
 simp -implicitDefEqProofs
 refine Aa (hI _ _ _) ?_
 simp -implicitDefEqProofs [TJ]
theorem AqU (D:Dn) (hI:Uk (D Cj)):K9 (Body D MX):=by
 intro k
 simp -implicitDefEqProofs
 refine Aa (hI _ _ _) ?_
 simp -implicitDefEqProofs [TJ]
end Go.Eng.T
namespace Go.Eng.T
set_option maxRecDepth 20000
set_option maxHeartbeats 1000000
def JJ:List Int→Int→Nat
 | [],_=>0
 | x::r,v=>if x<v then JJ r v+1 else 0
theorem AuA:∀(l:List Int) (v:Int),JJ l v≤l.length
 | [],_=>Nat.le_refl 0
 | x::r,v=>by
  have:=AuA r v
  simp only[JJ,List.length_cons]
  split<;>omega
theorem AwZ {l:List Int} {v:Int} {j:Nat} (h:j<l.length) (hv:¬l[j]<v):JJ (l.drop j) v=0:=by
 rw[List.drop_eq_getElem_cons h]
 simp only[JJ,if_neg hv]
def AzP (l:List Int) (i:Nat) (v:Int):List Int:=l.take i++v::l.drop i
theorem AyZ {l:List Int} {i:Nat} {v:Int} (h:i≤l.length):(AzP l i v).length=l.length+1:=by simp[AzP];omega
def Ak0 (l:List Int) (v:Int):List Int:=if l[JJ l v]? =some v then l else AzP l (JJ l v) v
theorem AzZ (l:List Int) (v:Int):(Ak0 l v).length≤l.length+1:=by
 unfold Ak0
 split
 ·omega
 ·rw[AyZ (AuA l v)];omega
end Go.Eng.T
namespace Go.Eng.T
set_option maxRecDepth 20000
set_option maxHeartbeats 1000000
def AFG {α:Type} (f:α→α) (xs:List α) (j:Nat):List α:=(xs.take j).map f++xs.drop j
section
variable {α:Type} {f:α→α} {xs:List α} {j:Nat}
@[simp] theorem AFL (h:j≤xs.length):(AFG f xs j).length=xs.length:=by simp[AFG];omega
end
end Go.Eng.T
namespace Go.Eng.T
end Go.Eng.T
namespace Go.Eng.T
set_option maxRecDepth 20000
set_option maxHeartbeats 2000000
def ADG {α:Type} (f:Nat→α→α) (xs:List α) (j:Nat):List α:=xs.mapIdx fun i x=>if i<j then f i x else x
section
variable {α:Type} {f:Nat→α→α} {xs:List α} {j:Nat}
@[simp] theorem AFo:(ADG f xs j).length=xs.length:=by simp[ADG]
end
def AAQ (w:World) (i:Nat) (e:AQ):AQ:=if isIn w.rollout i w.ends.length=true then⟨Ak0 e.versions w.rollout.version,e.tags,e.path,e.cls⟩else e
def AAq (w:World):Bool:=Ct w.rollout&& !w.rollout.off
def enter (w:World):World:=if AAq w=true then {w with ends:=w.ends.mapIdx (AAQ w),stage:=[],reached:=max w.reached (w.rollout.pos+1)}else w
abbrev AuR (R:Rel):Prop:=∀a b:Int,R [I a,I b] [] (I (max a b)) []
abbrev AuV (R:Rel):Prop:=∀a b:Int,R [I a,I b] [] (I (min a b)) []
theorem AEr (D:Dn):AuR (Body D AdW):=by
 intro a b
 by_cases h:a<b
 ·have e:max a b=b:=by omega
  simp -implicitDefEqProofs [h,e]
 ·have e:max a b=a:=by omega
  simp -implicitDefEqProofs [h,e]
theorem AEt (D:Dn):AuV (Body D Aei):=by
 intro a b
 by_cases h:a<b
 ·have e:min a b=a:=by omega
  simp -implicitDefEqProofs [h,e]
  intro;omega
 ·have e:min a b=b:=by omega
  simp -implicitDefEqProofs [h,e]
  intro;omega
end Go.Eng.T
namespace Go.Eng.T
set_option maxRecDepth 20000
set_option maxHeartbeats 1000000
def TN (p q:Int):Int:=if Rp q 1 1000000000000 then(p.tmod q+q).tmod q else 0
abbrev Amm (R:Rel):Prop:=∀p q:Int,R [I p,I q] [] (I (TN p q)) []
theorem Ape (p:Int) {q:Int} (h:1≤q):-q<p.tmod q∧p.tmod q<q:=by
 have h1:=Int.tmod_lt_of_pos p (show 0<q by omega)
 have h2:=Int.lt_tmod_of_pos p (show 0<q by omega)
 omega
theorem AD1 (D:Dn) (hI:Uk (D Dk)):Amm (Body D Adm):=by
 intro p q
 simp -implicitDefEqProofs
 refine Aa (hI _ _ _) ?_
 by_cases h:Rp q 1 1000000000000
 rotate_left
 ·simp -implicitDefEqProofs [h,TN]
 have h0:¬q=0:=by omega
 have hb:=Ape p (q:=q) (by omega)
 have hw:IntKind.i64.wrap (p.tmod q+q)=p.tmod q+q:=Ab (by omega) (by omega)
 have e:TN p q=(p.tmod q+q).tmod q:=by unfold TN;rw[if_pos h]
 simp -implicitDefEqProofs [h,h0,hw,e]
theorem AEq (D:Dn) (hI:Uk (D Cj)):Amm (Body D AdL):=by
 intro p q
 simp -implicitDefEqProofs
 refine Aa (hI _ _ _) ?_
 by_cases h:Rp q 1 1000000000000
 rotate_left
 ·simp -implicitDefEqProofs [h,TN]
 have h0:¬q=0:=by omega
 have hb:=Ape p (q:=q) (by omega)
 have hw:IntKind.i64.wrap (p.tmod q+q)=p.tmod q+q:=Ab (by omega) (by omega)
 have e:TN p q=(p.tmod q+q).tmod q:=by unfold TN;rw[if_pos h]
 simp -implicitDefEqProofs [h,h0,hw,e]
theorem Ahe (p:Int) {q:Int} (h:Rp q 1 1000000000000):0≤TN p q∧TN p q<q:=by
 unfold TN
 rw[if_pos h]
 have hb:=Ape p (q:=q) (by omega)
 have h1:=Int.tmod_nonneg q (show 0≤p.tmod q+q by omega)
 have h2:=Int.tmod_lt_of_pos (p.tmod q+q) (show 0<q by omega)
 exact⟨h1,h2⟩
def Pd (s v:Int):Int:=(s*1000003+TN v 2147483647+13).tmod 2147483647
def hash (xs:List Int):Int:=xs.foldl Pd 11
abbrev VG (R:Rel):Prop:=∀xs:List Int,xs.length≤maxLen→R [.sl 1 1 xs.length (ints xs)] [] (I (hash xs)) []
theorem AxB {s v:Int} (h:0≤s):0≤Pd s v∧Pd s v<2147483647:=by
 have hm:=Ahe v (q:=2147483647) ⟨by omega,by omega⟩
 unfold Pd
 exact⟨Int.tmod_nonneg _ (by omega),Int.tmod_lt_of_pos _ (by omega)⟩
theorem Ann {α:Type} {f:α→Int→α} {xs:List Int} {j:Nat} {a:α} (h:j<xs.length):(xs.take (j+1)).foldl f a=f ((xs.take j).foldl f a) xs[j]:=by
 have e:xs.take (j+1)=xs.take j++ [xs[j]]:=by simp
 rw[e,List.foldl_append];rfl
theorem Aob:∀(xs:List Int) {a:Int},0≤a→a<2147483647→0≤xs.foldl Pd a∧xs.foldl Pd a<2147483647
 | [],a,h1,h2=>⟨h1,h2⟩
 | x::xs,a,h1,h2=>by
  have:=AxB (s:=a) (v:=x) h1
  exact Aob xs this.1 this.2
theorem ACo (D:Dn) (hM:Amm (D Am4)):VG (Body D ZR):=by
 intro xs hl
 unfold maxLen at hl
 simp -implicitDefEqProofs
 refine Af (fun k s=>∃j,j+k=xs.length∧s=⟨[.sl 1 1 xs.length (ints xs),.undef,I ((xs.take j).foldl Pd 11),I j,.undef],[]⟩) ?_ (xs.length) _ ⟨0,by simp,by simp⟩
 intro k s ⟨j,hj,hs⟩
 subst hs
 by_cases hjn:j<xs.length
 ·have hw:IntKind.i64.wrap ((j:Int)+1)=(j+1:Nat):=by rw[Ab (by omega) (by omega)];simp
  have hst:=Ann (f:=Pd) (a:=(11:Int)) hjn
  have hb:=Aob (xs.take j) (a:=11) (by omega) (by omega)
  generalize(xs.take j).foldl Pd 11=s at hst hb
  have hm:=Ahe xs[j] (q:=2147483647) ⟨by omega,by omega⟩
  have w1:IntKind.i64.wrap (s*1000003)=s*1000003:=Ab (by omega) (by omega)
  have w2:IntKind.i64.wrap (s*1000003+TN xs[j] 2147483647)=s*1000003+TN xs[j] 2147483647:=Ab (by omega) (by omega)
  have w3:IntKind.i64.wrap (s*1000003+TN xs[j] 2147483647+13)=s*1000003+TN xs[j] 2147483647+13:=Ab (by omega) (by omega)
  simp -implicitDefEqProofs [hjn,w1]
  refine Aa (hM _ _) ?_
  simp -implicitDefEqProofs [w1,w2,w3]
  exact⟨k-1,by omega,j+1,by omega,by rw[hst];rfl,by simp[hw]⟩
 ·have e:xs.take j=xs:=List.take_of_length_le (by omega)
  simp -implicitDefEqProofs [hjn,e,hash]
theorem AB2 (D:Dn) (hM:Amm (D Ana)):VG (Body D Zc):=by
 intro xs hl
 unfold maxLen at hl
 simp -implicitDefEqProofs
 refine Af (fun k s=>∃j,j+k=xs.length∧s=⟨[.undef,.undef,I ((xs.take j).foldl Pd 11),.undef,.sl 1 1 xs.length (ints xs),I xs.length,I j,.undef],[]⟩) ?_ (xs.length) _ ⟨0,by simp,by simp⟩
 intro k s ⟨j,hj,hs⟩
 subst hs
 by_cases hjn:j<xs.length
 ·have hw:IntKind.i64.wrap ((j:Int)+1)=(j+1:Nat):=by rw[Ab (by omega) (by omega)];simp
  have hst:=Ann (f:=Pd) (a:=(11:Int)) hjn
  have hb:=Aob (xs.take j) (a:=11) (by omega) (by omega)
  generalize(xs.take j).foldl Pd 11=s at hst hb
  have hm:=Ahe xs[j] (q:=2147483647) ⟨by omega,by omega⟩
  have w1:IntKind.i64.wrap (s*1000003)=s*1000003:=Ab (by omega) (by omega)
  have w2:IntKind.i64.wrap (s*1000003+TN xs[j] 2147483647)=s*1000003+TN xs[j] 2147483647:=Ab (by omega) (by omega)
  have w3:IntKind.i64.wrap (s*1000003+TN xs[j] 2147483647+13)=s*1000003+TN xs[j] 2147483647+13:=Ab (by omega) (by omega)
  simp -implicitDefEqProofs [hjn,w1]
  refine Aa (hM _ _) ?_
  simp -implicitDefEqProofs [w1,w2,w3]
  exact⟨k-1,by omega,j+1,by omega,by rw[hst];rfl,by simp[hw]⟩
 ·have e:xs.take j=xs:=List.take_of_length_le (by omega)
  simp -implicitDefEqProofs [hjn,e,hash]
def keyed (k:Int) (xs:List Int):Int:=hash (k::xs++ [k])
abbrev Xp (R:Rel):Prop:=∀(k:Int) (xs:List Int),xs.length≤4194304→R [I k,.sl 1 1 xs.length (ints xs)] [] (I (keyed k xs)) []
theorem Np (a:Int) (xs:List Int):V.sc (.int .i64 a)::ints xs=ints (a::xs):=rfl
theorem AAH (D:Dn) (hH:VG (D ZT)):Xp (Body D Pb):=by
 intro k xs hl
 have b1:(1+xs.length)*8≤1099511627776:=by omega
 have b2:(1+xs.length+1)*8≤1099511627776:=by omega
 have hlen:(k::xs++ [k]).length=1+xs.length+1:=by simp;omega
 simp -implicitDefEqProofs [b1,b2]
 have hh:=hH (k::xs++ [k]) (by unfold maxLen;omega)
 rw[hlen]at hh
 simp -implicitDefEqProofs [Np]at hh
 simp -implicitDefEqProofs [Np]
 refine Aa (hh) ?_
 simp -implicitDefEqProofs [keyed]
def pick (seed p n:Int):Int:=if n<1 then 0 else TN (hash [seed,p]) n
abbrev Yz (R:Rel):Prop:=∀seed p n:Int,R [I seed,I p,I n] [] (I (pick seed p n)) []
theorem ABW (D:Dn) (hH:VG (D ZT)) (hM:Amm (D Am4)):Yz (Body D U0):=by
 intro seed p n
 by_cases h:n<1
 ·simp -implicitDefEqProofs [h,pick]
 simp -implicitDefEqProofs [h]
 refine Aa (hH [seed,p] (by unfold maxLen;simp)) ?_
 simp -implicitDefEqProofs
 refine Aa (hM _ _) ?_
 simp -implicitDefEqProofs [pick,h]
theorem AC4 (D:Dn) (hH:VG (D ZB)) (hM:Amm (D Ana)):Yz (Body D U6):=by
 intro seed p n
 by_cases h:n<1
 ·simp -implicitDefEqProofs [h,pick]
 simp -implicitDefEqProofs [h]
 refine Aa (hH [seed,p] (by unfold maxLen;simp)) ?_
 simp -implicitDefEqProofs
 refine Aa (hM _ _) ?_
 simp -implicitDefEqProofs [pick,h]
theorem RD (seed p:Int) {n:Int} (h:Rp n 1 1000000000000):0≤pick seed p n∧pick seed p n<n:=by
 unfold pick
 rw[if_neg (by omega)]
 exact Ahe _ h
def NG (seed:Int):Int:=16*pick seed 0 16+10
abbrev Jo (R:Rel):Prop:=∀seed:Int,R [I seed] [] (I (NG seed)) []
theorem Apc (D:Dn) (hP:Yz (D Abl)):Jo (Body D O0):=by
 intro seed
 simp -implicitDefEqProofs
 refine Aa (hP _ _ _) ?_
 have hb:=RD seed 0 (n:=16) ⟨by omega,by omega⟩
 have w1:IntKind.i64.wrap (16*pick seed 0 16)=16*pick seed 0 16:=Ab (by omega) (by omega)
 have w2:IntKind.i64.wrap (16*pick seed 0 16+10)=16*pick seed 0 16+10:=Ab (by omega) (by omega)
 simp -implicitDefEqProofs [w1,w2,NG]
theorem AoS (D:Dn) (hP:Yz (D AaP)):Jo (Body D Po):=by
 intro seed
 simp -implicitDefEqProofs
 refine Aa (hP _ _ _) ?_
 have hb:=RD seed 0 (n:=16) ⟨by omega,by omega⟩
 have w1:IntKind.i64.wrap (16*pick seed 0 16)=16*pick seed 0 16:=Ab (by omega) (by omega)
 have w2:IntKind.i64.wrap (16*pick seed 0 16+10)=16*pick seed 0 16+10:=Ab (by omega) (by omega)
 simp -implicitDefEqProofs [w1,w2,NG]
def Jt (ls:List (List Int)):Bool:=decide (ls.length≤12)&&ls.all fun l=>allIn l 0 255
abbrev J5 (R:Rel):Prop:=∀ls:List (List Int),Lu ls≤4194304→R [Lc ls] [] (B (Jt ls)) []
theorem Atb (D:Dn) (hB:XB (D UI)):J5 (Body D KM):=by
 intro ls hl
 have hll:=V7 (xs:=ls)
 simp -implicitDefEqProofs
 refine Af (fun k s=>∃j,j+k=ls.length∧(ls.take j).all (fun l=>allIn l 0 255)=true∧s=⟨[Lc ls,.undef,I j,.undef,.undef],[]⟩) ?_ (ls.length) _ ⟨0,by simp,by simp,by simp⟩
 intro k s ⟨j,hj,hp,hs⟩
 subst hs
 by_cases hjn:j<ls.length
 ·have hw:IntKind.i64.wrap ((j:Int)+1)=(j+1:Nat):=by rw[Ab (by omega) (by omega)];simp
  have hst:=Aj5 (p:=fun l=>allIn l 0 255) hjn
  rw[hp,Bool.true_and]at hst
  have hra:=Aho hjn
  simp -implicitDefEqProofs [hjn]
  refine Aa (hB _ (by unfold maxLen;omega)) ?_
  by_cases h1:allIn ls[j] 0 255=true
  ·simp -implicitDefEqProofs [h1]
   exact⟨k-1,by omega,j+1,by omega,by simpa using hst.trans h1,by simp[hw]⟩
  ·have e:Jt ls=false:=by unfold Jt;rw[AaX hjn (by simpa using h1)];simp
   simp -implicitDefEqProofs [h1,e]
 ·have e:Jt ls=decide (ls.length≤12):=by unfold Jt;rw[←An6 (j:=j) (by omega),hp];simp
  by_cases h5:ls.length≤12
  ·have h5':(ls.length:Int)≤12:=by omega
   simp -implicitDefEqProofs [hjn,e,h5,h5']
  ·have h5':¬(ls.length:Int)≤12:=by omega
   simp -implicitDefEqProofs [hjn,e,h5,h5']
abbrev XF (R:Rel):Prop:=∀l:List Int,l.length≤maxLen→R [.sl 1 1 l.length (ints l)] [] (B (!allIn l 0 255)) []
theorem Atl (D:Dn) (hN:II (D Jz)):XF (Body D Jm):=by
 intro l hl
 simp -implicitDefEqProofs
 refine Aa (hN _ _ _ hl) ?_
 simp -implicitDefEqProofs
theorem Auj (D:Dn) (h1':XF (D Ob)) (hC:IB D (D Kj)):J5 (Body D KA):=by
 intro ls hl
 have hll:=V7 (xs:=ls)
 by_cases h5:ls.length≤12
 rotate_left
 ·have h5':¬(ls.length:Int)≤12:=by omega
  simp -implicitDefEqProofs [h5',h5,Jt]
 have h5':(ls.length:Int)≤12:=by omega
 simp -implicitDefEqProofs [h5']
 refine Aa (hC ls Ob [] (fun l=> !allIn l 0 255) (by unfold maxLen;omega) Gp (fun j hj=>h1' ls[j] (by have:=Aho hj;unfold maxLen;omega))) ?_
 rw[AuG]
 generalize hq:(ls.all fun l=>allIn l 0 255)=q
 simp -implicitDefEqProofs [Jt,h5,hq]
def PN (x:Int) (b:List Int):Int:=hash (x::(b.length:Int)::b)
def Ip (ls:List (List Int)):Int:=if Jt ls=true then ls.foldl PN 1 else 0
abbrev I5 (R:Rel):Prop:=∀ls:List (List Int),Lu ls≤4194304→R [Lc ls] [] (I (Ip ls)) []
theorem Ais {α β:Type} {f:α→β→α} {xs:List β} {j:Nat} {a:α} (h:j<xs.length):(xs.take (j+1)).foldl f a=f ((xs.take j).foldl f a) xs[j]:=by
 have e:xs.take (j+1)=xs.take j++ [xs[j]]:=by simp
 rw[e,List.foldl_append];rfl
theorem AnA (D:Dn) (hT:J5 (D Qx)) (hH:VG (D ZT)):I5 (Body D Jh):=by
 intro ls hl
 have hll:=V7 (xs:=ls)
 simp -implicitDefEqProofs
 refine Aa (hT ls hl) ?_
 by_cases h1:Jt ls=true
 rotate_left
 ·simp -implicitDefEqProofs [h1,Ip]
 simp -implicitDefEqProofs [h1]
 refine Af (fun k s=>∃j o0 o1,j+k=ls.length∧s=⟨[Lc ls,.undef,I ((ls.take j).foldl PN 1),I j,.undef,.undef],[o0,o1]⟩) ?_ (ls.length) _ ⟨0,.free,.free,by simp,by simp⟩
 intro k s ⟨j,o0,o1,hj,hs⟩
 subst hs
 by_cases hjn:j<ls.length
 ·have hw:IntKind.i64.wrap ((j:Int)+1)=(j+1:Nat):=by rw[Ab (by omega) (by omega)];simp
  have hst:=Ais (f:=PN) (a:=(1:Int)) hjn
  have hra:=Aho hjn
  have b1:(2+ls[j].length)*8≤1099511627776:=by omega
  generalize(ls.take j).foldl PN 1=x at hst
  have hh:=hH (x::(ls[j].length:Int)::ls[j]) (by unfold maxLen;simp;omega)
  have hlen:(x::(ls[j].length:Int)::ls[j]).length=2+ls[j].length:=by simp;omega
  rw[hlen]at hh
  simp only[←Np]at hh
  simp -implicitDefEqProofs [hjn,b1]
  refine Aa (hh) ?_
  simp -implicitDefEqProofs
  exact⟨k-1,by omega,j+1,by omega,by rw[hst];rfl,by simp[hw]⟩
 ·have e:ls.take j=ls:=List.take_of_length_le (by omega)
  have e2:Ip ls=ls.foldl PN 1:=by unfold Ip;rw[if_pos h1]
  simp -implicitDefEqProofs [hjn,e,e2]
theorem Ao8 (D:Dn) (hT:J5 (D QN)) (hH:VG (D ZB)):I5 (Body D I7):=by
 intro ls hl
 have hll:=V7 (xs:=ls)
 simp -implicitDefEqProofs
 refine Aa (hT ls hl) ?_
 by_cases h1:Jt ls=true
 rotate_left
 ·simp -implicitDefEqProofs [h1,Ip]
 simp -implicitDefEqProofs [h1]
 refine Af (fun k s=>∃j o0 o1,j+k=ls.length∧s=⟨[.undef,.undef,I ((ls.take j).foldl PN 1),.undef,.undef,Lc ls,I ls.length,I j,.undef],[o0,o1]⟩) ?_ (ls.length) _ ⟨0,.free,.free,by simp,by simp⟩
 intro k s ⟨j,o0,o1,hj,hs⟩
 subst hs
 by_cases hjn:j<ls.length
 ·have hw:IntKind.i64.wrap ((j:Int)+1)=(j+1:Nat):=by rw[Ab (by omega) (by omega)];simp
  have hst:=Ais (f:=PN) (a:=(1:Int)) hjn
  have hra:=Aho hjn
  have b1:(2+ls[j].length)*8≤1099511627776:=by omega
  generalize(ls.take j).foldl PN 1=x at hst
  have hh:=hH (x::(ls[j].length:Int)::ls[j]) (by unfold maxLen;simp;omega)
  have hlen:(x::(ls[j].length:Int)::ls[j]).length=2+ls[j].length:=by simp;omega
  rw[hlen]at hh
  simp only[←Np]at hh
  simp -implicitDefEqProofs [hjn,b1]
  refine Aa (hh) ?_
  simp -implicitDefEqProofs
  exact⟨k-1,by omega,j+1,by omega,by rw[hst];rfl,by simp[hw]⟩
 ·have e:ls.take j=ls:=List.take_of_length_le (by omega)
  have e2:Ip ls=ls.foldl PN 1:=by unfold Ip;rw[if_pos h1]
  simp -implicitDefEqProofs [hjn,e,e2]
def Dm (k:Int) (ls:List (List Int)) (side:Int):Int:=if TJ k&&(Jt ls&&decide (Rp side 0 1))then keyed k [side,Ip ls]else 0
abbrev Qd (R:Rel):Prop:=∀(k:Int) (ls:List (List Int)) (side:Int),Lu ls≤4194304→R [I k,Lc ls,I side] [] (I (Dm k ls side)) []
theorem Awn (D:Dn) (hV:K9 (D Adr)) (hT:J5 (D Qx)) (hI:Uk (D Dk)) (hH:I5 (D WQ)) (hK:Xp (D Afr)):Qd (Body D QO):=by
 intro k ls side hl
 simp -implicitDefEqProofs
 refine Aa (hV k) ?_
 by_cases h1:TJ k=true
 rotate_left
 ·simp -implicitDefEqProofs [h1,Dm]
 simp -implicitDefEqProofs [h1]
 refine Aa (hT ls hl) ?_
 by_cases h2:Jt ls=true
 rotate_left
 ·simp -implicitDefEqProofs [h2,Dm]
 simp -implicitDefEqProofs [h2]
 refine Aa (hI _ _ _) ?_
 by_cases h3:Rp side 0 1
 rotate_left
 ·simp -implicitDefEqProofs [h3,Dm]
 simp -implicitDefEqProofs [h3]
 refine Aa (hH ls hl) ?_
 simp -implicitDefEqProofs
 refine Aa (hK k [side,Ip ls] (by simp)) ?_
 simp -implicitDefEqProofs [Dm,h1,h2,h3]
theorem Axy (D:Dn) (hV:K9 (D Ac5)) (hT:J5 (D QN)) (hI:Uk (D Cj)) (hH:I5 (D Wu)) (hK:Xp (D AgJ)):Qd (Body D Qo):=by
 intro k ls side hl
 simp -implicitDefEqProofs
 refine Aa (hV k) ?_
 by_cases h1:TJ k=true
 rotate_left
 ·simp -implicitDefEqProofs [h1,Dm]
 simp -implicitDefEqProofs [h1]
 refine Aa (hT ls hl) ?_
 by_cases h2:Jt ls=true
 rotate_left
 ·simp -implicitDefEqProofs [h2,Dm]
 simp -implicitDefEqProofs [h2]
 refine Aa (hI _ _ _) ?_
 by_cases h3:Rp side 0 1
 rotate_left
 ·simp -implicitDefEqProofs [h3,Dm]
 simp -implicitDefEqProofs [h3]
 refine Aa (hH ls hl) ?_
 simp -implicitDefEqProofs
 refine Aa (hK k [side,Ip ls] (by simp)) ?_
 simp -implicitDefEqProofs [Dm,h1,h2,h3]
def Qm (k:Int) (ls:List (List Int)) (side f:Int):Bool:= !decide (f=0)&&decide (f=Dm k ls side)
abbrev UH (R:Rel):Prop:=∀(k:Int) (ls:List (List Int)) (side f:Int),Lu ls≤4194304→R [I k,Lc ls,I side,I f] [] (B (Qm k ls side f)) []
theorem AnV (D:Dn) (hF:Qd (D W9)):UH (Body D O7):=by
 intro k ls side f hl
 by_cases h0:f=0
 ·simp -implicitDefEqProofs [h0,Qm]
 simp -implicitDefEqProofs [h0]
 refine Aa (hF k ls side hl) ?_
 simp -implicitDefEqProofs [Qm,h0,Awg]
end Go.Eng.T
namespace Go.Eng.T
set_option maxRecDepth 20000
set_option maxHeartbeats 1000000
theorem Xy {l:List Ext} (h:EC l=true):l.length≤6:=by
 unfold EC at h
 simp only[Bool.and_eq_true,decide_eq_true_eq]at h
 exact h.2
theorem ABL {l:List Ext} (h:EC l=true) {j:Nat} (hj:j<l.length):U9 l j=true:=by
 unfold EC at h
 simp only[Bool.and_eq_true]at h
 exact AvX.1 h.1 j hj
theorem ZY {l:List Ext} (h:EC l=true) {j:Nat} (hj:j<l.length):l[j].body.length≤4:=by
 have:=ABL h hj
 rw[Adl hj]at this
 unfold Xh at this
 simp only[Bool.and_eq_true,decide_eq_true_eq]at this
 exact this.1.2.1
def AFP (x:Ext):List Int:=x.tag::(x.body.length:Int)::x.body
def MQ (l:List Ext) (j:Nat):List Int:=(l.length:Int)::(l.take j).flatMap AFP
theorem Zb {l:List Ext} {j:Nat} (h:j<l.length):MQ l (j+1)=MQ l j++([l[j].tag,(l[j].body.length:Int)]++l[j].body):=by
 have e:l.take (j+1)=l.take j++ [l[j]]:=by simp
 unfold MQ
 rw[e,List.flatMap_append]
 simp[AFP]
theorem XE {l:List Ext} (h:EC l=true):∀j,j≤l.length→(MQ l j).length≤1+6*j
 | 0,_=>by simp[MQ]
 | j+1,hj=>by
  have ih:=XE h j (by omega)
  have hb:=ZY h (j:=j) (by omega)
  rw[Zb (by omega)]
  simp only[List.length_append,List.length_cons,List.length_nil]
  omega
def EG (l:List Ext):List Int×Bool:=if EC l=true then(MQ l l.length,true)else([],false)
abbrev FX (R:Rel):Prop:=∀l:List Ext,SY l→R [.sl 1 2 l.length (l.flatMap BD)] [] (.tup [.sl 0 1 (EG l).1.length (ints (EG l).1),B (EG l).2]) []
theorem Aky (D:Dn) (hA:FE (D Kk)):FX (Body D Nz):=by
 intro l hl
 have hll:=hl.1
 simp -implicitDefEqProofs
 refine Aa (hA l hl) ?_
 by_cases h1:EC l=true
 rotate_left
 ·have e:EG l=([],false):=by unfold EG;rw[if_neg h1]
  simp -implicitDefEqProofs [h1,e]
 simp -implicitDefEqProofs [h1]
 refine Af (fun k s=>∃j o2 o3 o4,j+k=l.length∧s=⟨[.sl 1 2 l.length (l.flatMap BD),.undef,.undef,.arr 5,I j,.undef,.undef],[.free,.free,o2,o3,o4,.arr 1 0 (MQ l j).length (ints (MQ l j))]⟩) ?_ (l.length) _ ⟨0,.free,.free,.free,by simp,by simp[MQ,ints]⟩
 intro k s ⟨j,o2,o3,o4,hj,hs⟩
 subst hs
 by_cases hjn:j<l.length
 ·have hw:IntKind.i64.wrap ((j:Int)+1)=(j+1:Nat):=by rw[Ab (by omega) (by omega)];simp
  have hst:=Zb hjn
  have hle:=XE h1 j (by omega)
  have h6:=Xy h1
  have hb4:=ZY h1 hjn
  have b1:((MQ l j).length+2)*8≤1099511627776:=by omega
  have b2:((MQ l j).length+2+l[j].body.length)*8≤1099511627776:=by omega
  simp -implicitDefEqProofs [hjn,b1,b2]
  exact⟨k-1,by omega,j+1,by omega,by simp[hw],by rw[hst];simp;omega,by rw[hst];simp[ints]⟩
 ·obtain rfl:j=l.length:=by omega
  have e:EG l=(MQ l l.length,true):=by unfold EG;rw[if_pos h1]
  simp -implicitDefEqProofs [e]
theorem AlA (D:Dn) (hA:FE (D Ki)):FX (Body D Nf):=by
 intro l hl
 have hll:=hl.1
 simp -implicitDefEqProofs
 refine Aa (hA l hl) ?_
 by_cases h1:EC l=true
 rotate_left
 ·have e:EG l=([],false):=by unfold EG;rw[if_neg h1]
  simp -implicitDefEqProofs [h1,e]
 simp -implicitDefEqProofs [h1]
 refine Af (fun k s=>∃j o1 o2 o3 o4,j+k=l.length∧s=⟨[.undef,.undef,.undef,.arr 5,.undef,.undef,.sl 1 2 l.length (l.flatMap BD),I l.length,I j,.undef],[.free,o1,o2,o3,o4,.arr 1 0 (MQ l j).length (ints (MQ l j))]⟩) ?_ (l.length) _ ⟨0,.free,.free,.free,.free,by simp,by simp[MQ,ints]⟩
 intro k s ⟨j,o1,o2,o3,o4,hj,hs⟩
 subst hs
 by_cases hjn:j<l.length
 ·have hw:IntKind.i64.wrap ((j:Int)+1)=(j+1:Nat):=by rw[Ab (by omega) (by omega)];simp
  have hst:=Zb hjn
  have hle:=XE h1 j (by omega)
  have h6:=Xy h1
  have hb4:=ZY h1 hjn
  have b1:((MQ l j).length+2)*8≤1099511627776:=by omega
  have b2:((MQ l j).length+2+l[j].body.length)*8≤1099511627776:=by omega
  simp -implicitDefEqProofs [hjn,b1,b2]
  exact⟨k-1,by omega,j+1,by omega,by simp[hw],by rw[hst];simp;omega,by rw[hst];simp[ints]⟩
 ·obtain rfl:j=l.length:=by omega
  have e:EG l=(MQ l l.length,true):=by unfold EG;rw[if_pos h1]
  simp -implicitDefEqProofs [e]
theorem Lg (l:List Ext):(EG l).1.length≤37:=by
 unfold EG
 split
 ·rename_i h
  have:=XE h l.length (Nat.le_refl _)
  have:=Xy h
  dsimp only;omega
 ·simp
def Bf (h:Hello):List Int:=if CP h=true then((h.versions.length:Int)::h.versions)++(EG h.exts).1 else []
abbrev He (R:Rel):Prop:=∀h:Hello,hB h→R [arg (CV h)] [] (.sl 0 1 (Bf h).length (ints (Bf h))) []
theorem Awx {h:Hello} (hh:CP h=true):Bq h.versions=true:=by unfold CP at hh;simp only[Bool.and_eq_true]at hh;exact hh.1
theorem Alw (D:Dn) (hI:Eh (D FP)) (hE:FX (D TQ)):He (Body D NM):=by
 intro h hh
 have hv:=hh.1
 simp -implicitDefEqProofs
 refine Aa (hI h hh) ?_
 by_cases h1:CP h=true
 rotate_left
 ·simp -implicitDefEqProofs [h1,Bf]
 have hl:=Lg h.exts
 have e:Bf h=((h.versions.length:Int)::h.versions)++(EG h.exts).1:=by unfold Bf;rw[if_pos h1]
 rw[e]
 simp -implicitDefEqProofs [h1]
 refine Aa (hE h.exts hh.2) ?_
 generalize(EG h.exts).1=r at hl
 have b1:(1+h.versions.length)*8≤1099511627776:=by omega
 have b2:(1+h.versions.length+r.length)*8≤1099511627776:=by omega
 have el:h.versions.length+r.length+1=1+h.versions.length+r.length:=by omega
 simp -implicitDefEqProofs [b1,b2,Np,AAL,el]
def IJ (a:Qz):Bool:=decide (InV a.version 1 9)&&EC a.exts
def AP (a:Qz):List Int:=if IJ a=true then a.version::(EG a.exts).1 else []
abbrev Ik (R:Rel):Prop:=∀a:Qz,SY a.exts→R [arg (Xw a)] [] (B (IJ a)) []
theorem Aqu (D:Dn) (hI:Uk (D Dk)) (hE:FE (D Kk)):Ik (Body D Q5):=by
 intro a ha
 simp -implicitDefEqProofs
 refine Aa (hI _ _ _) ?_
 by_cases h1:InV a.version 1 9
 rotate_left
 ·simp -implicitDefEqProofs [h1,IJ]
 simp -implicitDefEqProofs [h1]
 refine Aa (hE _ ha) ?_
 simp -implicitDefEqProofs [IJ,h1]
theorem Aqv (D:Dn) (hI:Uk (D Cj)) (hE:FE (D Ki)):Ik (Body D QV):=by
 intro a ha
 simp -implicitDefEqProofs
 refine Aa (hI _ _ _) ?_
 by_cases h1:InV a.version 1 9
 rotate_left
 ·simp -implicitDefEqProofs [h1,IJ]
 simp -implicitDefEqProofs [h1]
 refine Aa (hE _ ha) ?_
 simp -implicitDefEqProofs [IJ,h1]
abbrev Gv (R:Rel):Prop:=∀a:Qz,SY a.exts→R [arg (Xw a)] [] (.sl 0 1 (AP a).length (ints (AP a))) []
theorem Ag4 (a:Qz):(AP a).length≤38:=by
 unfold AP
 have:=Lg a.exts
 split
 ·simp only[List.length_cons];omega
 ·simp
theorem AjH (D:Dn) (hI:Ik (D WW)) (hE:FX (D TQ)):Gv (Body D Mi):=by
 intro a ha
 simp -implicitDefEqProofs
 refine Aa (hI a ha) ?_
 by_cases h1:IJ a=true
 rotate_left
 ·have e:AP a=[]:=by unfold AP;rw[if_neg h1]
  simp -implicitDefEqProofs [h1,e]
 have hl:=Lg a.exts
 have e:AP a=a.version::(EG a.exts).1:=by unfold AP;rw[if_pos h1]
 rw[e]
 simp -implicitDefEqProofs [h1]
 refine Aa (hE a.exts ha) ?_
 generalize(EG a.exts).1=r at hl
 have b2:(1+r.length)*8≤1099511627776:=by omega
 have el:r.length+1=1+r.length:=by omega
 simp -implicitDefEqProofs [b2,Np,el]
theorem Ah7 (D:Dn) (hI:Ik (D Xc)) (hE:FX (D TY)):Gv (Body D Me):=by
 intro a ha
 simp -implicitDefEqProofs
 refine Aa (hI a ha) ?_
 by_cases h1:IJ a=true
 rotate_left
 ·have e:AP a=[]:=by unfold AP;rw[if_neg h1]
  simp -implicitDefEqProofs [h1,e]
 have hl:=Lg a.exts
 have e:AP a=a.version::(EG a.exts).1:=by unfold AP;rw[if_pos h1]
 rw[e]
 simp -implicitDefEqProofs [h1]
 refine Aa (hE a.exts ha) ?_
 generalize(EG a.exts).1=r at hl
 have b2:(1+r.length)*8≤1099511627776:=by omega
 have el:r.length+1=1+r.length:=by omega
 simp -implicitDefEqProofs [b2,Np,el]
def AlV (h:Hello) (x:Ext):Bool:=decide (x.tag∈Ar h.exts)&& !AO x.tag
def Ew (h:Hello) (a:Qz):Bool:=CP h&&(IJ a&&(decide (a.version∈h.versions)&&a.exts.all (AlV h)))
abbrev Ji (R:Rel):Prop:=∀(h:Hello) (a:Qz),hB h→SY a.exts→R [arg (CV h),arg (Xw a)] [] (B (Ew h a)) []
theorem AyH {α:Type} {p:α→Bool} {xs:List α} {i:Int} (h:0≤i):(G8 p xs i<0)=¬(xs.any p=true):=by
 have:=Vt (p:=p) (xs:=xs) h
 rw[←this]
 exact propext ⟨fun h=>by omega,fun h=>by omega⟩
theorem ACw (l:List Ext) (t:Int):l.any (Gn t)=decide (t∈Ar l):=by
 rw[Bool.eq_iff_iff]
 simp only[List.any_eq_true,decide_eq_true_eq,Ar,List.mem_map,Gn]
theorem K6 (l:List Ext) (t:Int):(Jb l t<0)=¬(t∈Ar l):=by
 unfold Jb
 rw[AyH (by omega),ACw]
 simp
theorem AnT (D:Dn) (hX:O8 (D Ry)) (hR:Ff (D M6)) (hI:Eh (D FP)) (hA:Ik (D WW)) (hH:QA (D IZ)):Ji (Body D Pn):=by
 intro h a hh ha
 have hal:=ha.1
 have hxl:=hh.2.1
 have hvl:=hh.1
 simp -implicitDefEqProofs
 refine Af (fun k s=>∃j,j+k=a.exts.length∧(a.exts.take j).all (AlV h)=true∧s=⟨[.undef,.undef,.ptr 0 0,.ptr 1 0,.undef,I j,.undef,.undef],[.var ((CV h).map (Bc 1)),.var ((Xw a).map (Bc 1))]⟩) ?_ (a.exts.length) _ ⟨0,by simp,by simp,by simp⟩
 intro k s ⟨j,hj,hp,hs⟩
 subst hs
 by_cases hjn:j<a.exts.length
 ·have hw:IntKind.i64.wrap ((j:Int)+1)=(j+1:Nat):=by rw[Ab (by omega) (by omega)];simp
  have hst:=Aj5 (p:=AlV h) hjn
  rw[hp,Bool.true_and]at hst
  simp -implicitDefEqProofs [hjn]
  refine Aa (hX h.exts _ (by unfold maxLen;omega)) ?_
  by_cases h1:a.exts[j].tag∈Ar h.exts
  rotate_left
  ·have e:Ew h a=false:=by unfold Ew;rw[AaX hjn (by simp[AlV,h1])];simp
   have h1':Jb h.exts a.exts[j].tag<0:=by rw[K6];exact h1
   simp -implicitDefEqProofs [h1',e]
  have h1':¬Jb h.exts a.exts[j].tag<0:=by rw[K6];simpa using h1
  simp -implicitDefEqProofs [h1',hjn]
  refine Aa (hR _) ?_
  by_cases h2:AO a.exts[j].tag=true
  ·have e:Ew h a=false:=by unfold Ew;rw[AaX hjn (by simp[AlV,h2])];simp
   simp -implicitDefEqProofs [h2,e]
  ·simp -implicitDefEqProofs [h2]
   exact⟨k-1,by omega,j+1,by omega,by simpa using hst.trans (show AlV h a.exts[j]=true by simp[AlV,h1,h2]),by simp[hw]⟩
 ·have e:a.exts.all (AlV h)=true:=by rw[←An6 (j:=j) (by omega),hp]
  simp -implicitDefEqProofs [hjn]
  refine Aa (hI h hh) ?_
  by_cases g1:CP h=true
  rotate_left
  ·simp -implicitDefEqProofs [g1,Ew]
  simp -implicitDefEqProofs [g1]
  refine Aa (hA a ha) ?_
  by_cases g2:IJ a=true
  rotate_left
  ·simp -implicitDefEqProofs [g2,Ew]
  simp -implicitDefEqProofs [g2]
  refine Aa (hH _ _ (by unfold maxLen;omega)) ?_
  have e2:Ew h a=decide (a.version∈h.versions):=by unfold Ew;rw[e,g1,g2];simp
  simp -implicitDefEqProofs [e2]
abbrev UD (R:Rel):Prop:=∀l:List Ext,l.length≤4194304→R [.sl 1 2 l.length (l.flatMap BD)] [] (B ((Ar l).any AO)) []
theorem AnK (D:Dn) (hT:Kq (D P7)) (hH:Ou (D Tt)):UD (Body D Pt):=by
 intro l hl
 simp -implicitDefEqProofs
 refine Aa (hT l hl) ?_
 simp -implicitDefEqProofs
 refine Aa (hH (Ar l) (by rw[MJ];unfold maxLen;omega)) ?_
 generalize(Ar l).any AO=q
 simp -implicitDefEqProofs
theorem ACB (h:Hello) (a:Qz):a.exts.all (AlV h)=(decide (leftOf (Ar a.exts) (Ar h.exts)=[])&& !(Ar a.exts).any AO):=by
 have h1:decide (leftOf (Ar a.exts) (Ar h.exts)=[])=a.exts.all fun x=>decide (x.tag∈Ar h.exts):=by
  rw[Bool.eq_iff_iff,decide_eq_true_eq,List.all_eq_true]
  unfold leftOf
  rw[List.filter_eq_nil_iff]
  constructor
  ·intro hp x hx
   have:=hp x.tag (List.mem_map.2 ⟨x,hx,rfl⟩)
   simpa using this
  ·intro hp v hv
   obtain⟨x,hx,rfl⟩:=List.mem_map.1 hv
   simpa using hp x hx
 have h2:(!(Ar a.exts).any AO)=a.exts.all fun x=> !AO x.tag:=by
  unfold Ar
  rw[List.any_map,List.all_eq_not_any_not]
  simp[Function.comp_def]
 rw[h1,h2]
 generalize a.exts=l
 induction l with
 | nil=>rfl
 | cons x r ih=>
  simp only[List.all_cons,ih,AlV]
  generalize decide (x.tag∈Ar h.exts)=p1
  generalize AO x.tag=p2
  cases p1<;>cases p2<;>simp
theorem AnR (D:Dn) (hI:Eh (D GA)) (hA:Ik (D Xc)) (hH:QA (D Bv)) (hT:Kq (D P7)) (hL:VH (D NT)) (hG:UD (D AfQ)):Ji (Body D Px):=by
 intro h a hh ha
 have hal:=ha.1
 have hxl:=hh.2.1
 have hvl:=hh.1
 simp -implicitDefEqProofs
 refine Aa (hI h hh) ?_
 by_cases g1:CP h=true
 rotate_left
 ·simp -implicitDefEqProofs [g1,Ew]
 simp -implicitDefEqProofs [g1]
 refine Aa (hA a ha) ?_
 by_cases g2:IJ a=true
 rotate_left
 ·simp -implicitDefEqProofs [g2,Ew]
 simp -implicitDefEqProofs [g2]
 refine Aa (hH _ _ (by unfold maxLen;omega)) ?_
 by_cases g3:a.version∈h.versions
 rotate_left
 ·simp -implicitDefEqProofs [g3,Ew]
 have e2:Ew h a=(decide (leftOf (Ar a.exts) (Ar h.exts)=[])&& !(Ar a.exts).any AO):=by unfold Ew;rw[ACB,g1,g2];simp[g3]
 rw[e2]
 simp -implicitDefEqProofs [g3]
 refine Aa (hT a.exts hal) ?_
 simp -implicitDefEqProofs
 refine Aa (hT h.exts hxl) ?_
 simp -implicitDefEqProofs
 refine Aa (hL (Ar a.exts) (Ar h.exts) (by rw[MJ];exact hal) (by rw[MJ];exact hxl)) ?_
 by_cases g4:leftOf (Ar a.exts) (Ar h.exts)=[]
 rotate_left
 ·simp -implicitDefEqProofs [g4,Awg]
 simp -implicitDefEqProofs [g4,Awg]
 refine Aa (hG a.exts hal) ?_
 generalize(Ar a.exts).any AO=q
 simp -implicitDefEqProofs
def Bn (vs tags:List Int) (h:Hello):Qz×Bool:=if CP h&& !decide (Dl vs h.versions=0)then(⟨Dl vs h.versions,Z9 (Kl h.exts tags)⟩,true)else(⟨0,[]⟩,false)
abbrev RP (R:Rel):Prop:=∀(vs tags:List Int) (h:Hello),vs.length≤4194304→tags.length≤4194304→hB h→R [.sl 1 1 vs.length (ints vs),.sl 1 1 tags.length (ints tags),arg (CV h)] [] (.tup [.agg (Xw (Bn vs tags h).1),B (Bn vs tags h).2]) []
theorem AvM (D:Dn) (hB':Hf (D AdQ)) (hI:Eh (D FP)) (hK:Mq (D YG)) (hS:Gy (D Acj)):RP (Body D KS):=by
 intro vs tags h hv ht hh
 simp -implicitDefEqProofs
 refine Aa (hB' vs h.versions hv hh.1) ?_
 simp -implicitDefEqProofs
 refine Aa (hI h hh) ?_
 by_cases h1:CP h=true
 rotate_left
 ·simp -implicitDefEqProofs [h1,Bn]
 by_cases h2:Dl vs h.versions=0
 ·simp -implicitDefEqProofs [h1,h2,Bn]
 have e:Bn vs tags h=(⟨Dl vs h.versions,Z9 (Kl h.exts tags)⟩,true):=by unfold Bn;rw[if_pos (by simp[h1,h2])]
 simp -implicitDefEqProofs [h1,h2]
 refine Aa (hK h.exts tags hh.2 (by unfold maxLen;omega)) ?_
 simp -implicitDefEqProofs
 refine Aa (hS (Kl h.exts tags) (TW hh.2 _)) ?_
 simp -implicitDefEqProofs [e]
theorem AvI (D:Dn) (hB':Hf (D AdE)) (hI:Eh (D GA)) (hK:Mq (D Ami)) (hS:Gy (D AaB)):RP (Body D KJ):=by
 intro vs tags h hv ht hh
 simp -implicitDefEqProofs
 refine Aa (hB' vs h.versions hv hh.1) ?_
 simp -implicitDefEqProofs
 refine Aa (hI h hh) ?_
 by_cases h1:CP h=true
 rotate_left
 ·simp -implicitDefEqProofs [h1,Bn]
 by_cases h2:Dl vs h.versions=0
 ·simp -implicitDefEqProofs [h1,h2,Bn]
 have e:Bn vs tags h=(⟨Dl vs h.versions,Z9 (Kl h.exts tags)⟩,true):=by unfold Bn;rw[if_pos (by simp[h1,h2])]
 simp -implicitDefEqProofs [h1,h2]
 refine Aa (hK h.exts tags hh.2 (by unfold maxLen;omega)) ?_
 simp -implicitDefEqProofs
 refine Aa (hS (Kl h.exts tags) (TW hh.2 _)) ?_
 simp -implicitDefEqProofs [e]
end Go.Eng.T
namespace Go.Eng.T
end Go.Eng.T
namespace Go.Eng.T
open Go.Eng.X
def C8:Nat→Br
 |0=>R 0 [x 0 (s 0),x 1 (s 1),a 2 [c,o,N 1]] [(6,0),(7,1),(8,2)] [0,1]
 |1=>R 1 [m (s 2),m (s 3),P 2 (s 7),C 343 [r (l 0),r (l 1),r (l 2)] [3],m (l 3),X (l 4) 0,X (l 4) 1,a 4 [o,N 2],W 2 (l 7) (l 5),m (l 6)] [(9,7),(10,9)] [2,3]
 |2=>R 2 [m (s 10),n (l 0)] [(13,1)] [10]
 |3=>R 3 [b [c,o,N 1] [],W 3 (s 8) (l 0)] [] [4,5,6,7,9]
 |4=>R 4 [P 2 (s 9),a 5 [o,N 2],W 2 (l 1) (l 0)] [(11,1)] []
 |5=>R 5 [m (s 5),e (l 0),m (i 0)] [(14,1),(15,2)] [5]
 |6=>R 6 [y .lss (s 15) (s 14)] [(16,0)] [14,15]
 |7=>T 10 [D (m (s 4)) [] [],D (P 2 (s 7)) [1] [],D (C 345 [r (l 1)] [6]) [6] [6],D (P 2 (s 9)) [4] [],D (C 346 [r (l 3)] [7]) [3,7] [7],D (M 8 1 2 [l 2,l 4]) [6,7,8] [6,7,8],D (C 347 [r (l 0),r (l 5),r (i 1)] []) [8] [],D (m (l 6)) [] []] [(12,7)] [7,9]
 |8=>T 11 [D (P 2 (s 6)) [0] [],D (P 2 (s 11)) [5] [],D (C 348 [r (l 0),r (l 1)] []) [3] [],D (n (l 2)) [] [],D (m (l 3)) [] [],H 4 (m (s 4)) [] [],H 4 (P 2 (s 6)) [0] [],H 4 (C 345 [r (l 6)] [9]) [9] [9],H 4 (P 2 (s 11)) [5] [],H 4 (C 346 [r (l 8)] [10]) [3,10] [10],H 4 (M 11 1 2 [l 7,l 9]) [9,10,11] [9,10,11],H 4 (m (s 12)) [] [],H 4 (C 349 [r (l 5),r (l 10),r (i 1),r (l 11)] []) [11] [],H 4 (n (l 12)) [] [],D (k (l 4) t (l 13)) [] []] [(17,14)] [4,6,12]
 |9=>R 12 [b [c,o,N 1] [],W 3 (s 8) (l 0)] [] [11]
 |_=>T 13 [D (F (s 11) 0) [] [],D (L (l 0)) [5] [],D (F (s 11) 1) [] [],D (L (l 2)) [5] [],D (C 317 [r (l 3)] [12]) [3,12] [12],D (b [c,o,N 1] [(0,1,t),(1,1,l 1),(2,1,l 4)]) [] [],D (W 3 (s 8) (l 5)) [2] [2]] [] [11]
def UO:Bw:=⟨18,13,[0,1,2,3,4,5],0,false,[],j (d (C8 0)) (j (d (C8 1)) (j (j (d (C8 2)) (h 13 (j (d (C8 3)) (.ret)) (.skip))) (j (d (C8 4)) (j (j (d (C8 5)) (.block 0 (.loop (j (d (C8 6)) (j (h 16 (.skip) (.exit 0)) (j (.block 1 (j (.stuck) (.stuck))) (.stuck))))))) (j (d (C8 7)) (j (j (d (C8 8)) (h 17 (j (d (C8 9)) (.ret)) (.skip))) (j (d (C8 10)) (.ret)))))))),[.cell 8 (some 3)]⟩
def Ajr:List Tmp:=[0,1,2,3,4,5,6,7,12,13,14,15,18,27,31,32,33,61]
def BK:Nat→Br
 |0=>R 0 [m (z 2)] [] [2]
 |1=>R 1 [m (s 1),C 310 [r (l 0)] [],m (l 1)] [(3,2)] []
 |2=>R 2 [m (s 0),C 311 [r (l 0)] [0],m (l 1)] [(4,2)] []
 |3=>R 3 [m (s 0),C 312 [r (l 0)] [],n (l 1),m (l 2),G 3 (m (s 0)),G 3 (e (l 4)),G 3 (y .geq (l 5) (i 6)),k (l 3) t (l 6),m (l 7),G 8 (m (s 0)),G 8 (m (s 3)),G 8 (C 309 [r (l 9),r (l 10)] []),G 8 (y .geq (l 11) (i 0)),k (l 8) t (l 12)] [(8,13)] []
 |4=>R 4 [m (s 4),m (l 0)] [(2,1)] [0,1,3,4]
 |5=>Q 5 [m (s 3),b [o,N 1] [(0,1,l 0)],a 1 [o,N 1],W 2 (l 2) (l 1)] [(5,2)] [3] [] [.ownc 1 1 9]
 |6=>R 6 [m (s 1),C 313 [r (l 0),r (i 2),r (i 3)] [],m (l 1)] [(6,2)] []
 |7=>R 7 [m (s 6),y .gtr (l 0) (i 0)] [(9,1)] []
 |8=>Y 9 [D (F (s 5) 1) [] [],D (L (l 0)) [1] [],D (m (s 1)) [] [],D (C 313 [r (l 2),r (i 3),r (i 256)] []) [] [],D (M 2 1 1 [l 3]) [2] [2],D (q 3 1 8 (l 1) (l 4)) [2,3,9] [3,9],D (F (s 5) 1) [] [],D (W 1 (l 6) (l 5)) [1] [1]] [] [] [2,3] [w 3 9]
 |9=>R 8 [m (s 6),y .sub (l 0) (i 1),m (l 1)] [(6,2)] []
 |10=>R 10 [m (s 1),m (s 0),e (l 1),y .add (l 2) (i 1),C 313 [r (l 0),r (i 1),r (l 3)] [],m (l 4)] [(7,5)] [0,1,6]
 |_=>T 11 [D (M 4 2 0 []) [4] [4],D (m (s 4)) [] [],D (m (s 7)) [] [],D (.slice 2 (l 1) none (some (l 2))) [0] [],D (p 5 2 32 (l 0) (l 3)) [0,4,5,100000] [0,4,5,100000],D (P 2 (s 5)) [1] [],D (M 6 2 1 [l 5]) [6,9] [6,9],D (p 7 2 32 (l 4) (l 6)) [5,6,7] [5,6,7],D (m (s 4)) [] [],D (m (s 7)) [] [],D (.slice 2 (l 8) (some (l 9)) none) [0] [],D (p 8 2 32 (l 7) (l 10)) [0,7,8,100000] [0,7,8,100000],D (m (l 11)) [] []] [(2,12)] [4,5,7]
def O4:Bw:=⟨10,10,[0,1],0,false,[],j (d (BK 0)) (j (d (BK 1)) (j (d (BK 2)) (j (j (d (BK 3)) (h 8 (j (d (BK 4)) (.ret)) (.skip))) (j (d (BK 5)) (j (j (d (BK 6)) (.block 0 (.loop (j (j (d (BK 7)) (h 9 (.skip) (.exit 0))) (j (.block 1 (d (BK 8))) (d (BK 9))))))) (j (d (BK 10)) (j (d (BK 11)) (.ret)))))))),[.slot 2]⟩
def AbG:List Tmp:=[0,1,4,5,6,7,8,9,27,34]
attribute [simp] C8 UO BK O4
end Go.Eng.T
namespace Go.Eng.T
set_option maxRecDepth 20000
set_option maxHeartbeats 1000000
theorem AoV (D:Dn):FK (Body D Pf):=by
 intro xs ys h1 h2
 unfold maxLen at h1 h2
 by_cases hl:xs.length=ys.length
 rotate_left
 ·have hl':¬(xs.length:Int)=ys.length:=by omega
  have:xs≠ys:=fun h=>hl (by rw[h])
  simp -implicitDefEqProofs [hl',this]
 have hl':(xs.length:Int)=ys.length:=by omega
 simp -implicitDefEqProofs [hl']
 refine Af (fun k s=>∃j,j+k=xs.length∧xs.take j=ys.take j∧s=⟨[.sl 1 1 xs.length (ints xs),.sl 1 1 ys.length (ints ys),.undef,I j,.undef,.undef,.undef],[]⟩) ?_ (xs.length) _ ⟨0,by simp,by simp,by simp⟩
 intro k s ⟨j,hj,hp,hs⟩
 subst hs
 by_cases hjn:j<xs.length
 ·have hw:IntKind.i64.wrap ((j:Int)+1)=(j+1:Nat):=by rw[Ab (by omega) (by omega)];simp
  have hy:j<ys.length:=by omega
  by_cases he:xs[j]=ys[j]
  ·simp -implicitDefEqProofs [hjn,hy,he]
   exact⟨k-1,by omega,j+1,by omega,Ju hjn hy hp he,by simp[hw]⟩
  ·have hne:xs≠ys:=fun h=>he (by simp[h])
   simp -implicitDefEqProofs [hjn,hy,he,hne]
 ·obtain rfl:xs=ys:=LB (by omega) hl hp
  simp -implicitDefEqProofs [hjn]
theorem AzW (D:Dn):FK (Body D GD):=by
 intro xs ys h1 h2
 unfold maxLen at h1 h2
 by_cases hl:xs.length=ys.length
 rotate_left
 ·have hl':¬(xs.length:Int)=ys.length:=by omega
  have:xs≠ys:=fun h=>hl (by rw[h])
  simp -implicitDefEqProofs [hl',this]
 have hl':(xs.length:Int)=ys.length:=by omega
 simp -implicitDefEqProofs [hl']
 refine Af (fun k s=>∃j,j+k=xs.length∧xs.take j=ys.take j∧s=⟨[.sl 1 1 xs.length (ints xs),.sl 1 1 ys.length (ints ys),.undef,.undef,.undef,I ys.length,I j,.undef,.undef],[]⟩) ?_ (xs.length) _ ⟨0,by simp,by simp,by simp⟩
 intro k s ⟨j,hj,hp,hs⟩
 subst hs
 by_cases hjn:j<xs.length
 ·have hw:IntKind.i64.wrap ((j:Int)+1)=(j+1:Nat):=by rw[Ab (by omega) (by omega)];simp
  have hy:j<ys.length:=by omega
  by_cases he:xs[j]=ys[j]
  ·simp -implicitDefEqProofs [hjn,hy,he]
   exact⟨k-1,by omega,j+1,by omega,Ju hjn hy hp he,by simp[hw]⟩
  ·have hne:xs≠ys:=fun h=>he (by simp[h])
   simp -implicitDefEqProofs [hjn,hy,he,hne]
 ·obtain rfl:xs=ys:=LB (by omega) hl hp
  simp -implicitDefEqProofs [hjn]
abbrev P6 (R:Rel):Prop:=∀a b:List Ext,SY a→SY b→R [.sl 1 2 a.length (a.flatMap BD),.sl 1 2 b.length (b.flatMap BD)] [] (B (decide (a=b))) []
abbrev Tz (R:Rel):Prop:=∀a b:Ext,a.body.length≤4194304→b.body.length≤4194304→R [arg (BD a),arg (BD b)] [] (B (decide (a=b))) []
theorem ext_eq {a b:Ext} (h1:a.tag=b.tag) (h2:a.body=b.body):a=b:=by cases a;cases b;simp_all
theorem AnI (D:Dn) (hE:FK (D VA)):P6 (Body D Pq):=by
 intro a b ha hb
 have h1:=ha.1
 have h2:=hb.1
 by_cases hl:a.length=b.length
 rotate_left
 ·have hl':¬(a.length:Int)=b.length:=by omega
  have:a≠b:=fun h=>hl (by rw[h])
  simp -implicitDefEqProofs [hl',this]
 have hl':(a.length:Int)=b.length:=by omega
 simp -implicitDefEqProofs [hl']
 refine Af (fun k s=>∃j,j+k=a.length∧a.take j=b.take j∧s=⟨[.sl 1 2 a.length (a.flatMap BD),.sl 1 2 b.length (b.flatMap BD),.undef,I j,.undef,.undef,.undef],[]⟩) ?_ (a.length) _ ⟨0,by simp,by simp,by simp⟩
 intro k s ⟨j,hj,hp,hs⟩
 subst hs
 by_cases hjn:j<a.length
 ·have hw:IntKind.i64.wrap ((j:Int)+1)=(j+1:Nat):=by rw[Ab (by omega) (by omega)];simp
  have hy:j<b.length:=by omega
  by_cases g1:a[j].tag=b[j].tag
  rotate_left
  ·have hne:a≠b:=fun h=>g1 (by simp[h])
   simp -implicitDefEqProofs [hjn,hy,g1,hne]
  simp -implicitDefEqProofs [hjn,hy,g1]
  refine Aa (hE a[j].body b[j].body (by have:=MF ha hjn;unfold maxLen;omega) (by have:=MF hb hy;unfold maxLen;omega)) ?_
  by_cases g2:a[j].body=b[j].body
  ·simp -implicitDefEqProofs [g2]
   exact⟨k-1,by omega,j+1,by omega,Ju hjn hy hp (ext_eq g1 g2),by simp[hw]⟩
  ·have hne:a≠b:=fun h=>g2 (by simp[h])
   simp -implicitDefEqProofs [g2,hne]
 ·obtain rfl:a=b:=LB (by omega) hl hp
  simp -implicitDefEqProofs [hjn]
theorem At5 (D:Dn) (hE:FK (D Ke)):Tz (Body D QC):=by
 intro a b ha hb
 by_cases g1:a.tag=b.tag
 rotate_left
 ·have hne:a≠b:=fun h=>g1 (by simp[h])
  simp -implicitDefEqProofs [g1,hne]
 simp -implicitDefEqProofs [g1]
 refine Aa (hE a.body b.body (by unfold maxLen;omega) (by unfold maxLen;omega)) ?_
 by_cases g2:a.body=b.body
 ·have e:=ext_eq g1 g2
  simp -implicitDefEqProofs [g2,e]
 ·have hne:a≠b:=fun h=>g2 (by simp[h])
  simp -implicitDefEqProofs [g2,hne]
abbrev UZ (D:Dn) (R:Rel):Prop:=∀(a b:List Ext) (g:Nat),SY a→SY b→Tz (D g)→R [.sl 1 2 a.length (a.flatMap BD),.sl 1 2 b.length (b.flatMap BD),.fn g []] [] (B (decide (a=b))) []
theorem Aql (D:Dn):UZ D (Body D BA):=by
 intro a b g ha hb hg
 have h1:=ha.1
 have h2:=hb.1
 by_cases hl:a.length=b.length
 rotate_left
 ·have hl':¬(a.length:Int)=b.length:=by omega
  have:a≠b:=fun h=>hl (by rw[h])
  simp -implicitDefEqProofs [hl',this]
 have hl':(a.length:Int)=b.length:=by omega
 simp -implicitDefEqProofs [hl']
 refine Af (fun k s=>∃j o0 o1,j+k=a.length∧a.take j=b.take j∧s=⟨[.undef,.sl 1 2 b.length (b.flatMap BD),.fn g [],.undef,.undef,.undef,.undef,.undef,.sl 1 2 a.length (a.flatMap BD),I b.length,I j,.undef,.undef],[o0,o1]⟩) ?_ (a.length) _ ⟨0,.free,.free,by simp,by simp,by simp⟩
 intro k s ⟨j,o0,o1,hj,hp,hs⟩
 subst hs
 by_cases hjn:j<a.length
 ·have hw:IntKind.i64.wrap ((j:Int)+1)=(j+1:Nat):=by rw[Ab (by omega) (by omega)];simp
  have hy:j<b.length:=by omega
  simp -implicitDefEqProofs [hjn,hy,↓Qj Qi]
  refine Aa (hg a[j] b[j] (MF ha hjn) (MF hb hy)) ?_
  by_cases g2:a[j]=b[j]
  ·simp -implicitDefEqProofs [g2]
   exact⟨k-1,by omega,j+1,by omega,Ju hjn hy hp g2,by simp[hw]⟩
  ·have hne:a≠b:=fun h=>g2 (by simp[h])
   simp -implicitDefEqProofs [g2,hne]
 ·obtain rfl:a=b:=LB (by omega) hl hp
  simp -implicitDefEqProofs [hjn]
theorem Aoe (D:Dn) (h1:Tz (D Ahw)) (hE:UZ D (D E5)):P6 (Body D OC):=by
 intro a b ha hb
 simp -implicitDefEqProofs
 refine Aa (hE a b _ ha hb h1) ?_
 simp -implicitDefEqProofs
abbrev KZ (R:Rel):Prop:=∀a b:Hello,hB a→hB b→R [arg (CV a),arg (CV b)] [] (B (decide (a=b))) []
theorem Aib {a b:Hello} (h1:a.versions=b.versions) (h2:a.exts=b.exts):a=b:=by cases a;cases b;simp_all
theorem AiC (D:Dn) (hE:FK (D VA)) (hX:P6 (D VI)):KZ (Body D MN):=by
 intro a b ha hb
 simp -implicitDefEqProofs
 refine Aa (hE a.versions b.versions (by have:=ha.1;unfold maxLen;omega) (by have:=hb.1;unfold maxLen;omega)) ?_
 by_cases g1:a.versions=b.versions
 rotate_left
 ·have hne:a≠b:=fun h=>g1 (by simp[h])
  simp -implicitDefEqProofs [g1,hne]
 simp -implicitDefEqProofs [g1]
 refine Aa (hX a.exts b.exts ha.2 hb.2) ?_
 by_cases g2:a.exts=b.exts
 ·have e:=Aib g1 g2
  simp -implicitDefEqProofs [g2,e]
 ·have hne:a≠b:=fun h=>g2 (by simp[h])
  simp -implicitDefEqProofs [g2,hne]
theorem Ajx (D:Dn) (hE:FK (D Ke)) (hX:P6 (D Agm)):KZ (Body D LF):=by
 intro a b ha hb
 simp -implicitDefEqProofs
 refine Aa (hE a.versions b.versions (by have:=ha.1;unfold maxLen;omega) (by have:=hb.1;unfold maxLen;omega)) ?_
 by_cases g1:a.versions=b.versions
 rotate_left
 ·have hne:a≠b:=fun h=>g1 (by simp[h])
  simp -implicitDefEqProofs [g1,hne]
 simp -implicitDefEqProofs [g1]
 refine Aa (hX a.exts b.exts ha.2 hb.2) ?_
 by_cases g2:a.exts=b.exts
 ·have e:=Aib g1 g2
  simp -implicitDefEqProofs [g2,e]
 ·have hne:a≠b:=fun h=>g2 (by simp[h])
  simp -implicitDefEqProofs [g2,hne]
theorem Am7:∀ {path:List FI} {h:Hello},hB h→hB (Ho path h).1
 | [],h,hh=>hh
 | b::r,h,hh=>by
  unfold Ho
  split
  ·exact Am7 (An4 hh)
  ·exact AhW
theorem NW {path:List FI} {h:Hello} (hh:hB h):hB (Be path h).1:=by
 unfold Be
 split
 ·exact Am7 hh
 ·exact AhW
theorem AeH:∀ {path:List FI} {h:Hello},(Ho path h).2=true→(Ho path h).1.versions=h.versions
 | [],h,_=>rfl
 | b::r,h,hk=>by
  unfold Ho at hk⊢
  split at hk
  ·rename_i hb
   rw[if_pos hb,AeH hk]
   unfold Ca at hb⊢
   split at hb
   ·rename_i hc;rw[if_pos hc]
   ·cases hb
  ·cases hk
theorem Alk {path:List FI} {h:Hello} (hk:(Be path h).2=true):(Be path h).1.versions=h.versions:=by
 unfold Be at hk⊢
 split at hk
 ·rename_i hc;rw[if_pos hc];exact AeH hk
 ·cases hk
def Dw (h:Hello) (path:List FI):Bool:=(Be path h).2&&decide ((Be path h).1=h)
abbrev FN (R:Rel):Prop:=∀(h:Hello) (path:List FI),hB h→lnS Ih path→R [arg (CV h),.sl 1 4 path.length (path.flatMap Cn)] [] (B (Dw h path)) []
theorem Ai0 (D:Dn) (hP:Fv (D Lj)) (hQ:KZ (D Abc)):FN (Body D ML):=by
 intro h path hh hb
 simp -implicitDefEqProofs
 refine Aa (hP path h hb hh) ?_
 have hr:=NW (path:=path) hh
 have e:Dw h path=((Be path h).2&&decide ((Be path h).1=h)):=rfl
 generalize Be path h=r at hr e
 by_cases g1:r.2=true
 rotate_left
 ·simp -implicitDefEqProofs [g1,e]
 simp -implicitDefEqProofs [g1]
 refine Aa (hQ r.1 h hr hh) ?_
 simp -implicitDefEqProofs [e,g1]
theorem AjP (D:Dn) (hP:Fv (D LZ)) (hQ:KZ (D AbM)):FN (Body D LH):=by
 intro h path hh hb
 simp -implicitDefEqProofs
 refine Aa (hP path h hb hh) ?_
 have hr:=NW (path:=path) hh
 have e:Dw h path=((Be path h).2&&decide ((Be path h).1=h)):=rfl
 generalize Be path h=r at hr e
 by_cases g1:r.2=true
 rotate_left
 ·simp -implicitDefEqProofs [g1,e]
 simp -implicitDefEqProofs [g1]
 refine Aa (hQ r.1 h hr hh) ?_
 simp -implicitDefEqProofs [e,g1]
end Go.Eng.T
namespace Go.Eng.T
set_option maxRecDepth 20000
set_option maxHeartbeats 1000000
def H9 (path:List FI) (vs:List Int) (x:Ext):Bool:= !Dw ⟨vs.take 1,[x]⟩ path
def ET (path:List FI) (vs:List Int) (l:List Ext):List Int:=if EC l&&isOpen path vs then Ar (l.filter (H9 path vs))else []
abbrev Ld (R:Rel):Prop:=∀(path:List FI) (vs:List Int) (l:List Ext),lnS Ih path→vs.length≤4194304→SY l→R [.sl 1 4 path.length (path.flatMap Cn),.sl 1 1 vs.length (ints vs),.sl 1 2 l.length (l.flatMap BD)] [] (.sl 0 1 (ET path vs l).length (ints (ET path vs l))) []
theorem Aqr {path:List FI} {vs:List Int} (h:isOpen path vs=true):0<vs.length:=by
 unfold isOpen at h
 simp only[Bool.and_eq_true]at h
 exact Xb h.1
theorem AjR {p:Ext→Bool} {l:List Ext} {j:Nat} (h:j<l.length):Ar ((l.take (j+1)).filter p)=Ar ((l.take j).filter p)++(if p l[j]then [l[j].tag]else []):=by
 rw[Aiq h]
 unfold Ar
 rw[List.map_append]
 split<;>simp
theorem AmN {p:Ext→Bool} {l:List Ext} {j:Nat}:(Ar ((l.take j).filter p)).length≤j:=by
 unfold Ar
 rw[List.length_map]
 exact Amw
theorem AtU {path:List FI} {vs:List Int} {x:Ext}:H9 path vs x= !((Be path ⟨vs.take 1,[x]⟩).2&&decide ((Be path ⟨vs.take 1,[x]⟩).1.exts=[x])):=by
 unfold H9 Dw
 by_cases h:(Be path ⟨vs.take 1,[x]⟩).2=true
 ·have hv:=Alk h
  have e:decide ((Be path ⟨vs.take 1,[x]⟩).1=⟨vs.take 1,[x]⟩)=decide ((Be path ⟨vs.take 1,[x]⟩).1.exts=[x]):=by
   rw[decide_eq_decide]
   constructor
   ·intro h1;rw[h1]
   ·intro h1;exact Aib hv h1
  rw[e]
 ·simp[h]
theorem Aq2 (D:Dn) (hA:FE (D Kk)) (hO:Gq (D TU)) (hH:FR (D Uc)) (hP:Fv (D Lj)) (hX:P6 (D VI)):Ld (Body D Rm):=by
 intro path vs l hb hv hl
 have hll:=hl.1
 simp -implicitDefEqProofs
 refine Aa (hA l hl) ?_
 by_cases h1:EC l=true
 rotate_left
 ·simp -implicitDefEqProofs [h1,ET]
 simp -implicitDefEqProofs [h1]
 refine Aa (hO path vs hb hv) ?_
 by_cases h2:isOpen path vs=true
 rotate_left
 ·simp -implicitDefEqProofs [h2,h1,ET]
 have e:ET path vs l=Ar (l.filter (H9 path vs)):=by unfold ET;rw[h1,h2];rfl
 have hpos:=Aqr h2
 have h1l:(1:Int)≤vs.length:=by omega
 have h1n:1≤vs.length:=by omega
 have hlen:(vs.take 1).length=1:=by simp;omega
 have hmin:min 1 vs.length=1:=by omega
 rw[e]
 simp -implicitDefEqProofs [h2]
 refine Af (fun k s=>∃j o1 o2 o3 o4 o5 o6 o7 o8,j+k=l.length∧s=⟨[.sl 1 4 path.length (path.flatMap Cn),.sl 1 1 vs.length (ints vs),.sl 1 2 l.length (l.flatMap BD),.undef,.arr 9,I j,.undef,.undef,.undef,.undef,.undef,.undef],[.free,o1,o2,o3,o4,o5,o6,o7,o8,.arr 1 0 (Ar ((l.take j).filter (H9 path vs))).length (ints (Ar ((l.take j).filter (H9 path vs))))]⟩) ?_ (l.length) _ ⟨0,.free,.free,.free,.free,.free,.free,.free,.free,by simp,by simp[Ar,ints]⟩
 intro k s ⟨j,o1,o2,o3,o4,o5,o6,o7,o8,hj,hs⟩
 subst hs
 by_cases hjn:j<l.length
 ·have hw:IntKind.i64.wrap ((j:Int)+1)=(j+1:Nat):=by rw[Ab (by omega) (by omega)];simp
  have hst:=AjR (p:=H9 path vs) hjn
  have hfl:=AmN (p:=H9 path vs) (l:=l) (j:=j)
  have hb1:((Ar ((l.take j).filter (H9 path vs))).length+1)*8≤1099511627776:=by omega
  have hw1:IntKind.i64.wrap ((j:Int)+1)=(j:Int)+1:=Ab (by omega) (by omega)
  have hj1:j+1≤l.length:=by omega
  have hj2:(j:Int)+1≤l.length:=by omega
  have hjj:(j:Int)≤(j:Int)+1:=by omega
  have h11:j+1-j=1:=by omega
  simp -implicitDefEqProofs [hjn,h1l,h1n]
  have hh:=hH (vs.take 1) (by omega)
  rw[hlen]at hh
  refine Aa (hh) ?_
  have hdt:(l.drop j).take 1=[l[j]]:=by rw[List.drop_eq_getElem_cons hjn];rfl
  simp -implicitDefEqProofs [hmin,hw1,hj1,hj2,hjj,h11,hdt]
  have hhB:hB ⟨vs.take 1,[l[j]]⟩:=⟨by simp;omega,by simp,by intro x hx;simp at hx;subst hx;exact MF hl hjn⟩
  have hp:=hP path ⟨vs.take 1,[l[j]]⟩ hb hhB
  have hr:=NW (path:=path) hhB
  have hq:=AtU (path:=path) (vs:=vs) (x:=l[j])
  simp -implicitDefEqProofs [hmin,arg]at hp
  refine Aa (hp) ?_
  generalize Be path ⟨vs.take 1,[l[j]]⟩=r at hr hq
  by_cases g1:r.2=true
  rotate_left
  ·have h3:H9 path vs l[j]=true:=by rw[hq];simp[g1]
   rw[if_pos h3]at hst
   simp -implicitDefEqProofs [g1,hjn,hb1]
   exact⟨k-1,by omega,j+1,by omega,by simp[hw],by rw[hst];simp,by rw[hst]⟩
  simp -implicitDefEqProofs [g1]
  have hx:=hX r.1.exts [l[j]] hr.2 hhB.2
  simp -implicitDefEqProofs [arg]at hx
  refine Aa (hx) ?_
  by_cases g2:r.1.exts=[l[j]]
  ·have h3:¬H9 path vs l[j]=true:=by rw[hq];simp[g1,g2]
   rw[if_neg h3,List.append_nil]at hst
   simp -implicitDefEqProofs [g2]
   exact⟨k-1,by omega,j+1,by omega,by simp[hw],by rw[hst],by rw[hst]⟩
  ·have h3:H9 path vs l[j]=true:=by rw[hq];simp[g2]
   rw[if_pos h3]at hst
   simp -implicitDefEqProofs [g2,hjn,hb1]
   exact⟨k-1,by omega,j+1,by omega,by simp[hw],by rw[hst];simp,by rw[hst]⟩
 ·have e2:(l.take j).filter (H9 path vs)=l.filter (H9 path vs):=Ad6 (by omega)
  simp -implicitDefEqProofs [hjn,e2]
theorem ArJ (D:Dn) (hA:FE (D Ki)) (hO:Gq (D AcW)) (hP:FN (D RU)):Ld (Body D Rf):=by
 intro path vs l hb hv hl
 have hll:=hl.1
 simp -implicitDefEqProofs
 refine Aa (hO path vs hb hv) ?_
 by_cases h2:isOpen path vs=true
 rotate_left
 ·simp -implicitDefEqProofs [h2,ET]
 simp -implicitDefEqProofs [h2]
 refine Aa (hA l hl) ?_
 by_cases h1:EC l=true
 rotate_left
 ·simp -implicitDefEqProofs [h1,ET]
 have e:ET path vs l=Ar (l.filter (H9 path vs)):=by unfold ET;rw[h1,h2];rfl
 have hpos:=Aqr h2
 have h1l:(1:Int)≤vs.length:=by omega
 have h1n:1≤vs.length:=by omega
 have hlen:(vs.take 1).length=1:=by simp;omega
 have hmin:min 1 vs.length=1:=by omega
 rw[e]
 simp -implicitDefEqProofs [h1]
 refine Af (fun k s=>∃j v5 o1 o2 o3 o4,j+k=l.length∧s=⟨[.sl 1 4 path.length (path.flatMap Cn),.sl 1 1 vs.length (ints vs),.undef,.undef,.arr 5,v5,.undef,.sl 1 2 l.length (l.flatMap BD),I l.length,I j,.undef,.undef],[.free,o1,o2,o3,o4,.arr 1 0 (Ar ((l.take j).filter (H9 path vs))).length (ints (Ar ((l.take j).filter (H9 path vs))))]⟩) ?_ (l.length) _ ⟨0,.undef,.free,.free,.free,.free,by simp,by simp[Ar,ints]⟩
 intro k s ⟨j,v5,o1,o2,o3,o4,hj,hs⟩
 subst hs
 by_cases hjn:j<l.length
 ·have hw:IntKind.i64.wrap ((j:Int)+1)=(j+1:Nat):=by rw[Ab (by omega) (by omega)];simp
  have hst:=AjR (p:=H9 path vs) hjn
  have hfl:=AmN (p:=H9 path vs) (l:=l) (j:=j)
  have hb1:((Ar ((l.take j).filter (H9 path vs))).length+1)*8≤1099511627776:=by omega
  have hhB:hB ⟨vs.take 1,[l[j]]⟩:=⟨by simp;omega,by simp,by intro x hx;simp at hx;subst hx;exact MF hl hjn⟩
  simp -implicitDefEqProofs [hjn,h1l,h1n]
  have hp:=hP ⟨vs.take 1,[l[j]]⟩ path hhB hb
  have hq:H9 path vs l[j]= !Dw ⟨vs.take 1,[l[j]]⟩ path:=rfl
  simp -implicitDefEqProofs [hmin,arg]at hp
  refine Aa (hp) ?_
  generalize Dw ⟨vs.take 1,[l[j]]⟩ path=r at hq
  by_cases g1:r=true
  ·have h3:¬H9 path vs l[j]=true:=by rw[hq,g1];simp
   rw[if_neg h3,List.append_nil]at hst
   simp -implicitDefEqProofs [g1]
   exact⟨k-1,by omega,j+1,by omega,by simp[hw],by rw[hst],by rw[hst]⟩
  ·have h3:H9 path vs l[j]=true:=by rw[hq];simpa using g1
   rw[if_pos h3]at hst
   simp -implicitDefEqProofs [g1,hjn,hb1]
   exact⟨k-1,by omega,j+1,by omega,by simp[hw],by rw[hst];simp,by rw[hst]⟩
 ·have e2:(l.take j).filter (H9 path vs)=l.filter (H9 path vs):=Ad6 (by omega)
  simp -implicitDefEqProofs [hjn,e2]
end Go.Eng.T
namespace Go.Eng.T
set_option maxRecDepth 20000
set_option maxHeartbeats 1000000
theorem KQ (a b:List Int):(leftOf a b).length≤a.length:=List.length_filter_le _ _
def E8 (h:Hello) (lv lt:List Int):Hello×Bool:=if CP h&& !decide (leftOf h.versions lv=[])then(⟨leftOf h.versions lv,kept (fun t=> !decide (t∈lt)) h.exts⟩,true)else(AZ,false)
abbrev IY (R:Rel):Prop:=∀(h:Hello) (lv lt:List Int),hB h→lv.length≤4194304→lt.length≤4194304→R [arg (CV h),.sl 1 1 lv.length (ints lv),.sl 1 1 lt.length (ints lt)] [] (.tup [.agg (CV (E8 h lv lt).1),B (E8 h lv lt).2]) []
theorem Aph (D:Dn) (hI:Eh (D FP)) (hH:QA (D IZ)):IY (Body D OQ):=by
 intro h lv lt hh hv ht
 have hvl:=hh.1
 have hxl:=hh.2.1
 simp -implicitDefEqProofs
 refine Aa (hI h hh) ?_
 by_cases h1:CP h=true
 rotate_left
 ·simp -implicitDefEqProofs [h1,E8,AZ]
 have e1:leftOf h.versions lv=h.versions.filter (fun v=> !decide (v∈lv)):=rfl
 unfold E8
 rw[h1,e1]
 generalize hp:(fun v=> !decide (v∈lv))=p
 generalize hq:(fun t=> !decide (t∈lt))=q
 obtain⟨vs,hvs⟩:∃vs,vs=h.versions.filter p:=⟨_,rfl⟩
 rw[←hvs]
 simp -implicitDefEqProofs [h1]
 refine Af (fun k s=>∃j o3 o4,j+k=h.versions.length∧s=⟨[.undef,.sl 1 1 lv.length (ints lv),.sl 1 1 lt.length (ints lt),.ptr 0 0,.ptr 1 0,.undef,.ptr 2 0,I j,.undef,.undef,.undef,.undef,.undef,.undef,.undef],[.var ((CV h).map (Bc 1)),.var [.nil 1,.nil 2],.var [.arr 9,.arr 10],o3,o4,.free,.free,.free,.free,.arr 1 0 ((h.versions.take j).filter p).length (ints ((h.versions.take j).filter p)),.arr 2 0 0 []]⟩) ?_ (h.versions.length) _ ⟨0,.free,.free,by simp,by simp⟩
 intro k s ⟨j,o3,o4,hj,hs⟩
 subst hs
 by_cases hjn:j<h.versions.length
 ·have hw:IntKind.i64.wrap ((j:Int)+1)=(j+1:Nat):=by rw[Ab (by omega) (by omega)];simp
  have hst:=KY (p:=p) hjn
  have hfl:=Om (p:=p) (xs:=h.versions) (j:=j)
  have hb1:(((h.versions.take j).filter p).length+1)*8≤1099511627776:=by omega
  have hpv:p h.versions[j]= !decide (h.versions[j]∈lv):=by rw[←hp]
  simp -implicitDefEqProofs [hjn]
  refine Aa (hH lv h.versions[j] (by unfold maxLen;omega)) ?_
  by_cases h2:h.versions[j]∈lv
  ·have h3:¬p h.versions[j]=true:=by rw[hpv];simpa using h2
   rw[if_neg h3,List.append_nil]at hst
   simp -implicitDefEqProofs [h2]
   exact⟨k-1,by omega,j+1,by omega,by simp[hw],by rw[hst],by rw[hst]⟩
  ·have h3:p h.versions[j]=true:=by rw[hpv];simpa using h2
   rw[if_pos h3]at hst
   simp -implicitDefEqProofs [h2,hjn,hb1]
   exact⟨k-1,by omega,j+1,by omega,by simp[hw],by rw[hst];simp,by rw[hst]⟩
 have e2:=Ma (p:=p) (xs:=h.versions) (j:=j) (by omega)
 rw[←hvs]at e2
 simp -implicitDefEqProofs [hjn,e2]
 refine Af (fun k s=>∃j o3 o4 o5 o6 o7 o8,j+k=h.exts.length∧s=⟨[.undef,.undef,.sl 1 1 lt.length (ints lt),.ptr 0 0,.ptr 1 0,.undef,.ptr 2 0,.undef,I j,.undef,.undef,.undef,.undef,.undef,.undef],[.var ((CV h).map (Bc 1)),.var [.nil 1,.nil 2],.var [.arr 9,.arr 10],o3,o4,o5,o6,o7,o8,.arr 1 0 vs.length (ints vs),.arr 2 0 (kept q (h.exts.take j)).length ((kept q (h.exts.take j)).flatMap BD)]⟩) ?_ (h.exts.length) _ ⟨0,o3,o4,.free,.free,.free,.free,by simp,by simp[kept]⟩
 intro k s ⟨j,o3,o4,o5,o6,o7,o8,hj,hs⟩
 subst hs
 by_cases hjn:j<h.exts.length
 ·have hw:IntKind.i64.wrap ((j:Int)+1)=(j+1:Nat):=by rw[Ab (by omega) (by omega)];simp
  have hb:=MF hh.2 hjn
  have hb1:h.exts[j].body.length*8≤1099511627776:=by omega
  have hkl:=Ug (p:=q) (l:=h.exts) (j:=j)
  have hb2:((kept q (h.exts.take j)).length+1)*32≤1099511627776:=by omega
  have hpv:q h.exts[j].tag= !decide (h.exts[j].tag∈lt):=by rw[←hq]
  simp -implicitDefEqProofs [hjn]
  refine Aa (hH lt h.exts[j].tag (by unfold maxLen;omega)) ?_
  by_cases h2:h.exts[j].tag∈lt
  ·have h3:¬q h.exts[j].tag=true:=by rw[hpv];simpa using h2
   have hst:=Xt (p:=q) hjn
   rw[if_neg h3,List.append_nil]at hst
   simp -implicitDefEqProofs [h2]
   exact⟨k-1,by omega,j+1,by omega,by simp[hw],by rw[hst],by rw[hst]⟩
  ·have h3:q h.exts[j].tag=true:=by rw[hpv];simpa using h2
   have hst:=Qk hjn h3
   have hsl:=Io hjn h3
   simp -implicitDefEqProofs [h2,hjn,hb1,hb2]
   exact⟨k-1,by omega,j+1,by omega,by simp[hw],by rw[←hsl],by rw[←hst]⟩
 have e3:=TG (p:=q) (l:=h.exts) (j:=j) (by omega)
 by_cases g:vs=[]
 ·simp -implicitDefEqProofs [hjn,e3,g,AZ]
 ·have g':¬(vs.length:Int)=0:=by
   intro h0
   exact g (List.eq_nil_of_length_eq_zero (by omega))
  simp -implicitDefEqProofs [hjn,e3,g',g]
abbrev RQ (R:Rel):Prop:=∀(t:Int) (tags:List Int),tags.length≤maxLen→R [I t,.rptr 1 [.sl 0 1 tags.length (ints tags)] 0] [] (B (!decide (t∈tags))) []
theorem AnB (D:Dn) (hH:QA (D Bv)):RQ (Body D Lr):=by
 intro t tags hl
 simp -implicitDefEqProofs
 refine Aa (hH tags t hl) ?_
 simp -implicitDefEqProofs
theorem AoR (D:Dn) (hI:Eh (D GA)) (hL:VH (D NT)) (h1:RQ (D RX)) (hK:K8 D (D IQ)):IY (Body D Pj):=by
 intro h lv lt hh hv ht
 simp -implicitDefEqProofs
 refine Aa (hL h.versions lv hh.1 hv) ?_
 have hll:=KQ h.versions lv
 unfold E8
 generalize leftOf h.versions lv=vs at hll
 simp -implicitDefEqProofs
 refine Aa (hI h hh) ?_
 by_cases g1:CP h=true
 rotate_left
 ·simp -implicitDefEqProofs [g1,AZ]
 by_cases g:vs=[]
 ·simp -implicitDefEqProofs [g1,g,AZ]
 have g':¬(vs.length:Int)=0:=by
  intro h0
  exact g (List.eq_nil_of_length_eq_zero (by omega))
 simp -implicitDefEqProofs [g1,g',g]
 refine Aa (hK h.exts RX _ (fun t=> !decide (t∈lt)) hh.2 (Aji Gp) (Aap Qi) (fun t=>h1 t lt (by unfold maxLen;omega))) ?_
 simp -implicitDefEqProofs
def fallback (h:Hello) (path:List FI):Hello×Bool:=E8 h (Bt path h.versions) (ET path (leftOf h.versions (Bt path h.versions)) h.exts)
abbrev K3 (R:Rel):Prop:=∀(h:Hello) (path:List FI),hB h→lnS Ih path→R [arg (CV h),.sl 1 4 path.length (path.flatMap Cn)] [] (.tup [.agg (CV (fallback h path).1),B (fallback h path).2]) []
theorem Abp (path:List FI) (vs:List Int) (l:List Ext):(ET path vs l).length≤l.length:=by
 unfold ET Ar
 split
 ·rw[List.length_map];exact List.length_filter_le _ _
 ·simp
theorem AqE (D:Dn) (hI:Eh (D FP)) (hLV:FQ (D ZE)) (hL:VH (D YP)) (hT:Ld (D Ajv)) (hP:IY (D AfL)):K3 (Body D JW):=by
 intro h path hh hb
 simp -implicitDefEqProofs
 refine Aa (hI h hh) ?_
 by_cases g1:CP h=true
 rotate_left
 ·have e:fallback h path=(AZ,false):=by unfold fallback E8;simp[g1]
  simp -implicitDefEqProofs [g1,e,AZ]
 have hvl:=hh.1
 have hxl:=hh.2.1
 simp -implicitDefEqProofs [g1]
 refine Aa (hLV path h.versions hb hh.1) ?_
 have hll:=Ap0 path h.versions
 have e:fallback h path=E8 h (Bt path h.versions) (ET path (leftOf h.versions (Bt path h.versions)) h.exts):=rfl
 rw[e]
 generalize Bt path h.versions=lv at hll
 simp -implicitDefEqProofs
 refine Aa (hL h.versions lv hh.1 (by omega)) ?_
 have hl2:=KQ h.versions lv
 generalize leftOf h.versions lv=vs at hl2
 simp -implicitDefEqProofs
 refine Aa (hT path vs h.exts hb (by omega) hh.2) ?_
 have hl3:=Abp path vs h.exts
 generalize ET path vs h.exts=lt at hl3
 simp -implicitDefEqProofs
 refine Aa (hP h lv lt hh (by omega) (by omega)) ?_
 generalize E8 h lv lt=r
 simp -implicitDefEqProofs
theorem ArX (D:Dn) (hLV:FQ (D Aai)) (hL:VH (D NT)) (hT:Ld (D Ajs)) (hP:IY (D Agq)):K3 (Body D JM):=by
 intro h path hh hb
 have hvl:=hh.1
 have hxl:=hh.2.1
 simp -implicitDefEqProofs [hvl]
 refine Aa (hLV path h.versions hb hh.1) ?_
 have hll:=Ap0 path h.versions
 have e:fallback h path=E8 h (Bt path h.versions) (ET path (leftOf h.versions (Bt path h.versions)) h.exts):=rfl
 rw[e]
 generalize Bt path h.versions=lv at hll
 simp -implicitDefEqProofs
 refine Aa (hL h.versions lv hh.1 (by omega)) ?_
 have hl2:=KQ h.versions lv
 generalize leftOf h.versions lv=vs at hl2
 simp -implicitDefEqProofs
 refine Aa (hT path vs h.exts hb (by omega) hh.2) ?_
 have hl3:=Abp path vs h.exts
 generalize ET path vs h.exts=lt at hl3
 simp -implicitDefEqProofs
 refine Aa (hP h lv lt hh (by omega) (by omega)) ?_
 generalize E8 h lv lt=r
 simp -implicitDefEqProofs
theorem ABY {h:Hello} {lv lt:List Int} (hh:hB h):hB (E8 h lv lt).1:=by
 unfold E8
 split
 ·exact⟨Nat.le_trans (KQ _ _) hh.1,TW hh.2 (fun t=> !decide (t∈lt))⟩
 ·exact AhW
theorem AnE {h:Hello} {path:List FI} (hh:hB h):hB (fallback h path).1:=ABY hh
def Cv (h:Hello) (path:List FI):Hello×Int×Bool:=
 if CP h=true then(if Dw h path=true then(h,1,true)else if(fallback h path).2&&Dw (fallback h path).1 path then((fallback h path).1,2,true)else(AZ,2,false))else(AZ,0,false)
abbrev Lb (R:Rel):Prop:=∀(h:Hello) (path:List FI),hB h→lnS Ih path→R [arg (CV h),.sl 1 4 path.length (path.flatMap Cn)] [] (.tup [.agg (CV (Cv h path).1),I (Cv h path).2.1,B (Cv h path).2.2]) []
theorem Arq (D:Dn) (hI:Eh (D FP)) (hW:FN (D Aci)) (hC:J8 (D V5)) (hF:K3 (D XV)):Lb (Body D Rl):=by
 intro h path hh hb
 simp -implicitDefEqProofs
 refine Aa (hI h hh) ?_
 by_cases g1:CP h=true
 rotate_left
 ·simp -implicitDefEqProofs [g1,Cv,AZ]
 simp -implicitDefEqProofs [g1]
 refine Aa (hW h path hh hb) ?_
 by_cases g2:Dw h path=true
 ·simp -implicitDefEqProofs [g2]
  refine Aa (hC h hh) ?_
  simp -implicitDefEqProofs [Cv,g1,g2]
 simp -implicitDefEqProofs [g2]
 refine Aa (hF h path hh hb) ?_
 have hr:=AnE (path:=path) hh
 have e:Cv h path=(if(fallback h path).2&&Dw (fallback h path).1 path then((fallback h path).1,2,true)else(AZ,2,false)):=by unfold Cv;rw[if_pos g1,if_neg g2]
 rw[e]
 generalize fallback h path=r at hr
 by_cases g3:r.2=true
 rotate_left
 ·simp -implicitDefEqProofs [g3,AZ]
 simp -implicitDefEqProofs [g3]
 refine Aa (hW r.1 path hr hb) ?_
 by_cases g4:Dw r.1 path=true
 ·simp -implicitDefEqProofs [g3,g4]
 ·simp -implicitDefEqProofs [g3,g4,AZ]
theorem Arh (D:Dn) (hI:Eh (D GA)) (hW:FN (D RU)) (hC:J8 (D VF)) (hF:K3 (D Yg)):Lb (Body D QX):=by
 intro h path hh hb
 simp -implicitDefEqProofs
 refine Aa (hI h hh) ?_
 by_cases g1:CP h=true
 rotate_left
 ·simp -implicitDefEqProofs [g1,Cv,AZ]
 simp -implicitDefEqProofs [g1]
 refine Aa (hW h path hh hb) ?_
 by_cases g2:Dw h path=true
 ·simp -implicitDefEqProofs [g2]
  refine Aa (hC h hh) ?_
  simp -implicitDefEqProofs [Cv,g1,g2]
 simp -implicitDefEqProofs [g2]
 refine Aa (hF h path hh hb) ?_
 have hr:=AnE (path:=path) hh
 have e:Cv h path=(if(fallback h path).2&&Dw (fallback h path).1 path then((fallback h path).1,2,true)else(AZ,2,false)):=by unfold Cv;rw[if_pos g1,if_neg g2]
 rw[e]
 generalize fallback h path=r at hr
 by_cases g3:r.2=true
 rotate_left
 ·simp -implicitDefEqProofs [g3,AZ]
 simp -implicitDefEqProofs [g3]
 refine Aa (hW r.1 path hr hb) ?_
 by_cases g4:Dw r.1 path=true
 ·simp -implicitDefEqProofs [g3,g4]
 ·simp -implicitDefEqProofs [g3,g4,AZ]
theorem AuX {h:Hello} {path:List FI} (hh:hB h):hB (Cv h path).1:=by
 unfold Cv
 split
 ·split
  ·exact hh
  ·split
   ·exact AnE hh
   ·exact AhW
 ·exact AhW
end Go.Eng.T
namespace Go.Eng.T
set_option maxRecDepth 20000
set_option maxHeartbeats 2000000
open Go.Lib (compact compactUpTo keeps)
abbrev Up (l:List Int):Prop:=l.Pairwise (· < ·)
theorem AEc:∀ {a b:List Int},Up a→Up b→(∀x,x∈a↔x∈b)→a=b
 | [],[],_,_,_=>rfl
 | [],y::b,_,_,h=>by have:=(h y).2 (by simp);simp at this
 | x::a,[],_,_,h=>by have:=(h x).1 (by simp);simp at this
 | x::a,y::b,ha,hb,h=>by
  rw[Up,List.pairwise_cons]at ha hb
  have hxy:x=y:=by
   have h1:=(h x).1 (by simp)
   have h2:=(h y).2 (by simp)
   rcases List.mem_cons.1 h1 with e | h1
   ·exact e
   ·rcases List.mem_cons.1 h2 with e | h2
    ·exact e.symm
    ·have:=hb.1 x h1;have:=ha.1 y h2;omega
  subst hxy
  congr 1
  refine AEc ha.2 hb.2 fun z=>⟨fun hz=> ?_,fun hz=> ?_⟩
  ·rcases List.mem_cons.1 ((h z).1 (by simp[hz]))with e | h1
   ·subst e;have:=ha.1 z hz;omega
   ·exact h1
  ·rcases List.mem_cons.1 ((h z).2 (by simp[hz]))with e | h1
   ·subst e;have:=hb.1 z hz;omega
   ·exact h1
theorem AAb:∀(l:List Int) (v x:Int),x∈Ak0 l v↔x∈l∨x=v:=by
 intro l v x
 unfold Ak0
 split
 ·rename_i h
  constructor
  ·exact .inl
  ·rintro (h1 | rfl)
   ·exact h1
   ·exact List.mem_of_getElem? h
 ·unfold AzP
  rw[List.mem_append,List.mem_cons]
  have:x∈l↔x∈l.take (JJ l v)∨x∈l.drop (JJ l v):=by
   conv=>lhs;rw[←List.take_append_drop (JJ l v) l,List.mem_append]
  rw[this]
  constructor
  ·rintro (h1 | h1 | h1)
   ·exact .inl (.inl h1)
   ·exact .inr h1
   ·exact .inl (.inr h1)
  ·rintro ((h1 | h1) | h1)
   ·exact .inl h1
   ·exact .inr (.inr h1)
   ·exact .inr (.inl h1)
theorem AeF:∀(l:List Int) (v x:Int),x∈l.take (JJ l v)→x<v
 | [],v,x,h=>by simp at h
 | y::r,v,x,h=>by
  simp only[JJ]at h
  split at h
  ·rw[List.take_succ_cons]at h
   rcases List.mem_cons.1 h with rfl | h
   ·assumption
   ·exact AeF r v x h
  ·simp at h
theorem ACc:∀ {l:List Int} (v:Int),Up l→Up (Ak0 l v):=by
 intro l v hl
 unfold Ak0
 split
 ·exact hl
 ·rename_i hne
  unfold AzP Up
  rw[List.pairwise_append,List.pairwise_cons]
  have hb:=AeF l v
  have hafter:∀y,y∈l.drop (JJ l v)→v<y:=by
   intro y hy
   by_cases hk:JJ l v<l.length
   ·have hs:=AwZ (l:=l) (v:=v) hk (by
     intro hlt
     have key:∀(l:List Int) (h:JJ l v<l.length),¬l[JJ l v]<v:=by
      intro l
      induction l with
      | nil=>intro h;simp at h
      | cons x r ih=>
       intro h
       by_cases hx:x<v
       ·have e:JJ (x::r) v=JJ r v+1:=by simp[JJ,hx]
        have h':JJ r v<r.length:=by rw[e]at h;simpa using h
        have:=ih h'
        simp only[e,List.getElem_cons_succ]
        exact this
       ·have e:JJ (x::r) v=0:=by simp[JJ,hx]
        simp only[e,List.getElem_cons_zero]
        exact hx
     exact key l hk hlt)
    have key:∀(l:List Int) (h:JJ l v<l.length),¬l[JJ l v]<v:=by
     intro l
     induction l with
     | nil=>intro h;simp at h
     | cons x r ih=>
      intro h
      by_cases hx:x<v
      ·have e:JJ (x::r) v=JJ r v+1:=by simp[JJ,hx]
       have h':JJ r v<r.length:=by rw[e]at h;simpa using h
       have:=ih h'
       simp only[e,List.getElem_cons_succ]
       exact this
      ·have e:JJ (x::r) v=0:=by simp[JJ,hx]
       simp only[e,List.getElem_cons_zero]
       exact hx
    have h1:=key l hk
    have h2:l[JJ l v]≠v:=by
     intro e;apply hne;rw[List.getElem?_eq_getElem hk,e]
    rw[List.drop_eq_getElem_cons hk]at hy
    have hp:(l[JJ l v]::l.drop (JJ l v+1)).Pairwise (· < ·):=by rw[←List.drop_eq_getElem_cons hk];exact hl.drop
    rw[List.pairwise_cons]at hp
    rcases List.mem_cons.1 hy with rfl | hy
    ·omega
    ·have:=hp.1 y hy;omega
   ·rw[List.drop_eq_nil_of_le (by omega)]at hy;simp at hy
  refine⟨hl.take,⟨hafter,hl.drop⟩,fun a ha b hb'=> ?_⟩
  have h1:=hb a ha
  rcases List.mem_cons.1 hb' with rfl | hb'
  ·exact h1
  ·have:=hafter b hb';omega
def YZ (l:List Int) (xs:List Int):List Int:=xs.foldl Ak0 l
theorem Axr:∀ {xs l:List Int},Up l→Up (YZ l xs)
 | [],_,h=>h
 | x::xs,l,h=>Axr (xs:=xs) (ACc x h)
theorem AsT:∀(xs l:List Int) (x:Int),x∈YZ l xs↔x∈l∨x∈xs
 | [],l,x=>by simp[YZ]
 | y::xs,l,x=>by
  have:=AsT xs (Ak0 l y) x
  unfold YZ at *
  rw[List.foldl_cons,this,AAb,List.mem_cons]
  constructor
  ·rintro ((h | h) | h)
   ·exact .inl h
   ·exact .inr (.inl h)
   ·exact .inr (.inr h)
  ·rintro (h | h | h)
   ·exact .inl (.inl h)
   ·exact .inl (.inr h)
   ·exact .inr h
theorem Auz:∀(xs l:List Int),(YZ l xs).length≤l.length+xs.length
 | [],l=>by simp[YZ]
 | x::xs,l=>by
  have h1:=Auz xs (Ak0 l x)
  have h2:=AzZ l x
  unfold YZ at *
  simp only[List.foldl_cons,List.length_cons]
  omega
def AEp (r:Ej) (i:Nat):Ej:=⟨r.version,r.stages,i,r.off⟩
def AEA (r:Ej) (n:Int):Nat→Int
 | 0=>0
 | k+1=>max (AEA r n k) (countIn (AEp r k) n)
end Go.Eng.T
namespace Go.Eng.T
set_option maxRecDepth 20000
end Go.Eng.T
namespace Go.Eng.T
set_option maxRecDepth 20000
set_option maxHeartbeats 2000000
theorem up9:∀ {l:List Int} {a:Int},Up l→(∀x,x∈l→a<x∧x≤9)→(l.length:Int)≤9-a∨l=[]
 | [],_,_,_=> .inr rfl
 | x::r,a,h,hb=>by
  rw[Up,List.pairwise_cons]at h
  have h0:=hb x (by simp)
  have:=up9 (l:=r) (a:=x) h.2 (fun y hy=>⟨h.1 y hy,(hb y (by simp[hy])).2⟩)
  left
  rcases this with h1 | rfl
  ·simp only[List.length_cons];omega
  ·simp;omega
theorem Arn {l:List Int} (h:Bq l=true):l.length≤9:=by
 have:=up9 (l:=l) (a:=0) (Am3 h) (fun x hx=>by have:=Avu h x hx;exact⟨by omega,by omega⟩)
 rcases this with h1 | rfl
 ·omega
 ·simp
end Go.Eng.T
namespace Go.Eng.T
set_option maxRecDepth 20000
set_option maxHeartbeats 1000000
theorem Ay3 {D:Dn} {c:Cf} {a:SC} {Q:Out→St→Prop} {s:St} (h:swp D c a (fun o s'=>match o with | .normal=>False | o=>Q o s') s):swp D c (.loop a) Q s:=⟨1,h⟩
def inB (t:Int):Bool:=decide (InR t 0 255)
def AeB (b:List Int) (t:Int):Bool:= !decide (t∈b)&&inB t
def Vh (h x:Hello):List Int:=leftOf h.versions x.versions++((Ar h.exts).filter (AeB (Ar x.exts))).map (fun t=>1000+t)
theorem AwB (a b:List Int):(leftOf a b).filter inB=a.filter (AeB b):=by
 unfold leftOf
 rw[List.filter_filter]
 congr 1
 funext t
 unfold AeB
 cases inB t<;>cases decide (t∈b)<;>rfl
abbrev Ot (R:Rel):Prop:=∀h x:Hello,hB h→hB x→R [arg (CV h),arg (CV x)] [] (.sl 0 1 (Vh h x).length (ints (Vh h x))) []
theorem Anb {p:Int→Bool} {a l:List Int} {j:Nat} (h:j<l.length):
 a++((l.take (j+1)).filter p).map (fun t=>1000+t)=(a++((l.take j).filter p).map (fun t=>1000+t))++(if p l[j]then [1000+l[j]]else []):=by
 rw[KY h,List.map_append,List.append_assoc]
 split<;>simp
theorem Ard {p:Int→Bool} {a l:List Int} {j:Nat}:(a++((l.take j).filter p).map (fun t=>1000+t)).length≤a.length+j:=by
 have:=Om (p:=p) (xs:=l) (j:=j)
 simp only[List.length_append,List.length_map];omega
theorem AtF (D:Dn) (hL:VH (D YP)) (hX:O8 (D Ry)) (hI:Uk (D Dk)):Ot (Body D SS):=by
 intro h x hh hx
 have hxl:=hx.2.1
 have hhl:=hh.2.1
 have hvl:=hh.1
 simp -implicitDefEqProofs
 refine Aa (hL h.versions x.versions hh.1 hx.1) ?_
 have hal:=KQ h.versions x.versions
 have e:Vh h x=leftOf h.versions x.versions++((Ar h.exts).filter (AeB (Ar x.exts))).map (fun t=>1000+t):=rfl
 rw[e]
 have hpd:∀t,AeB (Ar x.exts) t=(!decide (t∈Ar x.exts)&&inB t):=fun t=>rfl
 generalize leftOf h.versions x.versions=a at hal
 generalize AeB (Ar x.exts)=p at hpd
 have htl:(Ar h.exts).length=h.exts.length:=MJ _
 have hte:∀j (hj:j<h.exts.length),(Ar h.exts)[j]'(by omega)=h.exts[j].tag:=fun j hj=>by simp[Ar]
 obtain⟨l,hl⟩:∃l,l=Ar h.exts:=⟨_,rfl⟩
 rw[←hl]at htl⊢
 simp -implicitDefEqProofs
 refine Af (fun k s=>∃j o3 o4,j+k=h.exts.length∧s=⟨[.undef,.undef,.ptr 0 0,.ptr 1 0,.undef,.arr 5,I j,.undef,.undef],[.var ((CV h).map (Bc 1)),.var ((CV x).map (Bc 1)),.free,o3,o4,.arr 1 0 (a++((l.take j).filter p).map (fun t=>1000+t)).length (ints (a++((l.take j).filter p).map (fun t=>1000+t)))]⟩) ?_ (h.exts.length) _ ⟨0,.free,.free,by simp,by simp⟩
 intro k s ⟨j,o3,o4,hj,hs⟩
 subst hs
 by_cases hjn:j<h.exts.length
 ·have hw:IntKind.i64.wrap ((j:Int)+1)=(j+1:Nat):=by rw[Ab (by omega) (by omega)];simp
  have hjl:j<l.length:=by omega
  have hlt:l[j]=h.exts[j].tag:=by subst hl;exact hte j hjn
  have hst:=Anb (p:=p) (a:=a) hjl
  have hfl:=Ard (p:=p) (a:=a) (l:=l) (j:=j)
  have hb1:((a++((l.take j).filter p).map (fun t=>1000+t)).length+1)*8≤1099511627776:=by omega
  have hpt:=hpd l[j]
  rw[hlt]at hst hpt
  generalize a++((l.take j).filter p).map (fun t=>1000+t)=r at hst hfl hb1
  simp -implicitDefEqProofs [hjn]
  refine Aa (hX x.exts h.exts[j].tag (by unfold maxLen;omega)) ?_
  by_cases h1:h.exts[j].tag∈Ar x.exts
  ·have h3:¬p h.exts[j].tag=true:=by rw[hpt];simp[h1]
   have h1':¬Jb x.exts h.exts[j].tag<0:=by rw[K6];simpa using h1
   rw[if_neg h3,List.append_nil]at hst
   simp -implicitDefEqProofs [h1']
   have hsl:=congrArg List.length hst
   simp only[List.length_append,List.length_map]at hsl
   exact⟨k-1,by omega,j+1,by omega,by simp[hw],by omega,by rw[hst]⟩
  have h1':Jb x.exts h.exts[j].tag<0:=by rw[K6];exact h1
  simp -implicitDefEqProofs [h1',hjn]
  refine Aa (hI _ _ _) ?_
  by_cases h2:InR h.exts[j].tag 0 255
  ·have h3:p h.exts[j].tag=true:=by rw[hpt];simp[h1,inB,h2]
   rw[if_pos h3]at hst
   have hw2:IntKind.i64.wrap (1000+h.exts[j].tag)=1000+h.exts[j].tag:=Ab (by have:=h2.1;omega) (by have:=h2.2;omega)
   simp -implicitDefEqProofs [h2,hjn,hb1,hw2]
   have hsl:=congrArg List.length hst
   simp only[List.length_append,List.length_map,List.length_cons,List.length_nil]at hsl
   exact⟨k-1,by omega,j+1,by omega,by simp[hw],by omega,by rw[hst]⟩
  ·have h3:¬p h.exts[j].tag=true:=by rw[hpt];simp[h1,inB,h2]
   rw[if_neg h3,List.append_nil]at hst
   simp -implicitDefEqProofs [h2]
   have hsl:=congrArg List.length hst
   simp only[List.length_append,List.length_map]at hsl
   exact⟨k-1,by omega,j+1,by omega,by simp[hw],by omega,by rw[hst]⟩
 ·have e2:=Ma (p:=p) (xs:=l) (j:=j) (by omega)
  simp -implicitDefEqProofs [hjn,e2]
theorem AsH (D:Dn) (hL:VH (D NT)) (hT:Kq (D P7)) (hI:Uk (D Cj)):Ot (Body D Tf):=by
 intro h x hh hx
 have hxl:=hx.2.1
 have hhl:=hh.2.1
 have hvl:=hh.1
 simp -implicitDefEqProofs
 refine Aa (hL h.versions x.versions hh.1 hx.1) ?_
 have hal:=KQ h.versions x.versions
 have e:Vh h x=leftOf h.versions x.versions++((Ar h.exts).filter (AeB (Ar x.exts))).map (fun t=>1000+t):=rfl
 rw[e,←AwB]
 generalize leftOf h.versions x.versions=a at hal
 simp -implicitDefEqProofs
 refine Aa (hT h.exts hh.2.1) ?_
 simp -implicitDefEqProofs
 refine Aa (hT x.exts hx.2.1) ?_
 simp -implicitDefEqProofs
 refine Aa (hL (Ar h.exts) (Ar x.exts) (by rw[MJ];omega) (by rw[MJ];omega)) ?_
 have hll:=KQ (Ar h.exts) (Ar x.exts)
 rw[MJ]at hll
 generalize leftOf (Ar h.exts) (Ar x.exts)=l at hll
 generalize hpd:inB=p
 simp -implicitDefEqProofs
 refine Af (fun k s=>∃j v6 o6 o7,j+k=l.length∧s=⟨[.undef,.undef,.undef,.undef,.undef,.arr 8,v6,.arr 5,I l.length,I j,.undef,.undef],[.var ((CV h).map (Bc 1)),.var ((CV x).map (Bc 1)),.free,.arr 1 0 (Ar h.exts).length (ints (Ar h.exts)),.arr 1 0 (Ar x.exts).length (ints (Ar x.exts)),.arr 1 0 l.length (ints l),o6,o7,.arr 1 0 (a++((l.take j).filter p).map (fun t=>1000+t)).length (ints (a++((l.take j).filter p).map (fun t=>1000+t)))]⟩) ?_ (l.length) _ ⟨0,.undef,.free,.free,by simp,by simp⟩
 intro k s ⟨j,v6,o6,o7,hj,hs⟩
 subst hs
 by_cases hjn:j<l.length
 ·have hw:IntKind.i64.wrap ((j:Int)+1)=(j+1:Nat):=by rw[Ab (by omega) (by omega)];simp
  have hst:=Anb (p:=p) (a:=a) hjn
  have hfl:=Ard (p:=p) (a:=a) (l:=l) (j:=j)
  have hb1:((a++((l.take j).filter p).map (fun t=>1000+t)).length+1)*8≤1099511627776:=by omega
  have hpt:p l[j]=inB l[j]:=by rw[hpd]
  generalize a++((l.take j).filter p).map (fun t=>1000+t)=r at hst hfl hb1
  simp -implicitDefEqProofs [hjn]
  refine Aa (hI _ _ _) ?_
  by_cases h2:InR l[j] 0 255
  ·have h3:p l[j]=true:=by rw[hpt];simp[inB,h2]
   rw[if_pos h3]at hst
   have hw2:IntKind.i64.wrap (1000+l[j])=1000+l[j]:=Ab (by have:=h2.1;omega) (by have:=h2.2;omega)
   simp -implicitDefEqProofs [h2,hjn,hb1,hw2]
   have hsl:=congrArg List.length hst
   simp only[List.length_append,List.length_map,List.length_cons,List.length_nil]at hsl
   exact⟨k-1,by omega,j+1,by omega,by simp[hw],by omega,by rw[hst]⟩
  ·have h3:¬p l[j]=true:=by rw[hpt];simp[inB,h2]
   rw[if_neg h3,List.append_nil]at hst
   simp -implicitDefEqProofs [h2]
   have hsl:=congrArg List.length hst
   simp only[List.length_append,List.length_map]at hsl
   exact⟨k-1,by omega,j+1,by omega,by simp[hw],by omega,by rw[hst]⟩
 ·have e2:=Ma (p:=p) (xs:=l) (j:=j) (by omega)
  simp -implicitDefEqProofs [hjn,e2]
def FO:ZK:=⟨false,0,[]⟩
def Adu (h seen:Hello) (vs tags:List Int) (key:Int):ZK:=
 if(Bn vs tags seen).2&&(Ew h (Bn vs tags seen).1&&(!decide (Dm key [Bf h,AP (Bn vs tags seen).1] 1=0)&&
  decide (Dm key [Bf h,AP (Bn vs tags seen).1] 1=Dm key [Bf seen,AP (Bn vs tags seen).1] 1)))
 then⟨true,(Bn vs tags seen).1.version,Ar (Bn vs tags seen).1.exts⟩else FO
theorem Aq9 (h:Hello):(Bf h).length≤47:=by
 unfold Bf
 have:=Lg h.exts
 split
 ·rename_i hc
  have:=Arn (Awx hc)
  simp only[List.length_append,List.length_cons];omega
 ·simp
theorem AoI (h:Hello) (a:Qz):Lu [Bf h,AP a]≤4194304:=by
 have h1:=Aq9 h
 have h2:=Ag4 a
 simp[Lu,BB]
 omega
theorem Ajy {vs tags:List Int} {h:Hello} (hh:hB h):SY (Bn vs tags h).1.exts:=by
 unfold Bn
 split
 ·exact TW (TW hh.2 (fun t=>decide (t∈tags))) (fun t=> !AO t)
 ·exact Acb
def Ue (h:Hello) (path:List FI) (vs tags:List Int) (key:Int):ZK:=if(Be path h).2=true then Adu h (Be path h).1 vs tags key else FO
abbrev KU (R:Rel):Prop:=∀(h:Hello) (path:List FI) (vs tags:List Int) (key:Int),hB h→lnS Ih path→vs.length≤4194304→tags.length≤4194304→
 R [arg (CV h),.sl 1 4 path.length (path.flatMap Cn),.sl 1 1 vs.length (ints vs),.sl 1 1 tags.length (ints tags),I key] [] (.agg (Wd (Ue h path vs tags key))) []
theorem ApE (D:Dn) (hP:Fv (D Lj)) (hC:RP (D YV)) (hFi:Ji (D AfR)) (hHB:He (D AcY)) (hAB:Gv (D Abs))
 (hF:Qd (D AiB)) (hT:Kq (D Acw)):KU (Body D Ra):=by
 intro h path vs tags key hh hb hv ht
 simp -implicitDefEqProofs
 refine Aa (hP path h hb hh) ?_
 have hr:=NW (path:=path) hh
 unfold Ue
 generalize Be path h=r at hr
 by_cases g1:r.2=true
 rotate_left
 ·simp -implicitDefEqProofs [g1,FO]
 obtain⟨seen,ok⟩:=r
 obtain rfl:ok=true:=g1
 dsimp only at hr⊢
 simp -implicitDefEqProofs
 refine Aa (hC vs tags seen hv ht hr) ?_
 have ha:=Ajy (vs:=vs) (tags:=tags) hr
 unfold Adu
 generalize Bn vs tags seen=q at ha
 obtain⟨a,fine⟩:=q
 dsimp only at ha⊢
 by_cases g2:fine=true
 rotate_left
 ·simp -implicitDefEqProofs [g2,FO]
 simp -implicitDefEqProofs [g2]
 refine Aa (hFi h a hh ha) ?_
 by_cases g3:Ew h a=true
 rotate_left
 ·simp -implicitDefEqProofs [g3,FO]
 simp -implicitDefEqProofs [g3]
 refine Aa (hHB h hh) ?_
 simp -implicitDefEqProofs
 refine Aa (hAB a ha) ?_
 simp -implicitDefEqProofs
 have hf:=hF key [Bf h,AP a] 1 (AoI h a)
 simp -implicitDefEqProofs [Lc,Qy]at hf
 refine Aa (hf) ?_
 generalize Dm key [Bf h,AP a] 1=m
 by_cases g4:m=0
 ·simp -implicitDefEqProofs [g4,FO]
 simp -implicitDefEqProofs [g4]
 refine Aa (hHB seen hr) ?_
 simp -implicitDefEqProofs [g4]
 refine Aa (hAB a ha) ?_
 simp -implicitDefEqProofs [g4]
 have hf2:=hF key [Bf seen,AP a] 1 (AoI seen a)
 simp -implicitDefEqProofs [Lc,Qy]at hf2
 refine Aa (hf2) ?_
 generalize Dm key [Bf seen,AP a] 1=m2
 by_cases g5:m=m2
 rotate_left
 ·simp -implicitDefEqProofs [g4,g5,FO]
 subst g5
 simp -implicitDefEqProofs [g4]
 refine Aa (hT a.exts ha.1) ?_
 simp -implicitDefEqProofs [g4]
abbrev Apd (R:Rel):Prop:=∀(h seen:Hello) (vs tags:List Int) (key:Int),hB h→hB seen→vs.length≤4194304→tags.length≤4194304→
 R [arg (CV h),arg (CV seen),.sl 1 1 vs.length (ints vs),.sl 1 1 tags.length (ints tags),I key,.sl 1 2 0 []] [] (.agg (Wd (Adu h seen vs tags key))) []
theorem ACO (D:Dn) (hC:RP (D YT)) (hFi:Ji (D Agi)) (hHB:He (D Aep)) (hAB:Gv (D Ab7))
 (hF:Qd (D W9)) (hK:UH (D Agj)) (hT:Kq (D P7)):Apd (Body D UO):=by
 intro h seen vs tags key hh hr hv ht
 simp -implicitDefEqProofs
 refine Aa (hC vs tags seen hv ht hr) ?_
 have ha:=Ajy (vs:=vs) (tags:=tags) hr
 unfold Adu
 generalize Bn vs tags seen=q at ha
 obtain⟨a,fine⟩:=q
 dsimp only at ha⊢
 have e:(!decide (Dm key [Bf h,AP a] 1=0)&&decide (Dm key [Bf h,AP a] 1=Dm key [Bf seen,AP a] 1))=
  Qm key [Bf h,AP a] 1 (Dm key [Bf seen,AP a] 1):=by
  unfold Qm
  by_cases e1:Dm key [Bf h,AP a] 1=Dm key [Bf seen,AP a] 1
  ·rw[e1]
  ·have e2:¬Dm key [Bf seen,AP a] 1=Dm key [Bf h,AP a] 1:=fun h=>e1 h.symm
   simp[e1,e2]
 rw[e]
 by_cases g2:fine=true
 rotate_left
 ·simp -implicitDefEqProofs [g2,FO]
 simp -implicitDefEqProofs [g2]
 refine Ay3 ?_
 simp -implicitDefEqProofs
 refine Aa (hHB seen hr) ?_
 simp -implicitDefEqProofs
 refine Aa (hAB a ha) ?_
 simp -implicitDefEqProofs
 have hf2:=hF key [Bf seen,AP a] 1 (AoI seen a)
 simp -implicitDefEqProofs [Lc,Qy]at hf2
 refine Aa (hf2) ?_
 generalize Dm key [Bf seen,AP a] 1=m2
 simp -implicitDefEqProofs
 refine Aa (hFi h a hh ha) ?_
 by_cases g3:Ew h a=true
 rotate_left
 ·simp -implicitDefEqProofs [g3,FO]
 simp -implicitDefEqProofs [g3]
 refine Aa (hHB h hh) ?_
 simp -implicitDefEqProofs
 refine Aa (hAB a ha) ?_
 simp -implicitDefEqProofs
 have hk:=hK key [Bf h,AP a] 1 m2 (AoI h a)
 simp -implicitDefEqProofs [Lc,Qy]at hk
 refine Aa (hk) ?_
 generalize Qm key [Bf h,AP a] 1 m2=c
 by_cases g5:c=true
 rotate_left
 ·simp -implicitDefEqProofs [g5,FO]
 simp -implicitDefEqProofs [g5]
 refine Aa (hT a.exts ha.1) ?_
 simp -implicitDefEqProofs
theorem ArH (D:Dn) (hP:Fv (D LZ)) (hD:Apd (D Aqa)):KU (Body D Qv):=by
 intro h path vs tags key hh hb hv ht
 simp -implicitDefEqProofs
 refine Aa (hP path h hb hh) ?_
 have hr:=NW (path:=path) hh
 unfold Ue
 generalize Be path h=r at hr
 by_cases g1:r.2=true
 rotate_left
 ·simp -implicitDefEqProofs [g1,FO]
 simp -implicitDefEqProofs [g1]
 refine Aa (hD h r.1 vs tags key hh hr hv ht) ?_
 simp -implicitDefEqProofs
def AqM (h:Hello) (path:List FI) (vs tags:List Int) (key:Int):BO:=
 if(Cv h path).2.2=true then⟨Ue (Cv h path).1 path vs tags key,(Cv h path).2.1,Vh h (Cv h path).1⟩else⟨FO,(Cv h path).2.1,[]⟩
abbrev AeR (R:Rel):Prop:=∀(h:Hello) (path:List FI) (vs tags:List Int) (key:Int),hB h→lnS Ih path→vs.length≤4194304→tags.length≤4194304→
 R [arg (CV h),.sl 1 4 path.length (path.flatMap Cn),.sl 1 1 vs.length (ints vs),.sl 1 1 tags.length (ints tags),I key] [] (.agg (Ao (AqM h path vs tags key))) []
theorem ACk (D:Dn) (hH:Lb (D AiP)) (hO:KU (D AiL)) (hG:Ot (D AkH)):AeR (Body D Zk):=by
 intro h path vs tags key hh hb hv ht
 simp -implicitDefEqProofs
 refine Aa (hH h path hh hb) ?_
 have hr:=AuX (path:=path) hh
 unfold AqM
 generalize Cv h path=r at hr
 obtain⟨x,n,ok⟩:=r
 dsimp only at hr⊢
 by_cases g1:ok=true
 rotate_left
 ·simp -implicitDefEqProofs [g1,FO]
 simp -implicitDefEqProofs [g1]
 refine Aa (hO x path vs tags key hr hb hv ht) ?_
 simp -implicitDefEqProofs
 refine Aa (hG h x hh hr) ?_
 simp -implicitDefEqProofs [g1]
theorem ACS (D:Dn) (hH:Lb (D Ai8)) (hO:KU (D Ai1)) (hG:Ot (D Amd)):AeR (Body D Z8):=by
 intro h path vs tags key hh hb hv ht
 simp -implicitDefEqProofs
 refine Aa (hH h path hh hb) ?_
 have hr:=AuX (path:=path) hh
 unfold AqM
 generalize Cv h path=r at hr
 obtain⟨x,n,ok⟩:=r
 dsimp only at hr⊢
 by_cases g1:ok=true
 rotate_left
 ·simp -implicitDefEqProofs [g1,FO]
 simp -implicitDefEqProofs [g1]
 refine Aa (hO x path vs tags key hr hb hv ht) ?_
 simp -implicitDefEqProofs
 refine Aa (hG h x hh hr) ?_
 simp -implicitDefEqProofs [g1]
end Go.Eng.T
namespace Go.Eng.T
set_option maxRecDepth 20000
set_option maxHeartbeats 1000000
theorem ApQ {l:List Ext} {k:Nat} (h:k≤l.length):part (JK (l.flatMap BD) 2 0 k) 2 k (l.length-k)=(l.drop k).flatMap BD:=by
 have h0:(l.flatMap BD).length=l.length*2:=Ql l
 have e1:l.flatMap BD=(l.take k).flatMap BD++(l.drop k).flatMap BD:=by rw[←List.flatMap_append,List.take_append_drop]
 have h1:((l.take k).flatMap BD).length=k*2:=by rw[Ql];simp;omega
 have h2:((l.drop k).flatMap BD).length=(l.length-k)*2:=by rw[Ql];simp
 unfold part JK
 rw[e1]
 simp only[Nat.zero_mul,List.take_zero,List.nil_append,Nat.zero_add]
 rw[List.drop_left' h1,List.drop_left' (by simp),List.take_of_length_le (by omega)]
theorem Av1 {l:List Ext} {k:Nat} (h:k≤l.length):part (l.flatMap BD) 2 0 k=(l.take k).flatMap BD:=by
 have e1:l.flatMap BD=(l.take k).flatMap BD++(l.drop k).flatMap BD:=by rw[←List.flatMap_append,List.take_append_drop]
 have h1:((l.take k).flatMap BD).length=k*2:=by rw[Ql];simp;omega
 unfold part
 rw[e1,Nat.zero_mul,List.drop_zero,List.take_left' h1]
def Ah6 (seed:Int):List Int:=List.replicate (pick seed 2 3).toNat (pick seed 3 256)
def Alo (l:List Ext) (seed:Int):Nat:=(pick seed 1 (l.length+1)).toNat
def Dr (l:List Ext) (seed:Int):List Ext:=
 if EC l&&(decide (l.length<6)&& !decide (NG seed∈Ar l))then l.take (Alo l seed)++⟨NG seed,Ah6 seed⟩::l.drop (Alo l seed)else l
theorem AuL (l:List Ext) (seed:Int) (h:l.length≤6):Alo l seed≤l.length:=by
 have:=RD seed 1 (n:=l.length+1) ⟨by omega,by omega⟩
 unfold Alo;omega
theorem Ap3 (seed:Int):(Ah6 seed).length≤2:=by
 have:=RD seed 2 (n:=3) ⟨by omega,by omega⟩
 unfold Ah6;simp;omega
abbrev Jl (R:Rel):Prop:=∀(l:List Ext) (seed:Int),SY l→R [.sl 1 2 l.length (l.flatMap BD),I seed] [] (.sl 0 2 (Dr l seed).length ((Dr l seed).flatMap BD)) []
theorem Anr (D:Dn) (hG:Jo (D AfZ)) (hC:NR (D YA)) (hA:FE (D Kk)) (hX:O8 (D Ry)) (hP:Yz (D Abl)):Jl (Body D O4):=by
 intro l seed hl
 have hll:=hl.1
 simp -implicitDefEqProofs
 refine Aa (hG seed) ?_
 obtain⟨t,ht⟩:∃t,t=NG seed:=⟨_,rfl⟩
 rw[←ht]
 simp -implicitDefEqProofs
 refine Aa (hC l hl) ?_
 simp -implicitDefEqProofs
 refine Aa (hA l hl) ?_
 by_cases h1:EC l=true
 rotate_left
 ·simp -implicitDefEqProofs [h1,Dr]
 by_cases h2:l.length<6
 rotate_left
 ·have h2':(6:Int)≤l.length:=by omega
  simp -implicitDefEqProofs [h1,h2,h2',Dr]
 have h2':¬(6:Int)≤l.length:=by omega
 simp -implicitDefEqProofs [h1,h2']
 refine Aa (hX l t (by unfold maxLen;omega)) ?_
 by_cases h3:t∈Ar l
 ·have h3':0≤Jb l t:=by
   by_cases h:Jb l t<0
   ·rw[K6]at h;exact absurd h3 h
   ·omega
  simp -implicitDefEqProofs [h1,h2,h3',h3,Dr,←ht]
 have h3':¬0≤Jb l t:=by
  have:Jb l t<0:=by rw[K6];exact h3
  omega
 have e:Dr l seed=l.take (Alo l seed)++⟨t,Ah6 seed⟩::l.drop (Alo l seed):=by
  unfold Dr
  rw[if_pos]
  ·rw[ht]
  ·simp[h1,h2,←ht,h3]
 have hgp:=AuL l seed (by omega)
 have hgb:=Ap3 seed
 rw[e]
 simp -implicitDefEqProofs [h3']
 refine Aa (hP seed 2 3) ?_
 have hp2:=RD seed 2 (n:=3) ⟨by omega,by omega⟩
 have eb:Ah6 seed=List.replicate (pick seed 2 3).toNat (pick seed 3 256):=rfl
 obtain⟨n,hn⟩:∃n:Nat,pick seed 2 3=n:=⟨(pick seed 2 3).toNat,by omega⟩
 rw[hn]at eb hp2⊢
 rw[Int.toNat_natCast]at eb
 rw[eb]at hgb⊢
 generalize hv:pick seed 3 256=v at *
 simp -implicitDefEqProofs
 refine Af (fun k s=>∃j o2 o3,j+k=n∧s=⟨[.sl 1 2 l.length (l.flatMap BD),I seed,.undef,.undef,.arr 0,.ptr 1 0,I k,.undef,.undef,.undef],[.arr 2 0 l.length (l.flatMap BD),.var [I t,.arr 9],o2,o3,.free,.free,.free,.free,.free,.arr 1 0 j (ints (List.replicate j v))]⟩) ?_ (n) _ ⟨0,.free,.free,by simp,by simp[ints]⟩
 intro k s ⟨j,o2,o3,hj,hs⟩
 subst hs
 by_cases hjn:j<n
 ·have hk0:0<k:=by omega
  have hb1:(j+1)*8≤1099511627776:=by omega
  have hwk:IntKind.i64.wrap ((k:Int)-1)=(k-1:Nat):=by rw[Ab (by omega) (by omega)];omega
  simp -implicitDefEqProofs [hk0]
  refine Aa (hP seed 3 256) ?_
  rw[hv]
  simp -implicitDefEqProofs [hb1]
  exact⟨k-1,by omega,j+1,by omega,by simp[hwk],by simp[ints,List.replicate_succ']⟩
 have hk0:k=0:=by omega
 obtain rfl:j=n:=by omega
 subst hk0
 have hwl:IntKind.i64.wrap ((l.length:Int)+1)=(l.length:Int)+1:=Ab (by omega) (by omega)
 simp -implicitDefEqProofs [hwl]
 refine Aa (hP seed 1 (l.length+1)) ?_
 have hp1:=RD seed 1 (n:=(l.length:Int)+1) ⟨by omega,by omega⟩
 have eg:Alo l seed=(pick seed 1 (l.length+1)).toNat:=rfl
 generalize pick seed 1 (l.length+1)=k1 at hp1 eg
 obtain⟨kk,rfl⟩:∃kk:Nat,k1=kk:=⟨k1.toNat,by omega⟩
 rw[Int.toNat_natCast]at eg
 rw[eg]at hgp⊢
 have hk1:(kk:Int)≤l.length:=by omega
 have hb2:kk*32≤1099511627776:=by omega
 have hb3:(kk+1)*32≤1099511627776:=by omega
 have hb4:(kk+1+(l.length-kk))*32≤1099511627776:=by omega
 simp -implicitDefEqProofs [hk1,hgp,hb2,hb3,hb4,ApQ hgp,Av1 hgp]
 all_goals omega
theorem Ato {l:List Ext} (hl:SY l) (h6:l.length≤4194303) (seed:Int):SY (Dr l seed):=by
 unfold Dr
 split
 ·refine⟨?_,?_⟩
  ·simp;omega
  ·intro x hx
   rcases List.mem_append.1 hx with h | h
   ·exact hl.2 x (List.mem_of_mem_take h)
   ·rcases List.mem_cons.1 h with h | h
    ·subst h;have:=Ap3 seed;dsimp only;omega
    ·exact hl.2 x (List.mem_of_mem_drop h)
 ·exact hl
def bare (ts:List Int):List Ext:=ts.map fun t=>⟨t,[]⟩
theorem Lm (ts:List Int):(bare ts).length=ts.length:=by simp[bare]
theorem Aid {ts:List Int} (h:ts.length≤4194304):SY (bare ts):=⟨by rw[Lm];exact h,fun x hx=>by
 obtain⟨t,_,rfl⟩:=List.mem_map.1 hx;simp⟩
theorem Amu {ts:List Int} {j:Nat} (h:j<ts.length):(bare (ts.take j)).flatMap BD++ [.sc (.int .i64 ts[j]),.sl 0 1 0 []]=(bare (ts.take (j+1))).flatMap BD:=by
 have e:ts.take (j+1)=ts.take j++ [ts[j]]:=by simp
 rw[e]
 unfold bare
 rw[List.map_append,List.flatMap_append]
 rfl
def Gs (e:AQ) (seed:Int):Hello:=if Bj e=true then⟨e.versions,Dr (bare e.tags) seed⟩else AZ
abbrev Oi (R:Rel):Prop:=∀(e:AQ) (seed:Int),Ae e≤4194304→R [arg (Ah e),I seed] [] (.agg (CV (Gs e seed))) []
theorem Uu {e:AQ} (h:Bj e=true):e.tags.length≤5:=by
 unfold Bj at h
 simp only[Bool.and_eq_true,decide_eq_true_eq]at h
 exact h.2.1
theorem Ah1 {e:AQ} (hsz:Ae e≤4194304) (seed:Int):hB (Gs e seed):=by
 unfold Gs
 split
 ·rename_i h
  have:=Uu h
  exact⟨AdN hsz,Ato (Aid (by omega)) (by rw[Lm];omega) seed⟩
 ·exact AhW
theorem Atq (D:Dn) (hE:FV (D Ui)) (hG:Jl (D Agc)):Oi (Body D Sd):=by
 intro e seed hsz
 have hl:=Aoo hsz
 have hv:=AdN hsz
 simp -implicitDefEqProofs
 refine Aa (hE e hl) ?_
 by_cases h1:Bj e=true
 rotate_left
 ·simp -implicitDefEqProofs [h1,Gs,AZ]
 have h5:=Uu h1
 have he:Gs e seed=⟨e.versions,Dr (bare e.tags) seed⟩:=by unfold Gs;rw[if_pos h1]
 rw[he]
 have hb2:e.versions.length*8≤1099511627776:=by omega
 simp -implicitDefEqProofs [h1]
 refine Af (fun k s=>∃j o3 o4,j+k=e.tags.length∧s=⟨[.undef,I seed,.ptr 0 0,.ptr 1 0,.arr 8,I j,.undef,.undef],[.var ((Ah e).map (Bc 1)),.var [.nil 1,.nil 2],.free,o3,o4,.free,.free,.free,.arr 2 0 j ((bare (e.tags.take j)).flatMap BD)]⟩) ?_ (e.tags.length) _ ⟨0,.free,.free,by simp,by simp[bare]⟩
 intro k s ⟨j,o3,o4,hj,hs⟩
 subst hs
 by_cases hjn:j<e.tags.length
 ·have hw:IntKind.i64.wrap ((j:Int)+1)=(j+1:Nat):=by rw[Ab (by omega) (by omega)];simp
  have hst:=Amu hjn
  have hb1:(j+1)*32≤1099511627776:=by omega
  have hlen:(bare (e.tags.take j)).length=j:=by rw[Lm];simp;omega
  have hlen2:(bare (e.tags.take (j+1))).length=j+1:=by rw[Lm];simp;omega
  simp -implicitDefEqProofs [hjn,hb1]
  exact⟨k-1,by omega,j+1,by omega,by simp[hw],by rw[←hst];exact⟨rfl,rfl⟩⟩
 have e2:e.tags.take j=e.tags:=List.take_of_length_le (by omega)
 obtain rfl:j=e.tags.length:=by omega
 simp -implicitDefEqProofs [hjn,e2,hb2]
 have hq:=hG (bare e.tags) seed (Aid (by omega))
 rw[Lm]at hq
 refine Aa (hq) ?_
 simp -implicitDefEqProofs
theorem As8 (D:Dn) (hE:FV (D Tx)) (hG:Jl (D AfO)):Oi (Body D Sn):=by
 intro e seed hsz
 have hl:=Aoo hsz
 have hv:=AdN hsz
 simp -implicitDefEqProofs
 refine Aa (hE e hl) ?_
 by_cases h1:Bj e=true
 rotate_left
 ·simp -implicitDefEqProofs [h1,Gs,AZ]
 have h5:=Uu h1
 have he:Gs e seed=⟨e.versions,Dr (bare e.tags) seed⟩:=by unfold Gs;rw[if_pos h1]
 rw[he]
 have hb2:e.versions.length*8≤1099511627776:=by omega
 simp -implicitDefEqProofs [h1]
 refine Af (fun k s=>∃j o3 o4,j+k=e.tags.length∧s=⟨[.undef,I seed,.ptr 0 0,.ptr 1 0,.arr 8,.undef,.undef,.sl 1 1 e.tags.length (ints e.tags),I e.tags.length,I j,.undef],[.var ((Ah e).map (Bc 1)),.var [.nil 1,.nil 2],.free,o3,o4,.free,.free,.free,.arr 2 0 j ((bare (e.tags.take j)).flatMap BD)]⟩) ?_ (e.tags.length) _ ⟨0,.free,.free,by simp,by simp[bare]⟩
 intro k s ⟨j,o3,o4,hj,hs⟩
 subst hs
 by_cases hjn:j<e.tags.length
 ·have hw:IntKind.i64.wrap ((j:Int)+1)=(j+1:Nat):=by rw[Ab (by omega) (by omega)];simp
  have hst:=Amu hjn
  have hb1:(j+1)*32≤1099511627776:=by omega
  have hlen:(bare (e.tags.take j)).length=j:=by rw[Lm];simp;omega
  have hlen2:(bare (e.tags.take (j+1))).length=j+1:=by rw[Lm];simp;omega
  simp -implicitDefEqProofs [hjn,hb1]
  exact⟨k-1,by omega,j+1,by omega,by simp[hw],by rw[←hst];exact⟨rfl,rfl⟩⟩
 have e2:e.tags.take j=e.tags:=List.take_of_length_le (by omega)
 obtain rfl:j=e.tags.length:=by omega
 simp -implicitDefEqProofs [hjn,e2,hb2]
 have hq:=hG (bare e.tags) seed (Aid (by omega))
 rw[Lm]at hq
 refine Aa (hq) ?_
 simp -implicitDefEqProofs
def Mj:BO:=⟨FO,0,[]⟩
def Kn (e:AQ) (vs tags:List Int) (key seed:Int):BO:=if Bj e=true then AqM (Gs e seed) e.path vs tags key else Mj
abbrev N7 (R:Rel):Prop:=∀(e:AQ) (vs tags:List Int) (key seed:Int),Ae e≤4194304→vs.length≤4194304→tags.length≤4194304→
 R [arg (Ah e),.sl 1 1 vs.length (ints vs),.sl 1 1 tags.length (ints tags),I key,I seed] [] (.agg (Ao (Kn e vs tags key seed))) []
theorem Ats (D:Dn) (hE:FV (D Ui)) (hH:Oi (D AkV)) (hD:AeR (D At1)):N7 (Body D Sq):=by
 intro e vs tags key seed hsz hv ht
 have hl:=Aoo hsz
 simp -implicitDefEqProofs
 refine Aa (hE e hl) ?_
 by_cases h1:Bj e=true
 rotate_left
 ·simp -implicitDefEqProofs [h1,Kn,Mj,FO]
 simp -implicitDefEqProofs [h1]
 refine Aa (hH e seed hsz) ?_
 have hh:=Ah1 hsz seed
 have he:Kn e vs tags key seed=AqM (Gs e seed) e.path vs tags key:=by unfold Kn;rw[if_pos h1]
 rw[he]
 generalize Gs e seed=h at hh
 simp -implicitDefEqProofs
 refine Aa (hD h e.path vs tags key hh hl.2.2 hv ht) ?_
 simp -implicitDefEqProofs
theorem As2 (D:Dn) (hE:FV (D Tx)) (hH:Oi (D AlL)) (hD:AeR (D AtG)):N7 (Body D R8):=by
 intro e vs tags key seed hsz hv ht
 have hl:=Aoo hsz
 simp -implicitDefEqProofs
 refine Aa (hE e hl) ?_
 by_cases h1:Bj e=true
 rotate_left
 ·simp -implicitDefEqProofs [h1,Kn,Mj,FO]
 simp -implicitDefEqProofs [h1]
 refine Aa (hH e seed hsz) ?_
 have hh:=Ah1 hsz seed
 have he:Kn e vs tags key seed=AqM (Gs e seed) e.path vs tags key:=by unfold Kn;rw[if_pos h1]
 rw[he]
 generalize Gs e seed=h at hh
 simp -implicitDefEqProofs
 refine Aa (hD h e.path vs tags key hh hl.2.2 hv ht) ?_
 simp -implicitDefEqProofs
def clip (n:Int):Int:=max (-100000) (min 100000 n)
abbrev Avs (R:Rel):Prop:=∀n:Int,R [I n] [] (I (clip n)) []
theorem Awd (D:Dn) (hM:AuR (D Awf)) (hN:AuV (D Av4)):Avs (Body D R6):=by
 intro n
 simp -implicitDefEqProofs
 refine Aa (hN _ _) ?_
 simp -implicitDefEqProofs
 refine Aa (hM _ _) ?_
 simp -implicitDefEqProofs [clip]
def JZ (w:World) (i:Int):BO:=if Rp i 0 ((w.ends.length:Int)-1)then(match w.ends[i.toNat]? with | some e=>Kn e w.server w.tags w.key (16*clip w.now+i) | none=>Mj)else Mj
abbrev RL (R:Rel):Prop:=∀(w:World) (i:Int),AY w≤4194304→R [arg (Gd w),I i] [] (.agg (Ao (JZ w i))) []
theorem Avb (n:Int):-100000≤clip n∧clip n≤100000:=by unfold clip;omega
theorem AwJ (D:Dn) (hI:Uk (D Dk)) (hC:Avs (D AkW)) (hB:N7 (D Akx)):RL (Body D Uw):=by
 intro w i hsz
 have he:=Hq hsz
 have hw:IntKind.i64.wrap ((w.ends.length:Int)-1)=(w.ends.length:Int)-1:=Ab (by omega) (by omega)
 simp -implicitDefEqProofs [hw]
 refine Aa (hI _ _ _) ?_
 by_cases h1:Rp i 0 ((w.ends.length:Int)-1)
 rotate_left
 ·simp -implicitDefEqProofs [h1,JZ,Mj,FO]
 obtain⟨n,rfl⟩:∃n:Nat,i=n:=⟨i.toNat,by have:=h1.1;omega⟩
 have hn:n<w.ends.length:=by have:=h1.2;omega
 have hb:=TT hsz
 have hes:=AmB hsz hn
 have e:JZ w n=Kn w.ends[n] w.server w.tags w.key (16*clip w.now+n):=by unfold JZ;rw[if_pos h1];simp[hn]
 rw[e]
 simp -implicitDefEqProofs [h1,hn]
 refine Aa (hC w.now) ?_
 have hcl:=Avb w.now
 generalize clip w.now=c at hcl
 have hw1:IntKind.i64.wrap (16*c)=16*c:=Ab (by omega) (by omega)
 have hw2:IntKind.i64.wrap (16*c+n)=16*c+n:=Ab (by omega) (by omega)
 simp -implicitDefEqProofs [hw1,hw2]
 refine Aa (hB w.ends[n] w.server w.tags w.key _ hes hb.1 hb.2.1) ?_
 simp -implicitDefEqProofs
theorem Awi (D:Dn) (hI:XH (D UM)) (hB:N7 (D AkC)):RL (Body D Vz):=by
 intro w i hsz
 have he:=Hq hsz
 simp -implicitDefEqProofs
 refine Aa (hI w i he) ?_
 by_cases h1:Rp i 0 ((w.ends.length:Int)-1)
 rotate_left
 ·simp -implicitDefEqProofs [h1,JZ,Mj,FO]
 obtain⟨n,rfl⟩:∃n:Nat,i=n:=⟨i.toNat,by have:=h1.1;omega⟩
 have hn:n<w.ends.length:=by have:=h1.2;omega
 have hb:=TT hsz
 have hes:=AmB hsz hn
 have e:JZ w n=Kn w.ends[n] w.server w.tags w.key (16*clip w.now+n):=by unfold JZ;rw[if_pos h1];simp[hn]
 rw[e]
 simp -implicitDefEqProofs [h1,hn]
 have hc:(if(if 100000<w.now then 100000 else w.now)< -100000 then -100000 else if 100000<w.now then 100000 else w.now)=clip w.now:=by
  unfold clip
  split<;>split<;>omega
 rw[hc]
 have hcl:=Avb w.now
 generalize clip w.now=c at hcl
 have hw1:IntKind.i64.wrap (16*c)=16*c:=Ab (by omega) (by omega)
 have hw2:IntKind.i64.wrap (16*c+n)=16*c+n:=Ab (by omega) (by omega)
 rw[hw1,hw2]
 refine Aa (hB w.ends[n] w.server w.tags w.key _ hes hb.1 hb.2.1) ?_
 simp -implicitDefEqProofs
end Go.Eng.T
namespace Go.Eng.T
set_option maxRecDepth 20000
set_option maxHeartbeats 4000000
end Go.Eng.T
namespace Go.Eng.T
set_option maxRecDepth 20000
set_option maxHeartbeats 2000000
theorem Ahk (p:Int→Bool) (l:List Ext):(kept p l).length≤l.length:=List.length_filter_le _ _
theorem Att (b:FI) (h:Hello):(Ca b h).1.exts.length≤h.exts.length:=by
 unfold Ca
 split
 ·exact Ahk _ _
 ·simp[AZ]
theorem Am1:∀(path:List FI) (h:Hello),(Ho path h).1.exts.length≤h.exts.length
 | [],h=>by simp[Ho]
 | b::r,h=>by
  have h1:=Att b h
  have h2:=Am1 r (Ca b h).1
  unfold Ho
  split
  ·omega
  ·simp[AZ]
theorem ApN (path:List FI) (h:Hello):(Be path h).1.exts.length≤h.exts.length:=by
 unfold Be
 split
 ·exact Am1 _ _
 ·simp[AZ]
theorem ADa (h:Hello) (a b:List Int):(E8 h a b).1.exts.length≤h.exts.length:=by
 unfold E8
 split
 ·exact Ahk (fun t=> !decide (t∈b)) h.exts
 ·simp[AZ]
theorem AC1 (h:Hello) (path:List FI):(Cv h path).1.exts.length≤h.exts.length:=by
 unfold Cv fallback
 have:=ADa h (Bt path h.versions) (ET path (leftOf h.versions (Bt path h.versions)) h.exts)
 repeat' split
 all_goals simp[AZ]<;>omega
theorem Axs (h seen:Hello) (vs tags:List Int) (key:Int):(Adu h seen vs tags key).tags.length≤seen.exts.length:=by
 unfold Adu
 split
 ·have:(Bn vs tags seen).1.exts.length≤seen.exts.length:=by
   unfold Bn
   split
   ·exact Nat.le_trans (Ahk (fun t=> !AO t) (Kl seen.exts tags)) (Ahk (fun t=>decide (t∈tags)) seen.exts)
   ·simp
  simpa[Ar]using this
 ·simp[FO]
theorem AC0 (h:Hello) (path:List FI) (vs tags:List Int) (key:Int):Aj (AqM h path vs tags key)≤2*h.exts.length+h.versions.length:=by
 unfold AqM
 split
 ·have h1:=AC1 h path
  have h2:=ApN path (Cv h path).1
  have h3:(Ue (Cv h path).1 path vs tags key).tags.length≤h.exts.length:=by
   unfold Ue
   split
   ·have:=Axs (Cv h path).1 (Be path (Cv h path).1).1 vs tags key;omega
   ·simp[FO]
  have h4:(Vh h (Cv h path).1).length≤h.exts.length+h.versions.length:=by
   unfold Vh leftOf
   have a1:=List.length_filter_le (fun v=> !decide (v∈(Cv h path).1.versions)) h.versions
   have a2:=List.length_filter_le (AeB (Ar (Cv h path).1.exts)) (Ar h.exts)
   have a3:(Ar h.exts).length=h.exts.length:=MJ _
   simp only[List.length_append,List.length_map]
   omega
  simp only[Aj,Ed]
  omega
 ·simp[Aj,Ed,FO]
theorem Axe (l:List Ext) (seed:Int) (h:l.length≤5):(Dr l seed).length≤6:=by
 unfold Dr
 split
 ·simp;omega
 ·omega
theorem AtX (e:AQ) (vs tags:List Int) (key seed:Int):Aj (Kn e vs tags key seed)≤21:=by
 unfold Kn
 split
 ·rename_i h1
  have h5:=Uu h1
  have e1:Gs e seed=⟨e.versions,Dr (bare e.tags) seed⟩:=by unfold Gs;rw[if_pos h1]
  have h2:=AC0 (Gs e seed) e.path vs tags key
  have h3:=Axe (bare e.tags) seed (by rw[Lm];exact h5)
  have h4:e.versions.length≤9:=by
   unfold Bj at h1
   simp only[Bool.and_eq_true,decide_eq_true_eq]at h1
   exact Arn h1.1
  rw[e1]at h2⊢
  dsimp only at h2⊢
  omega
 ·simp[Aj,Ed,Mj,FO]
theorem Ac1 (w:World) (i:Int):Aj (JZ w i)≤21:=by
 unfold JZ
 repeat' split
 all_goals first | exact AtX _ _ _ _ _ | simp[Aj,Ed,Mj,FO]
def NN (w:World) (i:Int) (d:BO) (on:Bool):World:=
 {w with log:=w.log++ [⟨i,w.now,on,d⟩],stage:=(if on=true then w.stage++ [d]else w.stage),hurt:=(if(on&&NE w.rollout.version d)=true then IntKind.i64.wrap (w.hurt+1)else w.hurt)}
def NQ (w:World) (i:Int):Bool:=decide (Rp i 0 ((w.ends.length:Int)-1))&&(decide (w.log.length<60)&&decide (w.stage.length<60))
def Dy (w:World) (i:Int):World×Bool:=if NQ w i=true then(NN w i (JZ w i) (Ko w i),true)else(w,false)
abbrev KV (R:Rel):Prop:=∀(w:World) (i:Int),AY w≤4194304→R [arg (Gd w),I i] [] (.tup [.agg (Gd (Dy w i).1),B (Dy w i).2]) []
theorem Ap9 (D:Dn) (hC:Og (D AlJ)) (hI:Uk (D Dk)) (hDo:RL (D AoN)) (hOn:Oo (D AkZ)) (hCd:Ij (D VB)) (hB:Fz (D Ago)):KV (Body D QK):=by
 intro w i hsz
 have he:=Hq hsz
 have hw:IntKind.i64.wrap ((w.ends.length:Int)-1)=(w.ends.length:Int)-1:=Ab (by omega) (by omega)
 simp -implicitDefEqProofs
 refine Aa (hC w hsz) ?_
 simp -implicitDefEqProofs [hw]
 refine Aa (hI _ _ _) ?_
 by_cases h1:Rp i 0 ((w.ends.length:Int)-1)
 rotate_left
 ·simp -implicitDefEqProofs [h1,Dy,NQ]
 by_cases h2:w.log.length<60
 rotate_left
 ·have h2':(60:Int)≤w.log.length:=by omega
  simp -implicitDefEqProofs [h1,h2,h2',Dy,NQ]
 have h2':¬(60:Int)≤w.log.length:=by omega
 by_cases h3:w.stage.length<60
 rotate_left
 ·have h3':(60:Int)≤w.stage.length:=by omega
  simp -implicitDefEqProofs [h1,h2,h2',h3,h3',Dy,NQ]
 have h3':¬(60:Int)≤w.stage.length:=by omega
 have e:Dy w i=(NN w i (JZ w i) (Ko w i),true):=by unfold Dy NQ;rw[if_pos (by simp[h1,h2,h3])]
 rw[e]
 have hds:=Ac1 w i
 simp -implicitDefEqProofs [h1,h2',h3']
 refine Aa (hDo w i hsz) ?_
 generalize JZ w i=d at hds
 simp -implicitDefEqProofs
 refine Aa (hOn w i hsz) ?_
 generalize Ko w i=on
 have b1:(w.log.length+1)*96≤1099511627776:=by omega
 have b2:(w.stage.length+1)*72≤1099511627776:=by omega
 have b3:d.up.length≤maxLen:=by unfold Aj at hds;unfold maxLen;omega
 by_cases g:on=true
 rotate_left
 ·simp -implicitDefEqProofs [g,b1,NN,Am]
 simp -implicitDefEqProofs [g,b1]
 trace_state
 refine Aa (hCd d (by omega)) ?_
 simp -implicitDefEqProofs [g,b1,b2]
 refine Aa (hB d _ b3) ?_
 by_cases g2:NE w.rollout.version d=true
 ·simp -implicitDefEqProofs [g,g2,b1,b2,NN,Am,Ao]
 ·simp -implicitDefEqProofs [g,g2,b1,b2,NN,Am,Ao]
theorem ArL (D:Dn) (hC:Og (D AgI)) (hI:XH (D UM)) (hDo:RL (D Api)) (hOn:Oo (D Alt)) (hCd:Ij (D TP)) (hB:Fz (D Agh)):KV (Body D QW):=by
 intro w i hsz
 have he:=Hq hsz
 simp -implicitDefEqProofs
 refine Aa (hC w hsz) ?_
 simp -implicitDefEqProofs
 refine Aa (hI w i he) ?_
 by_cases h1:Rp i 0 ((w.ends.length:Int)-1)
 rotate_left
 ·simp -implicitDefEqProofs [h1,Dy,NQ]
 by_cases h2:w.log.length<60
 rotate_left
 ·have h2':(60:Int)≤w.log.length:=by omega
  simp -implicitDefEqProofs [h1,h2,h2',Dy,NQ]
 have h2':¬(60:Int)≤w.log.length:=by omega
 by_cases h3:w.stage.length<60
 rotate_left
 ·have h3':(60:Int)≤w.stage.length:=by omega
  simp -implicitDefEqProofs [h1,h2,h2',h3,h3',Dy,NQ]
 have h3':¬(60:Int)≤w.stage.length:=by omega
 have e:Dy w i=(NN w i (JZ w i) (Ko w i),true):=by unfold Dy NQ;rw[if_pos (by simp[h1,h2,h3])]
 rw[e]
 have hds:=Ac1 w i
 simp -implicitDefEqProofs [h1,h2',h3']
 refine Aa (hDo w i hsz) ?_
 generalize JZ w i=d at hds
 simp -implicitDefEqProofs
 refine Aa (hOn w i hsz) ?_
 generalize Ko w i=on
 have b1:(w.log.length+1)*96≤1099511627776:=by omega
 have b2:(w.stage.length+1)*72≤1099511627776:=by omega
 have b3:d.up.length≤maxLen:=by unfold Aj at hds;unfold maxLen;omega
 by_cases g:on=true
 rotate_left
 ·simp -implicitDefEqProofs [g,b1,NN,Am]
 simp -implicitDefEqProofs [g,b1]
 trace_state
 refine Aa (hCd d (by omega)) ?_
 simp -implicitDefEqProofs [g,b1,b2]
 refine Aa (hB d _ b3) ?_
 by_cases g2:NE w.rollout.version d=true
 ·simp -implicitDefEqProofs [g,g2,b1,b2,NN,Am,Ao]
 ·simp -implicitDefEqProofs [g,g2,b1,b2,NN,Am,Ao]
theorem Aba (w:World) (i:Int):AY (Dy w i).1+(60-(Dy w i).1.log.length)*50≤AY w+(60-w.log.length)*50∧(Dy w i).1.ends=w.ends∧(Dy w i).1.rollout=w.rollout:=by
 unfold Dy
 split
 ·rename_i h
  unfold NQ at h
  simp only[Bool.and_eq_true,decide_eq_true_eq]at h
  have hd:=Ac1 w i
  refine⟨?_,rfl,rfl⟩
  unfold NN
  simp only[AY,BB,List.length_append,List.length_cons,List.length_nil,List.map_append,List.map_cons,List.map_nil,List.sum_append,List.sum_cons,List.sum_nil,Ay]
  split
  ·simp only[List.length_append,List.length_cons,List.length_nil,List.map_append,List.map_cons,List.map_nil,List.sum_append,List.sum_cons,List.sum_nil];omega
  ·omega
 ·exact⟨Nat.le_refl _,rfl,rfl⟩
def AuH (w:World):Nat→World
 | 0=>w
 | n+1=>(Dy (AuH w n) n).1
theorem Axm (w:World):∀n,AY (AuH w n)+(60-(AuH w n).log.length)*50≤AY w+(60-w.log.length)*50
 | 0=>Nat.le_refl _
 | n+1=>Nat.le_trans (Aba (AuH w n) n).1 (Axm w n)
end Go.Eng.T
namespace Go.Eng.T
open Go.Eng.X
def Ac:Nat→Br
 |0=>R 0 [x 0 (s 0),m f] [(2,0)] [0,3]
 |1=>R 1 [m (i 1048576)] [(4,0)] []
 |2=>R 2 [P 15 (s 2),m (s 4),C 7 [r (l 0),r (l 1)] [],m (l 2)] [(4,3)] []
 |3=>R 3 [m (s 4),y .lss (l 0) (i 0)] [(15,1)] [4]
 |4=>R 4 [m t] [(3,0)] [1,2]
 |5=>R 5 [P 15 (s 2),C 8 [r (l 0)] [1,2,3,4,5,6],m (s 1),C 72 [r (l 1),r (l 2)] [7,8,9,10,11,12],m (l 3),X (l 4) 0,X (l 4) 1,a 13 zW,W 15 (l 7) (l 5),m (l 6)] [(5,7),(6,9)] []
 |6=>R 6 [P 15 (s 2),C 8 [r (l 0)] [14,15,16,17,18,19],a 20 zW,W 15 (l 2) (l 1)] [(7,2)] []
 |7=>R 7 [P 15 (s 7),m (s 1),C 106 [r (l 0),r (l 1)] [21,22,23,24,25,26],m (l 2),X (l 3) 0,X (l 3) 1,a 27 zW,W 15 (l 6) (l 4),m (l 5)] [(8,6),(9,8)] []
 |8=>R 8 [P 15 (s 8),P 15 (s 5),C 11 [r (l 0),r (l 1)] [],n (l 2),m (l 3),G 4 (m (s 9)),G 4 (m (s 6)),G 4 (.beq true (l 5) (l 6)),k (l 4) t (l 7)] [(16,8)] []
 |9=>R 9 [m f] [(3,0)] [1,2,5,6,7,8,9]
 |10=>T 10 [D (P 15 (s 7)) [20] [],D (P 15 (s 2)) [0] [],D (C 8 [r (l 1)] [28,29,30,31,32,33]) [28,29,30,31,32,33] [28,29,30,31,32,33],D (C 11 [r (l 0),r (l 2)] []) [14,15,16,17,18,19,28,29,30,31,32,33] [],D (n (l 3)) [] []] [(17,4)] []
 |11=>R 11 [m f] [(3,0)] [1,2,5,6,7,8,9]
 |12=>R 12 [m (i 1)] [(10,0)] []
 |13=>R 13 [P 15 (s 7),m (s 10),C 12 [v (l 0),r (l 1)] [],m (l 2)] [(10,3)] [7]
 |14=>R 14 [m (s 10),y .lss (l 0) (i 0),m (l 1),G 2 (P 15 (s 8)),G 2 (P 15 (s 5)),G 2 (C 11 [r (l 3),r (l 4)] []),G 2 (n (l 5)),k (l 2) t (l 6),m (l 7),G 8 (m (s 9)),G 8 (m (s 6)),G 8 (.beq true (l 9) (l 10)),k (l 8) t (l 11)] [(18,12)] [9,10]
 |15=>R 15 [m f] [(3,0)] [1,2,5,6,8]
 |16=>R 16 [m (i 1)] [(11,0)] []
 |17=>R 17 [P 15 (s 8),m (s 11),C 12 [v (l 0),r (l 1)] [],m (l 2)] [(11,3)] []
 |18=>R 18 [m (i 1)] [(12,0)] []
 |19=>R 19 [P 15 (s 8),m (s 12),C 13 [r (l 0),r (l 1)] [],m (l 2)] [(12,3)] []
 |20=>R 20 [m (s 12),y .lss (l 0) (i 0)] [(19,1)] []
 |21=>R 21 [m f] [(3,0)] [1,2,5,6,8,11,12]
 |22=>R 22 [m (s 12),m (s 11),y .neq (l 0) (l 1)] [(20,2)] [12]
 |23=>R 23 [m f] [(3,0)] [1,2,5,6,8,11]
 |24=>R 24 [P 15 (s 2),C 8 [r (l 0)] [34,35,36,37,38,39],m (s 1),C 106 [r (l 1),r (l 2)] [40,41,42,43,44,45],m (l 3),X (l 4) 0,X (l 4) 1,a 46 zW,W 15 (l 7) (l 5),m (l 6)] [(13,7),(14,9)] [1,2]
 |25=>R 25 [P 15 (s 13),P 15 (s 5),C 11 [r (l 0),r (l 1)] [],n (l 2),m (l 3),G 4 (m (s 14)),G 4 (m (s 6)),G 4 (.beq true (l 5) (l 6)),k (l 4) t (l 7)] [(21,8)] [5,6,13,14]
 |26=>R 26 [m f] [(3,0)] [8,11]
 |27=>R 27 [m (i 1)] [(12,0)] []
 |28=>R 28 [P 15 (s 8),m (s 12),C 13 [r (l 0),r (l 1)] [],m (l 2)] [(12,3)] [8]
 |29=>R 29 [m (s 12),y .lss (l 0) (i 0)] [(22,1)] []
 |30=>R 30 [m f] [(3,0)] [11,12]
 |31=>R 31 [m (s 12),m (s 11),y .neq (l 0) (l 1)] [(23,2)] [11,12]
 |32=>R 32 [m f] [(3,0)] []
 |_=>R 33 [m t] [(3,0)] []
def Iy:Bw:=⟨24,47,[0,1],0,false,[],j (d (Ac 0)) (j (d (Ac 1)) (j (d (Ac 2)) (j (j (d (Ac 3)) (h 15 (j (d (Ac 4)) (.ret)) (.skip))) (j (d (Ac 5)) (j (d (Ac 6)) (j (d (Ac 7)) (j (j (d (Ac 8)) (h 16 (j (d (Ac 9)) (.ret)) (.skip))) (j (j (d (Ac 10)) (h 17 (j (d (Ac 11)) (.ret)) (.skip))) (j (d (Ac 12)) (j (d (Ac 13)) (j (j (d (Ac 14)) (h 18 (j (d (Ac 15)) (.ret)) (.skip))) (j (d (Ac 16)) (j (d (Ac 17)) (j (d (Ac 18)) (j (d (Ac 19)) (j (j (d (Ac 20)) (h 19 (j (d (Ac 21)) (.ret)) (.skip))) (j (j (d (Ac 22)) (h 20 (j (d (Ac 23)) (.ret)) (.skip))) (j (d (Ac 24)) (j (j (d (Ac 25)) (h 21 (j (d (Ac 26)) (.ret)) (.skip))) (j (d (Ac 27)) (j (d (Ac 28)) (j (j (d (Ac 29)) (h 22 (j (d (Ac 30)) (.ret)) (.skip))) (j (j (d (Ac 31)) (h 23 (j (d (Ac 32)) (.ret)) (.skip))) (j (d (Ac 33)) (.ret))))))))))))))))))))))))),[.slot 3]⟩
def TM:List Tmp:=[0,1,2,4,5,6,7,8,9,10,11,12,13,14,15,20,44,49,65,73,76,92,97,100]
def Et:Nat→Br
 |0=>R 0 [m (z 2)] [] [2]
 |1=>R 1 [m (s 0),C 318 [r (l 0)] [0],m (s 1),C 319 [r (l 2)] [],m (l 1),m (l 3)] [(3,4),(4,5)] []
 |2=>R 2 [m (s 0),C 320 [r (l 0)] [],n (l 1),m (l 2),G 3 (m (s 0)),G 3 (e (l 4)),G 3 (y .eql (l 5) (i 6)),k (l 3) t (l 6),m (l 7),G 8 (m (s 0)),G 8 (m (s 4)),G 8 (C 321 [r (l 9),r (l 10)] []),G 8 (y .geq (l 11) (i 0)),k (l 8) t (l 12)] [(6,13)] []
 |3=>R 3 [m (s 3),m (l 0)] [(2,1)] [0,1,3,4]
 |4=>R 4 [m (s 1),C 322 [r (l 0),r (i 3),r (i 256)] [],M 1 1 1 [l 1],m (s 1),C 322 [r (l 3),r (i 2),r (i 3)] [],C 323 [r (l 2),r (l 4)] [2],m (l 5)] [(5,6)] []
 |_=>R 5 [m (s 3),m (s 1),m (s 0),e (l 2),y .add (l 3) (i 1),C 322 [r (l 1),r (i 1),r (l 4)] [],m (s 4),m (s 5),b [o,N 1] [(0,1,l 6),(1,1,l 7)],M 3 2 1 [l 8],C 324 [v (l 0),r (l 5),v (l 9)] [4],m (l 10)] [(2,11)] [0,1,3,4,5]
def Nw:Bw:=⟨7,5,[0,1],0,false,[],j (d (Et 0)) (j (d (Et 1)) (j (j (d (Et 2)) (h 6 (j (d (Et 3)) (.ret)) (.skip))) (j (d (Et 4)) (j (d (Et 5)) (.ret))))),[.slot 2]⟩
def ZQ:List Tmp:=[0,1,4,5,6,7,25]
def Al:Nat→Br
 |0=>R 0 [m (z 1)] [] [1]
 |1=>R 1 [m (i 0)] [(2,0)] []
 |2=>R 2 [m (s 0),e (l 0),m (i 0)] [(6,0),(7,1),(8,2)] []
 |3=>R 3 [y .lss (s 8) (s 7)] [(9,0)] []
 |4=>R 4 [A 1 (s 6) (s 8),L (l 0),m (l 1)] [(3,2)] []
 |5=>R 5 [m (s 2),m (s 3),e (l 1),y .add (l 0) (l 2),m (l 3)] [(2,4)] [3]
 |6=>R 6 [m (s 2),y .lss (l 0) (i 0)] [(10,1)] []
 |7=>R 8 [y .add (s 8) (i 1),m (l 0)] [(8,1)] []
 |8=>Q 9 [m (s 2),C 419 [r (.con (.sc (.slice none 0 0))),r (l 0)] [0],m (l 1)] [(4,2)] [2,6,7,8] [] [w 0 2]
 |9=>R 10 [m (s 0),e (l 0),m (i 0)] [(11,0),(12,1),(13,2)] [0]
 |10=>R 11 [y .lss (s 13) (s 12)] [(14,0)] []
 |11=>R 12 [A 1 (s 11) (s 13),L (l 0),m (l 1)] [(5,2)] []
 |12=>Q 13 [m (s 4),m (s 5),q 1 1 8 (l 0) (l 1),m (l 2)] [(4,3)] [5] [1] [w 1 2]
 |13=>R 14 [y .add (s 13) (i 1),m (l 0)] [(13,1)] []
 |_=>R 15 [m (s 4),m (l 0)] [(1,1)] [4,11,12,13]
def Gc:Bw:=⟨15,3,[0],0,false,[],j (d (Al 0)) (j (d (Al 1)) (j (j (d (Al 2)) (.block 0 (.loop (j (d (Al 3)) (j (h 9 (.skip) (.exit 0)) (j (.block 1 (j (d (Al 4)) (j (d (Al 5)) (j (d (Al 6)) (h 10 (.stuck) (.skip)))))) (d (Al 7)))))))) (j (d (Al 8)) (j (j (d (Al 9)) (.block 2 (.loop (j (d (Al 10)) (j (h 14 (.skip) (.exit 2)) (j (.block 3 (j (d (Al 11)) (d (Al 12)))) (d (Al 13)))))))) (j (d (Al 14)) (.ret)))))),[.slot 1]⟩
def OO:List Tmp:=[0,2,3,5,6,8,9,10,11,12,20,25,26,27,28]
attribute [simp] Ac Iy Et Nw Al Gc
end Go.Eng.T
namespace Go.Eng.T
set_option maxRecDepth 20000
set_option maxHeartbeats 2000000
abbrev AyJ (R:Rel):Prop:=∀n:Nat,n≤16777216→R [.sc (.slice none 0 0),I n] [] (.sl 0 1 0 []) []
def TD (ls:List (List Int)):List Int:=ls.flatten
abbrev Ab8 (R:Rel):Prop:=∀ls:List (List Int),Lu ls≤8388608→R [Lc ls] [] (.sl 0 1 (TD ls).length (ints (TD ls))) []
theorem AmS {ls:List (List Int)} {j:Nat} (h:j<ls.length):TD (ls.take (j+1))=TD (ls.take j)++ls[j]:=by
 have e:ls.take (j+1)=ls.take j++ [ls[j]]:=by simp
 unfold TD
 rw[e,List.flatten_append];simp
theorem Aoj (ls:List (List Int)) (j:Nat):(TD (ls.take j)).length≤Lu ls:=by
 unfold TD
 have h1:(ls.take j).flatten.length≤ls.flatten.length:=by
  conv=>rhs;rw[←List.take_append_drop j ls,List.flatten_append,List.length_append]
  omega
 have h2:ls.flatten.length≤Lu ls:=by
  unfold Lu BB
  rw[List.length_flatten]
  omega
 omega
theorem Azl (D:Dn) (hG:AyJ (D Tv)):Ab8 (Body D Gc):=by
 intro ls hl
 have hll:=V7 (xs:=ls)
 simp -implicitDefEqProofs
 refine Af (fun k s=>∃j,j+k=ls.length∧s=⟨[Lc ls,.undef,I ((TD (ls.take j)).length:Nat),.undef,.undef,.undef,Lc ls,I ls.length,I j,.undef,.undef,.undef,.undef,.undef,.undef],[.free,.free,.free]⟩) ?_ (ls.length) _ ⟨0,by simp,by simp[TD]⟩
 intro k s ⟨j,hj,hs⟩
 subst hs
 by_cases hjn:j<ls.length
 ·have hw:IntKind.i64.wrap ((j:Int)+1)=(j+1:Nat):=by rw[Ab (by omega) (by omega)];simp
  have hst:=congrArg List.length (AmS hjn)
  rw[List.length_append]at hst
  have hle:=Aoj ls (j+1)
  obtain⟨n2,hn2⟩:∃n2,n2=(TD (ls.take (j+1))).length:=⟨_,rfl⟩
  obtain⟨n1,hn1⟩:∃n1,n1=(TD (ls.take j)).length:=⟨_,rfl⟩
  rw[←hn2]at hst hle
  rw[←hn1]at hst⊢
  have hw2:IntKind.i64.wrap ((n1:Int)+(ls[j].length:Nat))=(n2:Int):=by rw[hst,Ab (by omega) (by omega)];omega
  have hneg:¬(n2:Int)<0:=by omega
  simp -implicitDefEqProofs [hjn,hw2,hneg]
  exact⟨k-1,by omega,j+1,by omega,by simp[hw,hn2]⟩
 ·have e:ls.take j=ls:=List.take_of_length_le (by omega)
  have hle:=Aoj ls j
  simp -implicitDefEqProofs [hjn,e]
  rw[e]at hle
  refine Aa (hG (TD ls).length (by omega)) ?_
  simp -implicitDefEqProofs
  refine Af (fun k s=>∃j o1,j+k=ls.length∧s=⟨[.undef,.undef,.undef,.undef,.arr 2,.undef,.undef,.undef,.undef,.undef,.undef,Lc ls,I ls.length,I j,.undef],[.free,o1,.arr 1 0 (TD (ls.take j)).length (ints (TD (ls.take j)))]⟩) ?_ (ls.length) _ ⟨0,.free,by simp,by simp[TD]⟩
  intro k s ⟨j,o1,hj,hs⟩
  subst hs
  clear hjn e
  by_cases hjn:j<ls.length
  ·have hw:IntKind.i64.wrap ((j:Int)+1)=(j+1:Nat):=by rw[Ab (by omega) (by omega)];simp
   have hst:=AmS hjn
   have hle2:=Aoj ls (j+1)
   have hsl:=congrArg List.length hst
   rw[List.length_append]at hsl
   generalize(TD (ls.take j))=r1 at *
   have hb1:(r1.length+ls[j].length)*8≤1099511627776:=by omega
   simp -implicitDefEqProofs [hjn,hb1]
   exact⟨k-1,by omega,j+1,by omega,by simp[hw],by rw[hst];simp[ints]⟩
  ·have e:ls.take j=ls:=List.take_of_length_le (by omega)
   simp -implicitDefEqProofs [hjn,e]
theorem AzH (D:Dn) (hC:Ab8 (D JH)) (hH:VG (D ZB)):Xp (Body D Ps):=by
 intro k xs hl
 simp -implicitDefEqProofs
 have hc:=hC [[k],xs,[k]] (by simp[Lu,BB];omega)
 simp -implicitDefEqProofs [Lc,Qy,ints]at hc
 simp -implicitDefEqProofs [ints]
 refine Aa (hc) ?_
 have ek:TD [[k],xs,[k]]=k::xs++ [k]:=by simp[TD]
 rw[ek]
 have hlen:(k::xs++ [k]).length=xs.length+1+1:=by simp
 have hh:=hH (k::xs++ [k]) (by unfold maxLen;omega)
 rw[hlen]at hh
 simp -implicitDefEqProofs [ints]at hh
 simp -implicitDefEqProofs [ints]
 refine Aa (hh) ?_
 simp -implicitDefEqProofs [keyed]
theorem Al6 (D:Dn) (hI:Eh (D GA)) (hE:FX (D TY)) (hC:Ab8 (D JH)):He (Body D NK):=by
 intro h hh
 have hv:=hh.1
 simp -implicitDefEqProofs
 refine Aa (hI h hh) ?_
 by_cases h1:CP h=true
 rotate_left
 ·simp -implicitDefEqProofs [h1,Bf]
 have hl:=Lg h.exts
 have e:Bf h=((h.versions.length:Int)::h.versions)++(EG h.exts).1:=by unfold Bf;rw[if_pos h1]
 rw[e]
 simp -implicitDefEqProofs [h1]
 refine Aa (hE h.exts hh.2) ?_
 generalize(EG h.exts).1=r at hl
 simp -implicitDefEqProofs [ints]
 have hc:=hC [[(h.versions.length:Int)],h.versions,r] (by simp[Lu,BB];omega)
 simp -implicitDefEqProofs [Lc,Qy,ints]at hc
 refine Aa (hc) ?_
 have ek:TD [[(h.versions.length:Int)],h.versions,r]=((h.versions.length:Int)::h.versions)++r:=by simp[TD]
 rw[ek]
 simp -implicitDefEqProofs [ints]
abbrev AoE (R:Rel):Prop:=∀(v:Int) (n:Nat),n≤2→R [.sl 1 1 1 (ints [v]),I n] [] (.sl 0 1 n (ints (List.replicate n v))) []
abbrev AoG (R:Rel):Prop:=∀(l:List Ext) (i:Nat) (x:Ext),l.length≤4194304→i≤l.length→
 R [.arr 0,I i,.arr 1] [.arr 2 0 l.length (l.flatMap BD),.arr 2 0 1 (BD x)] (.sl 0 2 (l.length+1) ((l.take i++x::l.drop i).flatMap BD)) [.dead,.dead]
theorem AoW (D:Dn) (hC:NR (D Wz)) (hG:Jo (D Afg)) (hA:FE (D Ki)) (hX:O8 (D AeW)) (hP:Yz (D AaP))
 (hR:AoE (D Rq)) (hI:AoG (D Kg)):Jl (Body D Nw):=by
 intro l seed hl
 have hll:=hl.1
 simp -implicitDefEqProofs
 refine Aa (hC l hl) ?_
 simp -implicitDefEqProofs
 refine Aa (hG seed) ?_
 obtain⟨t,ht⟩:∃t,t=NG seed:=⟨_,rfl⟩
 rw[←ht]
 simp -implicitDefEqProofs
 refine Aa (hA l hl) ?_
 by_cases h1:EC l=true
 rotate_left
 ·simp -implicitDefEqProofs [h1,Dr]
 have h6:l.length≤6:=Xy h1
 by_cases h2:l.length=6
 ·have h2':((l.length:Nat):Int)=6:=by omega
  simp -implicitDefEqProofs [h1,h2',Dr,h2]
 have h2':¬((l.length:Nat):Int)=6:=by omega
 have h2l:l.length<6:=by omega
 simp -implicitDefEqProofs [h1,h2',h2]
 refine Aa (hX l t (by unfold maxLen;omega)) ?_
 by_cases h3:t∈Ar l
 ·have h3':0≤Jb l t:=by
   by_cases h:Jb l t<0
   ·rw[K6]at h;exact absurd h3 h
   ·omega
  simp -implicitDefEqProofs [h1,h2l,h2',h2,h3',h3,Dr,←ht]
 have h3':¬0≤Jb l t:=by
  have:Jb l t<0:=by rw[K6];exact h3
  omega
 have e:Dr l seed=l.take (Alo l seed)++⟨t,Ah6 seed⟩::l.drop (Alo l seed):=by
  unfold Dr
  rw[if_pos]
  ·rw[ht]
  ·simp[h1,h2l,←ht,h3]
 have hgp:=AuL l seed h6
 rw[e]
 simp -implicitDefEqProofs [h3',h2',h2]
 refine Aa (hP seed 3 256) ?_
 simp -implicitDefEqProofs
 refine Aa (hP seed 2 3) ?_
 have hp2:=RD seed 2 (n:=3) ⟨by omega,by omega⟩
 have eb:Ah6 seed=List.replicate (pick seed 2 3).toNat (pick seed 3 256):=rfl
 obtain⟨n,hn⟩:∃n:Nat,pick seed 2 3=n:=⟨(pick seed 2 3).toNat,by omega⟩
 rw[hn]at eb hp2⊢
 rw[Int.toNat_natCast]at eb
 rw[eb]
 generalize pick seed 3 256=v at *
 simp -implicitDefEqProofs [ints]
 have hr:=hR v n (by omega)
 simp -implicitDefEqProofs [ints]at hr
 refine Aa (hr) ?_
 have hwl:IntKind.i64.wrap ((l.length:Int)+1)=(l.length:Int)+1:=Ab (by omega) (by omega)
 simp -implicitDefEqProofs [hwl]
 refine Aa (hP seed 1 (l.length+1)) ?_
 have hp1:=RD seed 1 (n:=(l.length:Int)+1) ⟨by omega,by omega⟩
 have eg:Alo l seed=(pick seed 1 (l.length+1)).toNat:=rfl
 generalize pick seed 1 (l.length+1)=k1 at hp1 eg
 obtain⟨kk,rfl⟩:∃kk:Nat,k1=kk:=⟨k1.toNat,by omega⟩
 rw[Int.toNat_natCast]at eg
 rw[eg]at hgp⊢
 simp -implicitDefEqProofs
 have hi:=hI l kk ⟨t,List.replicate n v⟩ (by omega) hgp
 simp -implicitDefEqProofs [BD,ints]at hi
 refine Aa (hi) ?_
 have hlen:(l.take kk++(⟨t,List.replicate n v⟩:Ext)::l.drop kk).length=l.length+1:=by simp;omega
 simp -implicitDefEqProofs [hlen,BD,ints]
 omega
end Go.Eng.T
