/- Own work: part 46 of the proof of FnDialing. -/
import Derived.Test.YtdoefikagfghnabGreatP45
import Derived.Lib.SlicesCompact
set_option linter.unusedSimpArgs false
set_option linter.unusedVariables false
namespace Go.Eng.T
set_option maxRecDepth 20000
set_option maxHeartbeats 1000000
theorem Ib (a b:List Int):(leftOf a b).length≤a.length:=List.length_filter_le _ _
def DL (h:Hello) (lv lt:List Int):Hello×Bool:=if AP h&& !decide (leftOf h.versions lv=[])then(⟨leftOf h.versions lv,kept (fun t=> !decide (t∈lt)) h.exts⟩,true)else(Ay,false)
abbrev H9 (R:Rel):Prop:=∀(h:Hello) (lv lt:List Int),hB h→lv.length≤4194304→lt.length≤4194304→R [arg (Ce h),.sl 1 1 lv.length (ints lv),.sl 1 1 lt.length (ints lt)] [] (.tup [.agg (Ce (DL h lv lt).1),B (DL h lv lt).2]) []
theorem Alr (D:Dn) (hI:Dg (D Fb)) (hH:Qw (D Ii)):H9 (Body D NU):=by
 intro h lv lt hh hv ht
 have hvl:=hh.1
 have hxl:=hh.2.1
 simp -implicitDefEqProofs
 refine Aa (hI h hh) ?_
 by_cases h1:AP h=true
 rotate_left
 ·simp -implicitDefEqProofs [h1,DL,Ay]
 have e1:leftOf h.versions lv=h.versions.filter (fun v=> !decide (v∈lv)):=rfl
 unfold DL
 rw[h1,e1]
 generalize hp:(fun v=> !decide (v∈lv))=p
 generalize hq:(fun t=> !decide (t∈lt))=q
 obtain⟨vs,hvs⟩:∃vs,vs=h.versions.filter p:=⟨_,rfl⟩
 rw[←hvs]
 simp -implicitDefEqProofs [h1]
 refine Ae (fun k s=>∃j o3 o4,j+k=h.versions.length∧s=⟨[.undef,.sl 1 1 lv.length (ints lv),.sl 1 1 lt.length (ints lt),.ptr 0 0,.ptr 1 0,.undef,.ptr 2 0,I j,.undef,.undef,.undef,.undef,.undef,.undef,.undef],[.var ((Ce h).map (AX 1)),.var [.nil 1,.nil 2],.var [.arr 9,.arr 10],o3,o4,.free,.free,.free,.free,.arr 1 0 ((h.versions.take j).filter p).length (ints ((h.versions.take j).filter p)),.arr 2 0 0 []]⟩) ?_ (h.versions.length) _ ⟨0,.free,.free,by simp,by simp⟩
 intro k s ⟨j,o3,o4,hj,hs⟩
 subst hs
 by_cases hjn:j<h.versions.length
 ·have hw:IntKind.i64.wrap ((j:Int)+1)=(j+1:Nat):=by rw[Ac (by omega) (by omega)];simp
  have hst:=Kt (p:=p) hjn
  have hfl:=Nb (p:=p) (xs:=h.versions) (j:=j)
  have hb1:(((h.versions.take j).filter p).length+1)*8≤1099511627776:=by omega
  have hpv:p h.versions[j]= !decide (h.versions[j]∈lv):=by rw[←hp]
  simp -implicitDefEqProofs [hjn]
  refine Aa (hH lv h.versions[j] (by unfold maxLen;omega)) ?_
  by_cases h2:h.versions[j]∈lv
  ·have h3:¬p h.versions[j]=true:=by rw[hpv];simpa using h2
   rw[if_neg h3,List.append_nil]at hst
   simp -implicitDefEqProofs [h2]
   exact⟨k-1,by omega,j+1,by omega,by simp[hw],by rw[hst],by rw[hst]⟩
  ·have h3:p h.versions[j]=true:=by rw[hpv];simpa using h2
   rw[if_pos h3]at hst
   simp -implicitDefEqProofs [h2,hjn,hb1]
   exact⟨k-1,by omega,j+1,by omega,by simp[hw],by rw[hst];simp,by rw[hst]⟩
 have e2:=K5 (p:=p) (xs:=h.versions) (j:=j) (by omega)
 rw[←hvs]at e2
 simp -implicitDefEqProofs [hjn,e2]
 refine Ae (fun k s=>∃j o3 o4 o5 o6 o7 o8,j+k=h.exts.length∧s=⟨[.undef,.undef,.sl 1 1 lt.length (ints lt),.ptr 0 0,.ptr 1 0,.undef,.ptr 2 0,.undef,I j,.undef,.undef,.undef,.undef,.undef,.undef],[.var ((Ce h).map (AX 1)),.var [.nil 1,.nil 2],.var [.arr 9,.arr 10],o3,o4,o5,o6,o7,o8,.arr 1 0 vs.length (ints vs),.arr 2 0 (kept q (h.exts.take j)).length ((kept q (h.exts.take j)).flatMap Bl)]⟩) ?_ (h.exts.length) _ ⟨0,o3,o4,.free,.free,.free,.free,by simp,by simp[kept]⟩
 intro k s ⟨j,o3,o4,o5,o6,o7,o8,hj,hs⟩
 subst hs
 by_cases hjn:j<h.exts.length
 ·have hw:IntKind.i64.wrap ((j:Int)+1)=(j+1:Nat):=by rw[Ac (by omega) (by omega)];simp
  have hb:=Ld hh.2 hjn
  have hb1:h.exts[j].body.length*8≤1099511627776:=by omega
  have hkl:=Sc (p:=q) (l:=h.exts) (j:=j)
  have hb2:((kept q (h.exts.take j)).length+1)*32≤1099511627776:=by omega
  have hpv:q h.exts[j].tag= !decide (h.exts[j].tag∈lt):=by rw[←hq]
  simp -implicitDefEqProofs [hjn]
  refine Aa (hH lt h.exts[j].tag (by unfold maxLen;omega)) ?_
  by_cases h2:h.exts[j].tag∈lt
  ·have h3:¬q h.exts[j].tag=true:=by rw[hpv];simpa using h2
   have hst:=Wd (p:=q) hjn
   rw[if_neg h3,List.append_nil]at hst
   simp -implicitDefEqProofs [h2]
   exact⟨k-1,by omega,j+1,by omega,by simp[hw],by rw[hst],by rw[hst]⟩
  ·have h3:q h.exts[j].tag=true:=by rw[hpv];simpa using h2
   have hst:=OU hjn h3
   have hsl:=G7 hjn h3
   simp -implicitDefEqProofs [h2,hjn,hb1,hb2]
   exact⟨k-1,by omega,j+1,by omega,by simp[hw],by rw[←hsl],by rw[←hst]⟩
 have e3:=R6 (p:=q) (l:=h.exts) (j:=j) (by omega)
 by_cases g:vs=[]
 ·simp -implicitDefEqProofs [hjn,e3,g,Ay]
 ·have g':¬(vs.length:Int)=0:=by
   intro h0
   exact g (List.eq_nil_of_length_eq_zero (by omega))
  simp -implicitDefEqProofs [hjn,e3,g',g]
abbrev QS (R:Rel):Prop:=∀(t:Int) (tags:List Int),tags.length≤maxLen→R [I t,.rptr 1 [.sl 0 1 tags.length (ints tags)] 0] [] (B (!decide (t∈tags))) []
theorem Amk (D:Dn) (hH:Qw (D Be)):QS (Body D KN):=by
 intro t tags hl
 simp -implicitDefEqProofs
 refine Aa (hH tags t hl) ?_
 simp -implicitDefEqProofs
theorem Alp (D:Dn) (hI:Dg (D FY)) (hL:QD (D Jr)) (h1:QS (D Qz)) (hK:Kk D (D II)):H9 (Body D NQ):=by
 intro h lv lt hh hv ht
 simp -implicitDefEqProofs
 refine Aa (hL h.versions lv hh.1 hv) ?_
 have hll:=Ib h.versions lv
 unfold DL
 generalize leftOf h.versions lv=vs at hll
 simp -implicitDefEqProofs
 refine Aa (hI h hh) ?_
 by_cases g1:AP h=true
 rotate_left
 ·simp -implicitDefEqProofs [g1,Ay]
 by_cases g:vs=[]
 ·simp -implicitDefEqProofs [g1,g,Ay]
 have g':¬(vs.length:Int)=0:=by
  intro h0
  exact g (List.eq_nil_of_length_eq_zero (by omega))
 simp -implicitDefEqProofs [g1,g',g]
 refine Aa (hK h.exts Qz _ (fun t=> !decide (t∈lt)) hh.2 (AgZ FJ) (Yv OX) (fun t=>h1 t lt (by unfold maxLen;omega))) ?_
 simp -implicitDefEqProofs
def fallback (h:Hello) (path:List EK):Hello×Bool:=DL h (Ak path h.versions) (CX path (leftOf h.versions (Ak path h.versions)) h.exts)
abbrev Kb (R:Rel):Prop:=∀(h:Hello) (path:List EK),hB h→lnS Kr path→R [arg (Ce h),.sl 1 4 path.length (path.flatMap Cz)] [] (.tup [.agg (Ce (fallback h path).1),B (fallback h path).2]) []
theorem ZO (path:List EK) (vs:List Int) (l:List Ext):(CX path vs l).length≤l.length:=by
 unfold CX Ao
 split
 ·rw[List.length_map];exact List.length_filter_le _ _
 ·simp
theorem Aoo (D:Dn) (hI:Dg (D Fb)) (hLV:DY (D PY)) (hL:QD (D Rl)) (hT:Kg (D Afm)) (hP:H9 (D AcY)):Kb (Body D Jg):=by
 intro h path hh hb
 simp -implicitDefEqProofs
 refine Aa (hI h hh) ?_
 by_cases g1:AP h=true
 rotate_left
 ·have e:fallback h path=(Ay,false):=by unfold fallback DL;simp[g1]
  simp -implicitDefEqProofs [g1,e,Ay]
 have hvl:=hh.1
 have hxl:=hh.2.1
 simp -implicitDefEqProofs [g1]
 refine Aa (hLV path h.versions hb hh.1) ?_
 have hll:=AaA path h.versions
 have e:fallback h path=DL h (Ak path h.versions) (CX path (leftOf h.versions (Ak path h.versions)) h.exts):=rfl
 rw[e]
 generalize Ak path h.versions=lv at hll
 simp -implicitDefEqProofs
 refine Aa (hL h.versions lv hh.1 (by omega)) ?_
 have hl2:=Ib h.versions lv
 generalize leftOf h.versions lv=vs at hl2
 simp -implicitDefEqProofs
 refine Aa (hT path vs h.exts hb (by omega) hh.2) ?_
 have hl3:=ZO path vs h.exts
 generalize CX path vs h.exts=lt at hl3
 simp -implicitDefEqProofs
 refine Aa (hP h lv lt hh (by omega) (by omega)) ?_
 generalize DL h lv lt=r
 simp -implicitDefEqProofs
theorem Am9 (D:Dn) (hLV:DY (D Qn)) (hL:QD (D Jr)) (hT:Kg (D Ahg)) (hP:H9 (D Ada)):Kb (Body D Ji):=by
 intro h path hh hb
 have hvl:=hh.1
 have hxl:=hh.2.1
 simp -implicitDefEqProofs [hvl]
 refine Aa (hLV path h.versions hb hh.1) ?_
 have hll:=AaA path h.versions
 have e:fallback h path=DL h (Ak path h.versions) (CX path (leftOf h.versions (Ak path h.versions)) h.exts):=rfl
 rw[e]
 generalize Ak path h.versions=lv at hll
 simp -implicitDefEqProofs
 refine Aa (hL h.versions lv hh.1 (by omega)) ?_
 have hl2:=Ib h.versions lv
 generalize leftOf h.versions lv=vs at hl2
 simp -implicitDefEqProofs
 refine Aa (hT path vs h.exts hb (by omega) hh.2) ?_
 have hl3:=ZO path vs h.exts
 generalize CX path vs h.exts=lt at hl3
 simp -implicitDefEqProofs
 refine Aa (hP h lv lt hh (by omega) (by omega)) ?_
 generalize DL h lv lt=r
 simp -implicitDefEqProofs
theorem AAE {h:Hello} {lv lt:List Int} (hh:hB h):hB (DL h lv lt).1:=by
 unfold DL
 split
 ·exact⟨Nat.le_trans (Ib _ _) hh.1,Tc hh.2 (fun t=> !decide (t∈lt))⟩
 ·exact Afz
theorem Amh {h:Hello} {path:List EK} (hh:hB h):hB (fallback h path).1:=AAE hh
def BI (h:Hello) (path:List EK):Hello×Int×Bool:=
 if AP h=true then(if Bf h path=true then(h,1,true)else if(fallback h path).2&&Bf (fallback h path).1 path then((fallback h path).1,2,true)else(Ay,2,false))else(Ay,0,false)
abbrev Kn (R:Rel):Prop:=∀(h:Hello) (path:List EK),hB h→lnS Kr path→R [arg (Ce h),.sl 1 4 path.length (path.flatMap Cz)] [] (.tup [.agg (Ce (BI h path).1),I (BI h path).2.1,B (BI h path).2.2]) []
theorem AmO (D:Dn) (hI:Dg (D Fb)) (hW:EY (D ZY)) (hC:Jz (D VD)) (hF:Kb (D WW)):Kn (Body D Pe):=by
 intro h path hh hb
 simp -implicitDefEqProofs
 refine Aa (hI h hh) ?_
 by_cases g1:AP h=true
 rotate_left
 ·simp -implicitDefEqProofs [g1,BI,Ay]
 simp -implicitDefEqProofs [g1]
 refine Aa (hW h path hh hb) ?_
 by_cases g2:Bf h path=true
 ·simp -implicitDefEqProofs [g2]
  refine Aa (hC h hh) ?_
  simp -implicitDefEqProofs [BI,g1,g2]
 simp -implicitDefEqProofs [g2]
 refine Aa (hF h path hh hb) ?_
 have hr:=Amh (path:=path) hh
 have e:BI h path=(if(fallback h path).2&&Bf (fallback h path).1 path then((fallback h path).1,2,true)else(Ay,2,false)):=by unfold BI;rw[if_pos g1,if_neg g2]
 rw[e]
 generalize fallback h path=r at hr
 by_cases g3:r.2=true
 rotate_left
 ·simp -implicitDefEqProofs [g3,Ay]
 simp -implicitDefEqProofs [g3]
 refine Aa (hW r.1 path hr hb) ?_
 by_cases g4:Bf r.1 path=true
 ·simp -implicitDefEqProofs [g3,g4]
 ·simp -implicitDefEqProofs [g3,g4,Ay]
theorem AnD (D:Dn) (hI:Dg (D FY)) (hW:EY (D QU)) (hC:Jz (D Ux)) (hF:Kb (D Wy)):Kn (Body D Pt):=by
 intro h path hh hb
 simp -implicitDefEqProofs
 refine Aa (hI h hh) ?_
 by_cases g1:AP h=true
 rotate_left
 ·simp -implicitDefEqProofs [g1,BI,Ay]
 simp -implicitDefEqProofs [g1]
 refine Aa (hW h path hh hb) ?_
 by_cases g2:Bf h path=true
 ·simp -implicitDefEqProofs [g2]
  refine Aa (hC h hh) ?_
  simp -implicitDefEqProofs [BI,g1,g2]
 simp -implicitDefEqProofs [g2]
 refine Aa (hF h path hh hb) ?_
 have hr:=Amh (path:=path) hh
 have e:BI h path=(if(fallback h path).2&&Bf (fallback h path).1 path then((fallback h path).1,2,true)else(Ay,2,false)):=by unfold BI;rw[if_pos g1,if_neg g2]
 rw[e]
 generalize fallback h path=r at hr
 by_cases g3:r.2=true
 rotate_left
 ·simp -implicitDefEqProofs [g3,Ay]
 simp -implicitDefEqProofs [g3]
 refine Aa (hW r.1 path hr hb) ?_
 by_cases g4:Bf r.1 path=true
 ·simp -implicitDefEqProofs [g3,g4]
 ·simp -implicitDefEqProofs [g3,g4,Ay]
theorem Ase {h:Hello} {path:List EK} (hh:hB h):hB (BI h path).1:=by
 unfold BI
 split
 ·split
  ·exact hh
  ·split
   ·exact Amh hh
   ·exact Afz
 ·exact Afz
end Go.Eng.T
namespace Go.Eng.T
set_option maxRecDepth 20000
set_option maxHeartbeats 1000000
def Gf:List Int→Int→Nat
 | [],_=>0
 | x::r,v=>if x<v then Gf r v+1 else 0
theorem Asy:∀(l:List Int) (v:Int),Gf l v≤l.length
 | [],_=>Nat.le_refl 0
 | x::r,v=>by
  have:=Asy r v
  simp only[Gf,List.length_cons]
  split<;>omega
theorem AtQ {l:List Int} {v:Int} {j:Nat} (h:j<l.length) (hv:l[j]<v):Gf (l.drop j) v=Gf (l.drop (j+1)) v+1:=by
 rw[List.drop_eq_getElem_cons h]
 simp only[Gf,if_pos hv]
theorem AjW {l:List Int} {v:Int} {j:Nat} (h:j<l.length) (hv:¬l[j]<v):Gf (l.drop j) v=0:=by
 rw[List.drop_eq_getElem_cons h]
 simp only[Gf,if_neg hv]
theorem Aw4 {l:List Int} {v:Int} {j:Nat} (h:l.length≤j):Gf (l.drop j) v=0:=by rw[List.drop_eq_nil_of_le h];rfl
def Aqk (l:List Int) (i:Nat) (v:Int):List Int:=l.take i++v::l.drop i
theorem Ays {l:List Int} {i:Nat} {v:Int} (h:i≤l.length):(Aqk l i v).length=l.length+1:=by simp[Aqk];omega
def Gb (l:List Int) (v:Int):List Int:=if l[Gf l v]? =some v then l else Aqk l (Gf l v) v
theorem U5 (l:List Int) (v:Int):(Gb l v).length≤l.length+1:=by
 unfold Gb
 split
 ·omega
 ·rw[Ays (Asy l v)];omega
abbrev TF (R:Rel):Prop:=∀(l:List Int) (v:Int),l.length≤4194304→R [.sl 1 1 l.length (ints l),I v] [] (.sl 0 1 (Gb l v).length (ints (Gb l v))) []
theorem AzD (D:Dn):TF (Body D Vj):=by
 intro l v hl
 simp -implicitDefEqProofs
 refine Ae (fun k s=>∃j,j+k=l.length∧Gf l v=j+Gf (l.drop j) v∧s=⟨[.sl 1 1 l.length (ints l),I v,.undef,I j,.undef,.undef],[.free,.free,.free,.free,.free,.free,.free]⟩) ?_ (l.length) _ ⟨0,by simp,by simp,by simp⟩
 intro k s ⟨j,hj,hp,hs⟩
 subst hs
 by_cases hjn:j<l.length
 ·have hw:IntKind.i64.wrap ((j:Int)+1)=(j+1:Nat):=by rw[Ac (by omega) (by omega)];simp
  by_cases hv:l[j]<v
  ·have hst:=AtQ hjn hv
   simp -implicitDefEqProofs [hjn,hv]
   exact⟨k-1,by omega,j+1,by omega,by omega,by simp[hw]⟩
  ·have hst:=AjW hjn hv
   have hpe:Gf l v=j:=by omega
   have b1:l.length*8≤1099511627776:=by omega
   have b2:j*8≤1099511627776:=by omega
   have b3:(j+1)*8≤1099511627776:=by omega
   have b4:(j+1+(l.length-j))*8≤1099511627776:=by omega
   have hjl:j≤l.length:=by omega
   have hjl':(j:Int)≤l.length:=by omega
   have hmin:min j l.length=j:=by omega
   have htk:List.take (l.length-j) (List.drop j l)=List.drop j l:=List.take_of_length_le (by simp)
   by_cases he:l[j]=v
   ·have e:Gb l v=l:=by unfold Gb;rw[hpe,List.getElem?_eq_getElem hjn,he,if_pos rfl]
    rw[e]
    simp -implicitDefEqProofs [hjn,hv,he,b1]
   ·have e:Gb l v=l.take j++v::l.drop j:=by unfold Gb Aqk;rw[hpe,List.getElem?_eq_getElem hjn,if_neg (by simpa using he)]
    have el:(Gb l v).length=j+1+(l.length-j):=by rw[e];simp;omega
    simp -implicitDefEqProofs [hjn,hv,he,hjl,hjl',hmin,b2,b3,b4]
    rw[el,e]
    simp[htk,Ae3]
 ·have hst:=Aw4 (v:=v) (l:=l) (j:=j) (by omega)
  have hpe:Gf l v=j:=by omega
  have b1:l.length*8≤1099511627776:=by omega
  have b2:j*8≤1099511627776:=by omega
  have b3:(j+1)*8≤1099511627776:=by omega
  have b4:(j+1+(l.length-j))*8≤1099511627776:=by omega
  have hjl:j≤l.length:=by omega
  have hjl':(j:Int)≤l.length:=by omega
  have hmin:min j l.length=j:=by omega
  have htk:List.take (l.length-j) (List.drop j l)=List.drop j l:=List.take_of_length_le (by simp)
  have e:Gb l v=l.take j++v::l.drop j:=by unfold Gb Aqk;rw[hpe,List.getElem?_eq_none (by omega),if_neg (by simp)]
  have el:(Gb l v).length=j+1+(l.length-j):=by rw[e];simp;omega
  simp -implicitDefEqProofs [hjn,hjl,hjl',hmin,b2,b3,b4]
  rw[el,e]
  simp[htk,Ae3]
end Go.Eng.T
namespace Go.Eng.T
set_option maxRecDepth 20000
set_option maxHeartbeats 1000000
def AEi {α:Type} (f:α→α) (xs:List α) (j:Nat):List α:=(xs.take j).map f++xs.drop j
section
variable {α:Type} {f:α→α} {xs:List α} {j:Nat}
@[simp] theorem AD7 (h:j≤xs.length):(AEi f xs j).length=xs.length:=by simp[AEi];omega
end
def Aw8 (w:World) (e:Ai):Ai:=if 0<AB w.server (AfB e.versions w.rollout.version)then⟨AfB e.versions w.rollout.version,e.tags,e.path,e.cls⟩else e
def leave (w:World):World:={w with ends:=w.ends.map (Aw8 w),stage:=[]}
end Go.Eng.T
namespace Go.Eng.T
end Go.Eng.T
namespace Go.Eng.T
set_option maxRecDepth 20000
set_option maxHeartbeats 2000000
def ABD {α:Type} (f:Nat→α→α) (xs:List α) (j:Nat):List α:=xs.mapIdx fun i x=>if i<j then f i x else x
section
variable {α:Type} {f:Nat→α→α} {xs:List α} {j:Nat}
@[simp] theorem ADx:(ABD f xs j).length=xs.length:=by simp[ABD]
end
def AwM (w:World) (i:Nat) (e:Ai):Ai:=if isIn w.rollout i w.ends.length=true then⟨Gb e.versions w.rollout.version,e.tags,e.path,e.cls⟩else e
def Ax5 (w:World):Bool:=Br w.rollout&& !w.rollout.off
def enter (w:World):World:=if Ax5 w=true then {w with ends:=w.ends.mapIdx (AwM w),stage:=[],reached:=max w.reached (w.rollout.pos+1)}else w
abbrev ArJ (R:Rel):Prop:=∀a b:Int,R [I a,I b] [] (I (max a b)) []
abbrev AsQ (R:Rel):Prop:=∀a b:Int,R [I a,I b] [] (I (min a b)) []
theorem AB9 (D:Dn):ArJ (Body D AbR):=by
 intro a b
 by_cases h:a<b
 ·have e:max a b=b:=by omega
  simp -implicitDefEqProofs [h,e]
 ·have e:max a b=a:=by omega
  simp -implicitDefEqProofs [h,e]
theorem ACd (D:Dn):AsQ (Body D Abp):=by
 intro a b
 by_cases h:a<b
 ·have e:min a b=a:=by omega
  simp -implicitDefEqProofs [h,e]
  intro;omega
 ·have e:min a b=b:=by omega
  simp -implicitDefEqProofs [h,e]
  intro;omega
end Go.Eng.T
namespace Go.Eng.T
set_option maxRecDepth 20000
set_option maxHeartbeats 2000000
open Go.Lib (compact compactUpTo keeps)
abbrev Up (l:List Int):Prop:=l.Pairwise (· < ·)
theorem Aqm:∀ {a b:List Int},Up a→Up b→(∀x,x∈a↔x∈b)→a=b
 | [],[],_,_,_=>rfl
 | [],y::b,_,_,h=>by have:=(h y).2 (by simp);simp at this
 | x::a,[],_,_,h=>by have:=(h x).1 (by simp);simp at this
 | x::a,y::b,ha,hb,h=>by
  rw[Up,List.pairwise_cons]at ha hb
  have hxy:x=y:=by
   have h1:=(h x).1 (by simp)
   have h2:=(h y).2 (by simp)
   rcases List.mem_cons.1 h1 with e | h1
   ·exact e
   ·rcases List.mem_cons.1 h2 with e | h2
    ·exact e.symm
    ·have:=hb.1 x h1;have:=ha.1 y h2;omega
  subst hxy
  congr 1
  refine Aqm ha.2 hb.2 fun z=>⟨fun hz=> ?_,fun hz=> ?_⟩
  ·rcases List.mem_cons.1 ((h z).1 (by simp[hz]))with e | h1
   ·subst e;have:=ha.1 z hz;omega
   ·exact h1
  ·rcases List.mem_cons.1 ((h z).2 (by simp[hz]))with e | h1
   ·subst e;have:=hb.1 z hz;omega
   ·exact h1
theorem KT:∀(l:List Int) (v x:Int),x∈Gb l v↔x∈l∨x=v:=by
 intro l v x
 unfold Gb
 split
 ·rename_i h
  constructor
  ·exact .inl
  ·rintro (h1 | rfl)
   ·exact h1
   ·exact List.mem_of_getElem? h
 ·unfold Aqk
  rw[List.mem_append,List.mem_cons]
  have:x∈l↔x∈l.take (Gf l v)∨x∈l.drop (Gf l v):=by
   conv=>lhs;rw[←List.take_append_drop (Gf l v) l,List.mem_append]
  rw[this]
  constructor
  ·rintro (h1 | h1 | h1)
   ·exact .inl (.inl h1)
   ·exact .inr h1
   ·exact .inl (.inr h1)
  ·rintro ((h1 | h1) | h1)
   ·exact .inl h1
   ·exact .inr (.inr h1)
   ·exact .inr (.inl h1)
theorem AcB:∀(l:List Int) (v x:Int),x∈l.take (Gf l v)→x<v
 | [],v,x,h=>by simp at h
 | y::r,v,x,h=>by
  simp only[Gf]at h
  split at h
  ·rw[List.take_succ_cons]at h
   rcases List.mem_cons.1 h with rfl | h
   ·assumption
   ·exact AcB r v x h
  ·simp at h
theorem YS:∀ {l:List Int} (v:Int),Up l→Up (Gb l v):=by
 intro l v hl
 unfold Gb
 split
 ·exact hl
 ·rename_i hne
  unfold Aqk Up
  rw[List.pairwise_append,List.pairwise_cons]
  have hb:=AcB l v
  have hafter:∀y,y∈l.drop (Gf l v)→v<y:=by
   intro y hy
   by_cases hk:Gf l v<l.length
   ·have hs:=AjW (l:=l) (v:=v) hk (by
     intro hlt
     have key:∀(l:List Int) (h:Gf l v<l.length),¬l[Gf l v]<v:=by
      intro l
      induction l with
      | nil=>intro h;simp at h
      | cons x r ih=>
       intro h
       by_cases hx:x<v
       ·have e:Gf (x::r) v=Gf r v+1:=by simp[Gf,hx]
        have h':Gf r v<r.length:=by rw[e]at h;simpa using h
        have:=ih h'
        simp only[e,List.getElem_cons_succ]
        exact this
       ·have e:Gf (x::r) v=0:=by simp[Gf,hx]
        simp only[e,List.getElem_cons_zero]
        exact hx
     exact key l hk hlt)
    have key:∀(l:List Int) (h:Gf l v<l.length),¬l[Gf l v]<v:=by
     intro l
     induction l with
     | nil=>intro h;simp at h
     | cons x r ih=>
      intro h
      by_cases hx:x<v
      ·have e:Gf (x::r) v=Gf r v+1:=by simp[Gf,hx]
       have h':Gf r v<r.length:=by rw[e]at h;simpa using h
       have:=ih h'
       simp only[e,List.getElem_cons_succ]
       exact this
      ·have e:Gf (x::r) v=0:=by simp[Gf,hx]
       simp only[e,List.getElem_cons_zero]
       exact hx
    have h1:=key l hk
    have h2:l[Gf l v]≠v:=by
     intro e;apply hne;rw[List.getElem?_eq_getElem hk,e]
    rw[List.drop_eq_getElem_cons hk]at hy
    have hp:(l[Gf l v]::l.drop (Gf l v+1)).Pairwise (· < ·):=by rw[←List.drop_eq_getElem_cons hk];exact hl.drop
    rw[List.pairwise_cons]at hp
    rcases List.mem_cons.1 hy with rfl | hy
    ·omega
    ·have:=hp.1 y hy;omega
   ·rw[List.drop_eq_nil_of_le (by omega)]at hy;simp at hy
  refine⟨hl.take,⟨hafter,hl.drop⟩,fun a ha b hb'=> ?_⟩
  have h1:=hb a ha
  rcases List.mem_cons.1 hb' with rfl | hb'
  ·exact h1
  ·have:=hafter b hb';omega
def X0 (l:List Int) (xs:List Int):List Int:=xs.foldl Gb l
theorem At9:∀ {xs l:List Int},Up l→Up (X0 l xs)
 | [],_,h=>h
 | x::xs,l,h=>At9 (xs:=xs) (YS x h)
theorem Aqu:∀(xs l:List Int) (x:Int),x∈X0 l xs↔x∈l∨x∈xs
 | [],l,x=>by simp[X0]
 | y::xs,l,x=>by
  have:=Aqu xs (Gb l y) x
  unfold X0 at *
  rw[List.foldl_cons,this,KT,List.mem_cons]
  constructor
  ·rintro ((h | h) | h)
   ·exact .inl h
   ·exact .inr (.inl h)
   ·exact .inr (.inr h)
  ·rintro (h | h | h)
   ·exact .inl (.inl h)
   ·exact .inl (.inr h)
   ·exact .inr h
theorem AqB:∀(xs l:List Int),(X0 l xs).length≤l.length+xs.length
 | [],l=>by simp[X0]
 | x::xs,l=>by
  have h1:=AqB xs (Gb l x)
  have h2:=U5 l x
  unfold X0 at *
  simp only[List.foldl_cons,List.length_cons]
  omega
def ACn (r:EP) (i:Nat):EP:=⟨r.version,r.stages,i,r.off⟩
def AC3 (r:EP) (n:Int):Nat→Int
 | 0=>0
 | k+1=>max (AC3 r n k) (countIn (ACn r k) n)
end Go.Eng.T
namespace Go.Eng.T
set_option maxRecDepth 20000
theorem AnO (D:Dn) (hA:Gu (D Gj)) (hI:Tg (D Bz)):VU (Body D PW):=by
 intro g b l p
 simp -implicitDefEqProofs
 refine Aa (hA [g,b,l] 0 10000 (by unfold maxLen;simp)) ?_
 by_cases h1:allIn [g,b,l] 0 10000=true
 rotate_left
 ·have e:F8 g b l p=0:=by
   unfold F8
   rw[if_pos]
   simp[allIn]at h1
   by_cases a:Ov g 0 10000
   ·by_cases c:Ov b 0 10000
    ·right;right;left;intro h;have:=h1 a.1 a.2 c.1 c.2 (by omega);omega
    ·exact .inr (.inl c)
   ·exact .inl a
  simp -implicitDefEqProofs [h1,e]
 have h1':Ov g 0 10000∧Ov b 0 10000∧Ov l 0 10000:=by simpa[allIn]using h1
 by_cases h2:l=0
 ·have e:F8 g b l p=0:=by unfold F8;rw[if_pos (by right;right;left;omega)]
  subst h2
  simp -implicitDefEqProofs [h1,e]
 simp -implicitDefEqProofs [h1,h2]
 refine Aa (hI _ _ _) ?_
 by_cases h4:Ov p 0 100
 rotate_left
 ·simp -implicitDefEqProofs [h2,h4,F8]
 have w1:IntKind.i64.wrap (100*b)=100*b:=Ac (by omega) (by omega)
 have w2:=Aj7 h4.1 h4.2 (x:=l) (by omega) (by omega)
 have w3:=Aj7 h4.1 h4.2 (x:=g+b) (by omega) (by omega)
 have w4:IntKind.i64.wrap (g+b)=g+b:=Ac (by omega) (by omega)
 have e:F8 g b l p=if 100*b>p*l∧100*b>p*(g+b)then 2 else if g+b<l then 0 else if 100*b≤p*(g+b)then 1 else 2:=by unfold F8;rw[if_neg (by omega)]
 rw[e]
 clear e
 by_cases c1:p*l<100*b
 ·by_cases c2:p*(g+b)<100*b
  ·simp -implicitDefEqProofs [h2,h4,w1,w2,w3,w4,c1,c2]
  ·have c3:100*b≤p*(g+b):=by omega
   by_cases c4:g+b<l
   ·simp -implicitDefEqProofs [h2,h4,w1,w2,w3,w4,c1,c2,c3,c4]
   ·simp -implicitDefEqProofs [h2,h4,w1,w2,w3,w4,c1,c2,c3,c4]
 ·by_cases c4:g+b<l
  ·simp -implicitDefEqProofs [h2,h4,w1,w2,w3,w4,c1,c4]
  ·by_cases c3:100*b≤p*(g+b)
   ·simp -implicitDefEqProofs [h2,h4,w1,w2,w3,w4,c1,c3,c4]
   ·simp -implicitDefEqProofs [h2,h4,w1,w2,w3,w4,c1,c3,c4]
theorem AoI (D:Dn) (hB:Gy (D AnC)):Wl (Body D P5):=by
 intro xs v hl hu
 unfold maxLen at hl
 simp -implicitDefEqProofs
 refine Ae (fun k s=>∃j o,j+k=xs.length∧s=⟨[.undef,.sc (.int .i64 v),.undef,.undef,.sc (.int .i64 (cntF (goodD v) (xs.take j))),.sc (.int .i64 (cntF (SE v) (xs.take j))),.undef,.sl 1 5 xs.length (xs.flatMap A7),.sc (.int .i64 xs.length),.sc (.int .i64 j),.undef,.undef,.undef],[o]⟩) ?_ xs.length _ ⟨0,.free,by simp,by simp[cntF]⟩
 intro k s ⟨j,o0,hj,hs⟩
 subst hs
 by_cases hjn:j<xs.length
 ·have hw:IntKind.i64.wrap ((j:Int)+1)=(j+1:Nat):=by rw[Ac (by omega) (by omega)];simp
  have hc:=Aom (f:=goodD v) hjn
  have hb:=Aom (f:=SE v) hjn
  have hcl:=AxC (f:=goodD v) (xs:=xs) (j:=j) (by omega)
  have hbl:=AxC (f:=SE v) (xs:=xs) (j:=j) (by omega)
  have hw2:IntKind.i64.wrap ((cntF (goodD v) (xs.take j):Int)+1)=(cntF (goodD v) (xs.take j)+1:Nat):=by rw[Ac (by omega) (by omega)];simp
  have hw3:IntKind.i64.wrap ((cntF (SE v) (xs.take j):Int)+1)=(cntF (SE v) (xs.take j)+1:Nat):=by rw[Ac (by omega) (by omega)];simp
  simp -implicitDefEqProofs [hjn]
  refine Aa (hB xs[j] v (hu j hjn)) ?_
  by_cases hbd:SE v xs[j]=true
  ·simp -implicitDefEqProofs [hbd]
   exact⟨k-1,by omega,j+1,by omega,by rw[hc];simp[goodD,hbd],by rw[hb,hw3];simp[hbd],by simp[hw]⟩
  ·by_cases h4:v≤xs[j].deal.version
   ·simp -implicitDefEqProofs [hbd,h4]
    exact⟨k-1,by omega,j+1,by omega,by rw[hc,hw2];simp[goodD,hbd,h4],by rw[hb];simp[hbd],by simp[hw]⟩
   ·simp -implicitDefEqProofs [hbd,h4]
    exact⟨k-1,by omega,j+1,by omega,by rw[hc];simp[goodD,hbd,h4],by rw[hb];simp[hbd],by simp[hw]⟩
 ·have hx:=AsH (f:=goodD v) (xs:=xs) (j:=j) (by omega)
  have hy:=AsH (f:=SE v) (xs:=xs) (j:=j) (by omega)
  simp -implicitDefEqProofs [hjn,hx,hy]
theorem AqW {w:World} (h:Bo w≤4194304):∀(j:Nat) (hj:j<w.stage.length),w.stage[j].up.length≤maxLen:=by
 intro j hj
 have:=size_at (f:=BJ) hj
 unfold Bo at h
 have e:BJ w.stage[j]=XI w.stage[j].deal+w.stage[j].up.length:=rfl
 unfold maxLen;omega
def SB (w:World):Int:=F8 (cntF (goodD w.rollout.version) w.stage) (cntF (SE w.rollout.version) w.stage) w.least w.percent
abbrev TH (R:Rel):Prop:=∀w:World,Bo w≤4194304→R [arg (FH w)] [] (I (SB w)) []
theorem AmA (D:Dn) (hM:Wl (D Ahn)) (hS:VU (D AfY)):TH (Body D Oc):=by
 intro w h
 simp -implicitDefEqProofs
 refine Aa (hM w.stage _ (by have:=Acx h;unfold maxLen;omega) (AqW h)) ?_
 simp -implicitDefEqProofs
 refine Aa (hS _ _ _ _) ?_
 simp -implicitDefEqProofs [SB]
end Go.Eng.T
namespace Go.Eng.T
set_option maxRecDepth 20000
set_option maxHeartbeats 2000000
theorem up9:∀ {l:List Int} {a:Int},Up l→(∀x,x∈l→a<x∧x≤9)→(l.length:Int)≤9-a∨l=[]
 | [],_,_,_=> .inr rfl
 | x::r,a,h,hb=>by
  rw[Up,List.pairwise_cons]at h
  have h0:=hb x (by simp)
  have:=up9 (l:=r) (a:=x) h.2 (fun y hy=>⟨h.1 y hy,(hb y (by simp[hy])).2⟩)
  left
  rcases this with h1 | rfl
  ·simp only[List.length_cons];omega
  ·simp;omega
theorem Awj {l:List Int} (h:Ar l=true):l.length≤9:=by
 have:=up9 (l:=l) (a:=0) (MH h) (fun x hx=>by have:=MX h x hx;exact⟨by omega,by omega⟩)
 rcases this with h1 | rfl
 ·omega
 ·simp
end Go.Eng.T
namespace Go.Eng.T
set_option maxRecDepth 20000
set_option maxHeartbeats 1000000
theorem Ayn {D:Dn} {c:Cf} {a:SC} {Q:Out→St→Prop} {s:St} (h:swp D c a (fun o s'=>match o with | .normal=>False | o=>Q o s') s):swp D c (.loop a) Q s:=⟨1,h⟩
def inB (t:Int):Bool:=decide (Ov t 0 255)
def Acs (b:List Int) (t:Int):Bool:= !decide (t∈b)&&inB t
def Ud (h x:Hello):List Int:=leftOf h.versions x.versions++((Ao h.exts).filter (Acs (Ao x.exts))).map (fun t=>1000+t)
theorem Atm (a b:List Int):(leftOf a b).filter inB=a.filter (Acs b):=by
 unfold leftOf
 rw[List.filter_filter]
 congr 1
 funext t
 unfold Acs
 cases inB t<;>cases decide (t∈b)<;>rfl
abbrev M8 (R:Rel):Prop:=∀h x:Hello,hB h→hB x→R [arg (Ce h),arg (Ce x)] [] (.sl 0 1 (Ud h x).length (ints (Ud h x))) []
theorem AkI {p:Int→Bool} {a l:List Int} {j:Nat} (h:j<l.length):
 a++((l.take (j+1)).filter p).map (fun t=>1000+t)=(a++((l.take j).filter p).map (fun t=>1000+t))++(if p l[j]then [1000+l[j]]else []):=by
 rw[Kt h,List.map_append,List.append_assoc]
 split<;>simp
theorem Am6 {p:Int→Bool} {a l:List Int} {j:Nat}:(a++((l.take j).filter p).map (fun t=>1000+t)).length≤a.length+j:=by
 have:=Nb (p:=p) (xs:=l) (j:=j)
 simp only[List.length_append,List.length_map];omega
theorem AqE (D:Dn) (hL:QD (D Rl)) (hX:NC (D QG)) (hI:Tg (D CF)):M8 (Body D Ru):=by
 intro h x hh hx
 have hxl:=hx.2.1
 have hhl:=hh.2.1
 have hvl:=hh.1
 simp -implicitDefEqProofs
 refine Aa (hL h.versions x.versions hh.1 hx.1) ?_
 have hal:=Ib h.versions x.versions
 have e:Ud h x=leftOf h.versions x.versions++((Ao h.exts).filter (Acs (Ao x.exts))).map (fun t=>1000+t):=rfl
 rw[e]
 have hpd:∀t,Acs (Ao x.exts) t=(!decide (t∈Ao x.exts)&&inB t):=fun t=>rfl
 generalize leftOf h.versions x.versions=a at hal
 generalize Acs (Ao x.exts)=p at hpd
 have htl:(Ao h.exts).length=h.exts.length:=Jw _
 have hte:∀j (hj:j<h.exts.length),(Ao h.exts)[j]'(by omega)=h.exts[j].tag:=fun j hj=>by simp[Ao]
 obtain⟨l,hl⟩:∃l,l=Ao h.exts:=⟨_,rfl⟩
 rw[←hl]at htl⊢
 simp -implicitDefEqProofs
 refine Ae (fun k s=>∃j o3 o4,j+k=h.exts.length∧s=⟨[.undef,.undef,.ptr 0 0,.ptr 1 0,.undef,.arr 5,I j,.undef,.undef],[.var ((Ce h).map (AX 1)),.var ((Ce x).map (AX 1)),.free,o3,o4,.arr 1 0 (a++((l.take j).filter p).map (fun t=>1000+t)).length (ints (a++((l.take j).filter p).map (fun t=>1000+t)))]⟩) ?_ (h.exts.length) _ ⟨0,.free,.free,by simp,by simp⟩
 intro k s ⟨j,o3,o4,hj,hs⟩
 subst hs
 by_cases hjn:j<h.exts.length
 ·have hw:IntKind.i64.wrap ((j:Int)+1)=(j+1:Nat):=by rw[Ac (by omega) (by omega)];simp
  have hjl:j<l.length:=by omega
  have hlt:l[j]=h.exts[j].tag:=by subst hl;exact hte j hjn
  have hst:=AkI (p:=p) (a:=a) hjl
  have hfl:=Am6 (p:=p) (a:=a) (l:=l) (j:=j)
  have hb1:((a++((l.take j).filter p).map (fun t=>1000+t)).length+1)*8≤1099511627776:=by omega
  have hpt:=hpd l[j]
  rw[hlt]at hst hpt
  generalize a++((l.take j).filter p).map (fun t=>1000+t)=r at hst hfl hb1
  simp -implicitDefEqProofs [hjn]
  refine Aa (hX x.exts h.exts[j].tag (by unfold maxLen;omega)) ?_
  by_cases h1:h.exts[j].tag∈Ao x.exts
  ·have h3:¬p h.exts[j].tag=true:=by rw[hpt];simp[h1]
   have h1':¬Ij x.exts h.exts[j].tag<0:=by rw[Kh];simpa using h1
   rw[if_neg h3,List.append_nil]at hst
   simp -implicitDefEqProofs [h1']
   have hsl:=congrArg List.length hst
   simp only[List.length_append,List.length_map]at hsl
   exact⟨k-1,by omega,j+1,by omega,by simp[hw],by omega,by rw[hst]⟩
  have h1':Ij x.exts h.exts[j].tag<0:=by rw[Kh];exact h1
  simp -implicitDefEqProofs [h1',hjn]
  refine Aa (hI _ _ _) ?_
  by_cases h2:Ov h.exts[j].tag 0 255
  ·have h3:p h.exts[j].tag=true:=by rw[hpt];simp[h1,inB,h2]
   rw[if_pos h3]at hst
   have hw2:IntKind.i64.wrap (1000+h.exts[j].tag)=1000+h.exts[j].tag:=Ac (by have:=h2.1;omega) (by have:=h2.2;omega)
   simp -implicitDefEqProofs [h2,hjn,hb1,hw2]
   have hsl:=congrArg List.length hst
   simp only[List.length_append,List.length_map,List.length_cons,List.length_nil]at hsl
   exact⟨k-1,by omega,j+1,by omega,by simp[hw],by omega,by rw[hst]⟩
  ·have h3:¬p h.exts[j].tag=true:=by rw[hpt];simp[h1,inB,h2]
   rw[if_neg h3,List.append_nil]at hst
   simp -implicitDefEqProofs [h2]
   have hsl:=congrArg List.length hst
   simp only[List.length_append,List.length_map]at hsl
   exact⟨k-1,by omega,j+1,by omega,by simp[hw],by omega,by rw[hst]⟩
 ·have e2:=K5 (p:=p) (xs:=l) (j:=j) (by omega)
  simp -implicitDefEqProofs [hjn,e2]
theorem AqV (D:Dn) (hL:QD (D Jr)) (hT:JH (D OA)) (hI:Tg (D Bz)):M8 (Body D Rm):=by
 intro h x hh hx
 have hxl:=hx.2.1
 have hhl:=hh.2.1
 have hvl:=hh.1
 simp -implicitDefEqProofs
 refine Aa (hL h.versions x.versions hh.1 hx.1) ?_
 have hal:=Ib h.versions x.versions
 have e:Ud h x=leftOf h.versions x.versions++((Ao h.exts).filter (Acs (Ao x.exts))).map (fun t=>1000+t):=rfl
 rw[e,←Atm]
 generalize leftOf h.versions x.versions=a at hal
 simp -implicitDefEqProofs
 refine Aa (hT h.exts hh.2.1) ?_
 simp -implicitDefEqProofs
 refine Aa (hT x.exts hx.2.1) ?_
 simp -implicitDefEqProofs
 refine Aa (hL (Ao h.exts) (Ao x.exts) (by rw[Jw];omega) (by rw[Jw];omega)) ?_
 have hll:=Ib (Ao h.exts) (Ao x.exts)
 rw[Jw]at hll
 generalize leftOf (Ao h.exts) (Ao x.exts)=l at hll
 generalize hpd:inB=p
 simp -implicitDefEqProofs
 refine Ae (fun k s=>∃j v6 o6 o7,j+k=l.length∧s=⟨[.undef,.undef,.undef,.undef,.undef,.arr 8,v6,.arr 5,I l.length,I j,.undef,.undef],[.var ((Ce h).map (AX 1)),.var ((Ce x).map (AX 1)),.free,.arr 1 0 (Ao h.exts).length (ints (Ao h.exts)),.arr 1 0 (Ao x.exts).length (ints (Ao x.exts)),.arr 1 0 l.length (ints l),o6,o7,.arr 1 0 (a++((l.take j).filter p).map (fun t=>1000+t)).length (ints (a++((l.take j).filter p).map (fun t=>1000+t)))]⟩) ?_ (l.length) _ ⟨0,.undef,.free,.free,by simp,by simp⟩
 intro k s ⟨j,v6,o6,o7,hj,hs⟩
 subst hs
 by_cases hjn:j<l.length
 ·have hw:IntKind.i64.wrap ((j:Int)+1)=(j+1:Nat):=by rw[Ac (by omega) (by omega)];simp
  have hst:=AkI (p:=p) (a:=a) hjn
  have hfl:=Am6 (p:=p) (a:=a) (l:=l) (j:=j)
  have hb1:((a++((l.take j).filter p).map (fun t=>1000+t)).length+1)*8≤1099511627776:=by omega
  have hpt:p l[j]=inB l[j]:=by rw[hpd]
  generalize a++((l.take j).filter p).map (fun t=>1000+t)=r at hst hfl hb1
  simp -implicitDefEqProofs [hjn]
  refine Aa (hI _ _ _) ?_
  by_cases h2:Ov l[j] 0 255
  ·have h3:p l[j]=true:=by rw[hpt];simp[inB,h2]
   rw[if_pos h3]at hst
   have hw2:IntKind.i64.wrap (1000+l[j])=1000+l[j]:=Ac (by have:=h2.1;omega) (by have:=h2.2;omega)
   simp -implicitDefEqProofs [h2,hjn,hb1,hw2]
   have hsl:=congrArg List.length hst
   simp only[List.length_append,List.length_map,List.length_cons,List.length_nil]at hsl
   exact⟨k-1,by omega,j+1,by omega,by simp[hw],by omega,by rw[hst]⟩
  ·have h3:¬p l[j]=true:=by rw[hpt];simp[inB,h2]
   rw[if_neg h3,List.append_nil]at hst
   simp -implicitDefEqProofs [h2]
   have hsl:=congrArg List.length hst
   simp only[List.length_append,List.length_map]at hsl
   exact⟨k-1,by omega,j+1,by omega,by simp[hw],by omega,by rw[hst]⟩
 ·have e2:=K5 (p:=p) (xs:=l) (j:=j) (by omega)
  simp -implicitDefEqProofs [hjn,e2]
def D8:Arb:=⟨false,0,[]⟩
def TR (h seen:Hello) (vs tags:List Int) (key:Int):Arb:=
 if(AU vs tags seen).2&&(Cy h (AU vs tags seen).1&&(!decide (BS key [AJ h,Au (AU vs tags seen).1] 1=0)&&
  decide (BS key [AJ h,Au (AU vs tags seen).1] 1=BS key [AJ seen,Au (AU vs tags seen).1] 1)))
 then⟨true,(AU vs tags seen).1.version,Ao (AU vs tags seen).1.exts⟩else D8
theorem Aoz (h:Hello):(AJ h).length≤47:=by
 unfold AJ
 have:=Km h.exts
 split
 ·rename_i hc
  have:=Awj (SX hc)
  simp only[List.length_append,List.length_cons];omega
 ·simp
theorem AlX (h:Hello) (a:O7):GH [AJ h,Au a]≤4194304:=by
 have h1:=Aoz h
 have h2:=Adk a
 simp[GH,Er]
 omega
theorem AfJ {vs tags:List Int} {h:Hello} (hh:hB h):Q8 (AU vs tags h).1.exts:=by
 unfold AU
 split
 ·exact Tc (Tc hh.2 (fun t=>decide (t∈tags))) (fun t=> !Aq t)
 ·exact Z4
def Ns (h:Hello) (path:List EK) (vs tags:List Int) (key:Int):Arb:=if(AZ path h).2=true then TR h (AZ path h).1 vs tags key else D8
abbrev Kj (R:Rel):Prop:=∀(h:Hello) (path:List EK) (vs tags:List Int) (key:Int),hB h→lnS Kr path→vs.length≤4194304→tags.length≤4194304→
 R [arg (Ce h),.sl 1 4 path.length (path.flatMap Cz),.sl 1 1 vs.length (ints vs),.sl 1 1 tags.length (ints tags),I key] [] (.agg (An8 (Ns h path vs tags key))) []
theorem AnG (D:Dn) (hP:EN (D KD)) (hC:QH (D YA)) (hFi:IE (D Aet)) (hHB:Gt (D Acb)) (hAB:FR (D Y3))
 (hF:OE (D Ag4)) (hT:JH (D Aau)):Kj (Body D Qh):=by
 intro h path vs tags key hh hb hv ht
 simp -implicitDefEqProofs
 refine Aa (hP path h hb hh) ?_
 have hr:=Np (path:=path) hh
 unfold Ns
 generalize AZ path h=r at hr
 by_cases g1:r.2=true
 rotate_left
 ·simp -implicitDefEqProofs [g1,D8]
 obtain⟨seen,ok⟩:=r
 obtain rfl:ok=true:=g1
 dsimp only at hr⊢
 simp -implicitDefEqProofs
 refine Aa (hC vs tags seen hv ht hr) ?_
 have ha:=AfJ (vs:=vs) (tags:=tags) hr
 unfold TR
 generalize AU vs tags seen=q at ha
 obtain⟨a,fine⟩:=q
 dsimp only at ha⊢
 by_cases g2:fine=true
 rotate_left
 ·simp -implicitDefEqProofs [g2,D8]
 simp -implicitDefEqProofs [g2]
 refine Aa (hFi h a hh ha) ?_
 by_cases g3:Cy h a=true
 rotate_left
 ·simp -implicitDefEqProofs [g3,D8]
 simp -implicitDefEqProofs [g3]
 refine Aa (hHB h hh) ?_
 simp -implicitDefEqProofs
 refine Aa (hAB a ha) ?_
 simp -implicitDefEqProofs
 have hf:=hF key [AJ h,Au a] 1 (AlX h a)
 simp -implicitDefEqProofs [I8,I9]at hf
 refine Aa (hf) ?_
 generalize BS key [AJ h,Au a] 1=m
 by_cases g4:m=0
 ·simp -implicitDefEqProofs [g4,D8]
 simp -implicitDefEqProofs [g4]
 refine Aa (hHB seen hr) ?_
 simp -implicitDefEqProofs [g4]
 refine Aa (hAB a ha) ?_
 simp -implicitDefEqProofs [g4]
 have hf2:=hF key [AJ seen,Au a] 1 (AlX seen a)
 simp -implicitDefEqProofs [I8,I9]at hf2
 refine Aa (hf2) ?_
 generalize BS key [AJ seen,Au a] 1=m2
 by_cases g5:m=m2
 rotate_left
 ·simp -implicitDefEqProofs [g4,g5,D8]
 subst g5
 simp -implicitDefEqProofs [g4]
 refine Aa (hT a.exts ha.1) ?_
 simp -implicitDefEqProofs [g4]
abbrev AlE (R:Rel):Prop:=∀(h seen:Hello) (vs tags:List Int) (key:Int),hB h→hB seen→vs.length≤4194304→tags.length≤4194304→
 R [arg (Ce h),arg (Ce seen),.sl 1 1 vs.length (ints vs),.sl 1 1 tags.length (ints tags),I key,.sl 1 2 0 []] [] (.agg (An8 (TR h seen vs tags key))) []
theorem AA5 (D:Dn) (hC:QH (D XQ)) (hFi:IE (D AdK)) (hHB:Gt (D Ab6)) (hAB:FR (D AaC))
 (hF:OE (D UU)) (hK:Uc (D AcN)) (hT:JH (D OA)):AlE (Body D TM):=by
 intro h seen vs tags key hh hr hv ht
 simp -implicitDefEqProofs
 refine Aa (hC vs tags seen hv ht hr) ?_
 have ha:=AfJ (vs:=vs) (tags:=tags) hr
 unfold TR
 generalize AU vs tags seen=q at ha
 obtain⟨a,fine⟩:=q
 dsimp only at ha⊢
 have e:(!decide (BS key [AJ h,Au a] 1=0)&&decide (BS key [AJ h,Au a] 1=BS key [AJ seen,Au a] 1))=
  OZ key [AJ h,Au a] 1 (BS key [AJ seen,Au a] 1):=by
  unfold OZ
  by_cases e1:BS key [AJ h,Au a] 1=BS key [AJ seen,Au a] 1
  ·rw[e1]
  ·have e2:¬BS key [AJ seen,Au a] 1=BS key [AJ h,Au a] 1:=fun h=>e1 h.symm
   simp[e1,e2]
 rw[e]
 by_cases g2:fine=true
 rotate_left
 ·simp -implicitDefEqProofs [g2,D8]
 simp -implicitDefEqProofs [g2]
 refine Ayn ?_
 simp -implicitDefEqProofs
 refine Aa (hHB seen hr) ?_
 simp -implicitDefEqProofs
 refine Aa (hAB a ha) ?_
 simp -implicitDefEqProofs
 have hf2:=hF key [AJ seen,Au a] 1 (AlX seen a)
 simp -implicitDefEqProofs [I8,I9]at hf2
 refine Aa (hf2) ?_
 generalize BS key [AJ seen,Au a] 1=m2
 simp -implicitDefEqProofs
 refine Aa (hFi h a hh ha) ?_
 by_cases g3:Cy h a=true
 rotate_left
 ·simp -implicitDefEqProofs [g3,D8]
 simp -implicitDefEqProofs [g3]
 refine Aa (hHB h hh) ?_
 simp -implicitDefEqProofs
 refine Aa (hAB a ha) ?_
 simp -implicitDefEqProofs
 have hk:=hK key [AJ h,Au a] 1 m2 (AlX h a)
 simp -implicitDefEqProofs [I8,I9]at hk
 refine Aa (hk) ?_
 generalize OZ key [AJ h,Au a] 1 m2=c
 by_cases g5:c=true
 rotate_left
 ·simp -implicitDefEqProofs [g5,D8]
 simp -implicitDefEqProofs [g5]
 refine Aa (hT a.exts ha.1) ?_
 simp -implicitDefEqProofs
theorem AoX (D:Dn) (hP:EN (D KE)) (hD:AlE (D AnM)):Kj (Body D Pg):=by
 intro h path vs tags key hh hb hv ht
 simp -implicitDefEqProofs
 refine Aa (hP path h hb hh) ?_
 have hr:=Np (path:=path) hh
 unfold Ns
 generalize AZ path h=r at hr
 by_cases g1:r.2=true
 rotate_left
 ·simp -implicitDefEqProofs [g1,D8]
 simp -implicitDefEqProofs [g1]
 refine Aa (hD h r.1 vs tags key hh hr hv ht) ?_
 simp -implicitDefEqProofs
def AdV (h:Hello) (path:List EK) (vs tags:List Int) (key:Int):CV:=
 if(BI h path).2.2=true then⟨Ns (BI h path).1 path vs tags key,(BI h path).2.1,Ud h (BI h path).1⟩else⟨D8,(BI h path).2.1,[]⟩
abbrev AcC (R:Rel):Prop:=∀(h:Hello) (path:List EK) (vs tags:List Int) (key:Int),hB h→lnS Kr path→vs.length≤4194304→tags.length≤4194304→
 R [arg (Ce h),.sl 1 4 path.length (path.flatMap Cz),.sl 1 1 vs.length (ints vs),.sl 1 1 tags.length (ints tags),I key] [] (.agg (A7 (AdV h path vs tags key))) []
theorem AAt (D:Dn) (hH:Kn (D AgV)) (hO:Kj (D Af8)) (hG:M8 (D Aja)):AcC (Body D XL):=by
 intro h path vs tags key hh hb hv ht
 simp -implicitDefEqProofs
 refine Aa (hH h path hh hb) ?_
 have hr:=Ase (path:=path) hh
 unfold AdV
 generalize BI h path=r at hr
 obtain⟨x,n,ok⟩:=r
 dsimp only at hr⊢
 by_cases g1:ok=true
 rotate_left
 ·simp -implicitDefEqProofs [g1,D8]
 simp -implicitDefEqProofs [g1]
 refine Aa (hO x path vs tags key hr hb hv ht) ?_
 simp -implicitDefEqProofs
 refine Aa (hG h x hh hr) ?_
 simp -implicitDefEqProofs [g1]
theorem Az7 (D:Dn) (hH:Kn (D AhF)) (hO:Kj (D Aff)) (hG:M8 (D Ajn)):AcC (Body D XJ):=by
 intro h path vs tags key hh hb hv ht
 simp -implicitDefEqProofs
 refine Aa (hH h path hh hb) ?_
 have hr:=Ase (path:=path) hh
 unfold AdV
 generalize BI h path=r at hr
 obtain⟨x,n,ok⟩:=r
 dsimp only at hr⊢
 by_cases g1:ok=true
 rotate_left
 ·simp -implicitDefEqProofs [g1,D8]
 simp -implicitDefEqProofs [g1]
 refine Aa (hO x path vs tags key hr hb hv ht) ?_
 simp -implicitDefEqProofs
 refine Aa (hG h x hh hr) ?_
 simp -implicitDefEqProofs [g1]
end Go.Eng.T
namespace Go.Eng.T
set_option maxRecDepth 20000
set_option maxHeartbeats 1000000
theorem Aol {l:List Ext} {k:Nat} (h:k≤l.length):part (Jm (l.flatMap Bl) 2 0 k) 2 k (l.length-k)=(l.drop k).flatMap Bl:=by
 have h0:(l.flatMap Bl).length=l.length*2:=O4 l
 have e1:l.flatMap Bl=(l.take k).flatMap Bl++(l.drop k).flatMap Bl:=by rw[←List.flatMap_append,List.take_append_drop]
 have h1:((l.take k).flatMap Bl).length=k*2:=by rw[O4];simp;omega
 have h2:((l.drop k).flatMap Bl).length=(l.length-k)*2:=by rw[O4];simp
 unfold part Jm
 rw[e1]
 simp only[Nat.zero_mul,List.take_zero,List.nil_append,Nat.zero_add]
 rw[List.drop_left' h1,List.drop_left' (by simp),List.take_of_length_le (by omega)]
theorem AsZ {l:List Ext} {k:Nat} (h:k≤l.length):part (l.flatMap Bl) 2 0 k=(l.take k).flatMap Bl:=by
 have e1:l.flatMap Bl=(l.take k).flatMap Bl++(l.drop k).flatMap Bl:=by rw[←List.flatMap_append,List.take_append_drop]
 have h1:((l.take k).flatMap Bl).length=k*2:=by rw[O4];simp;omega
 unfold part
 rw[e1,Nat.zero_mul,List.drop_zero,List.take_left' h1]
def QI (seed:Int):List Int:=List.replicate (pick seed 2 3).toNat (pick seed 3 256)
def WE (l:List Ext) (seed:Int):Nat:=(pick seed 1 (l.length+1)).toNat
def BQ (l:List Ext) (seed:Int):List Ext:=
 if BX l&&(decide (l.length<6)&& !decide (DU seed∈Ao l))then l.take (WE l seed)++⟨DU seed,QI seed⟩::l.drop (WE l seed)else l
theorem AsL (l:List Ext) (seed:Int) (h:l.length≤6):WE l seed≤l.length:=by
 have:=Lb seed 1 (n:=l.length+1) ⟨by omega,by omega⟩
 unfold WE;omega
theorem AfG (seed:Int):(QI seed).length≤2:=by
 have:=Lb seed 2 (n:=3) ⟨by omega,by omega⟩
 unfold QI;simp;omega
abbrev IG (R:Rel):Prop:=∀(l:List Ext) (seed:Int),Q8 l→R [.sl 1 2 l.length (l.flatMap Bl),I seed] [] (.sl 0 2 (BQ l seed).length ((BQ l seed).flatMap Bl)) []
theorem Aln (D:Dn) (hG:HV (D Aen)) (hC:MV (D Xe)) (hA:EW (D Jt)) (hX:NC (D QG)) (hP:Xk (D Aal)):IG (Body D NW):=by
 intro l seed hl
 have hll:=hl.1
 simp -implicitDefEqProofs
 refine Aa (hG seed) ?_
 obtain⟨t,ht⟩:∃t,t=DU seed:=⟨_,rfl⟩
 rw[←ht]
 simp -implicitDefEqProofs
 refine Aa (hC l hl) ?_
 simp -implicitDefEqProofs
 refine Aa (hA l hl) ?_
 by_cases h1:BX l=true
 rotate_left
 ·simp -implicitDefEqProofs [h1,BQ]
 by_cases h2:l.length<6
 rotate_left
 ·have h2':(6:Int)≤l.length:=by omega
  simp -implicitDefEqProofs [h1,h2,h2',BQ]
 have h2':¬(6:Int)≤l.length:=by omega
 simp -implicitDefEqProofs [h1,h2']
 refine Aa (hX l t (by unfold maxLen;omega)) ?_
 by_cases h3:t∈Ao l
 ·have h3':0≤Ij l t:=by
   by_cases h:Ij l t<0
   ·rw[Kh]at h;exact absurd h3 h
   ·omega
  simp -implicitDefEqProofs [h1,h2,h3',h3,BQ,←ht]
 have h3':¬0≤Ij l t:=by
  have:Ij l t<0:=by rw[Kh];exact h3
  omega
 have e:BQ l seed=l.take (WE l seed)++⟨t,QI seed⟩::l.drop (WE l seed):=by
  unfold BQ
  rw[if_pos]
  ·rw[ht]
  ·simp[h1,h2,←ht,h3]
 have hgp:=AsL l seed (by omega)
 have hgb:=AfG seed
 rw[e]
 simp -implicitDefEqProofs [h3']
 refine Aa (hP seed 2 3) ?_
 have hp2:=Lb seed 2 (n:=3) ⟨by omega,by omega⟩
 have eb:QI seed=List.replicate (pick seed 2 3).toNat (pick seed 3 256):=rfl
 obtain⟨n,hn⟩:∃n:Nat,pick seed 2 3=n:=⟨(pick seed 2 3).toNat,by omega⟩
 rw[hn]at eb hp2⊢
 rw[Int.toNat_natCast]at eb
 rw[eb]at hgb⊢
 generalize hv:pick seed 3 256=v at *
 simp -implicitDefEqProofs
 refine Ae (fun k s=>∃j o2 o3,j+k=n∧s=⟨[.sl 1 2 l.length (l.flatMap Bl),I seed,.undef,.undef,.arr 0,.ptr 1 0,I k,.undef,.undef,.undef],[.arr 2 0 l.length (l.flatMap Bl),.var [I t,.arr 9],o2,o3,.free,.free,.free,.free,.free,.arr 1 0 j (ints (List.replicate j v))]⟩) ?_ (n) _ ⟨0,.free,.free,by simp,by simp[ints]⟩
 intro k s ⟨j,o2,o3,hj,hs⟩
 subst hs
 by_cases hjn:j<n
 ·have hk0:0<k:=by omega
  have hb1:(j+1)*8≤1099511627776:=by omega
  have hwk:IntKind.i64.wrap ((k:Int)-1)=(k-1:Nat):=by rw[Ac (by omega) (by omega)];omega
  simp -implicitDefEqProofs [hk0]
  refine Aa (hP seed 3 256) ?_
  rw[hv]
  simp -implicitDefEqProofs [hb1]
  exact⟨k-1,by omega,j+1,by omega,by simp[hwk],by simp[ints,List.replicate_succ']⟩
 have hk0:k=0:=by omega
 obtain rfl:j=n:=by omega
 subst hk0
 have hwl:IntKind.i64.wrap ((l.length:Int)+1)=(l.length:Int)+1:=Ac (by omega) (by omega)
 simp -implicitDefEqProofs [hwl]
 refine Aa (hP seed 1 (l.length+1)) ?_
 have hp1:=Lb seed 1 (n:=(l.length:Int)+1) ⟨by omega,by omega⟩
 have eg:WE l seed=(pick seed 1 (l.length+1)).toNat:=rfl
 generalize pick seed 1 (l.length+1)=k1 at hp1 eg
 obtain⟨kk,rfl⟩:∃kk:Nat,k1=kk:=⟨k1.toNat,by omega⟩
 rw[Int.toNat_natCast]at eg
 rw[eg]at hgp⊢
 have hk1:(kk:Int)≤l.length:=by omega
 have hb2:kk*32≤1099511627776:=by omega
 have hb3:(kk+1)*32≤1099511627776:=by omega
 have hb4:(kk+1+(l.length-kk))*32≤1099511627776:=by omega
 simp -implicitDefEqProofs [hk1,hgp,hb2,hb3,hb4,Aol hgp,AsZ hgp]
 all_goals omega
theorem Apx {l:List Ext} (hl:Q8 l) (h6:l.length≤4194303) (seed:Int):Q8 (BQ l seed):=by
 unfold BQ
 split
 ·refine⟨?_,?_⟩
  ·simp;omega
  ·intro x hx
   rcases List.mem_append.1 hx with h | h
   ·exact hl.2 x (List.mem_of_mem_take h)
   ·rcases List.mem_cons.1 h with h | h
    ·subst h;have:=AfG seed;dsimp only;omega
    ·exact hl.2 x (List.mem_of_mem_drop h)
 ·exact hl
def bare (ts:List Int):List Ext:=ts.map fun t=>⟨t,[]⟩
theorem F7 (ts:List Int):(bare ts).length=ts.length:=by simp[bare]
theorem AgD {ts:List Int} (h:ts.length≤4194304):Q8 (bare ts):=⟨by rw[F7];exact h,fun x hx=>by
 obtain⟨t,_,rfl⟩:=List.mem_map.1 hx;simp⟩
theorem Akl {ts:List Int} {j:Nat} (h:j<ts.length):(bare (ts.take j)).flatMap Bl++ [.sc (.int .i64 ts[j]),.sl 0 1 0 []]=(bare (ts.take (j+1))).flatMap Bl:=by
 have e:ts.take (j+1)=ts.take j++ [ts[j]]:=by simp
 rw[e]
 unfold bare
 rw[List.map_append,List.flatMap_append]
 rfl
def Dt (e:Ai) (seed:Int):Hello:=if Aj e=true then⟨e.versions,BQ (bare e.tags) seed⟩else Ay
abbrev Nh (R:Rel):Prop:=∀(e:Ai) (seed:Int),Af e≤4194304→R [arg (Ap e),I seed] [] (.agg (Ce (Dt e seed))) []
theorem Qj {e:Ai} (h:Aj e=true):e.tags.length≤5:=by
 unfold Aj at h
 simp only[Bool.and_eq_true,decide_eq_true_eq]at h
 exact h.2.1
theorem Afq {e:Ai} (hsz:Af e≤4194304) (seed:Int):hB (Dt e seed):=by
 unfold Dt
 split
 ·rename_i h
  have:=Qj h
  exact⟨OY hsz,Apx (AgD (by omega)) (by rw[F7];omega) seed⟩
 ·exact Afz
theorem Ard (D:Dn) (hE:DV (D IX)) (hG:IG (D Ad1)):Nh (Body D Rv):=by
 intro e seed hsz
 have hl:=Tj hsz
 have hv:=OY hsz
 simp -implicitDefEqProofs
 refine Aa (hE e hl) ?_
 by_cases h1:Aj e=true
 rotate_left
 ·simp -implicitDefEqProofs [h1,Dt,Ay]
 have h5:=Qj h1
 have he:Dt e seed=⟨e.versions,BQ (bare e.tags) seed⟩:=by unfold Dt;rw[if_pos h1]
 rw[he]
 have hb2:e.versions.length*8≤1099511627776:=by omega
 simp -implicitDefEqProofs [h1]
 refine Ae (fun k s=>∃j o3 o4,j+k=e.tags.length∧s=⟨[.undef,I seed,.ptr 0 0,.ptr 1 0,.arr 8,I j,.undef,.undef],[.var ((Ap e).map (AX 1)),.var [.nil 1,.nil 2],.free,o3,o4,.free,.free,.free,.arr 2 0 j ((bare (e.tags.take j)).flatMap Bl)]⟩) ?_ (e.tags.length) _ ⟨0,.free,.free,by simp,by simp[bare]⟩
 intro k s ⟨j,o3,o4,hj,hs⟩
 subst hs
 by_cases hjn:j<e.tags.length
 ·have hw:IntKind.i64.wrap ((j:Int)+1)=(j+1:Nat):=by rw[Ac (by omega) (by omega)];simp
  have hst:=Akl hjn
  have hb1:(j+1)*32≤1099511627776:=by omega
  have hlen:(bare (e.tags.take j)).length=j:=by rw[F7];simp;omega
  have hlen2:(bare (e.tags.take (j+1))).length=j+1:=by rw[F7];simp;omega
  simp -implicitDefEqProofs [hjn,hb1]
  exact⟨k-1,by omega,j+1,by omega,by simp[hw],by rw[←hst];exact⟨rfl,rfl⟩⟩
 have e2:e.tags.take j=e.tags:=List.take_of_length_le (by omega)
 obtain rfl:j=e.tags.length:=by omega
 simp -implicitDefEqProofs [hjn,e2,hb2]
 have hq:=hG (bare e.tags) seed (AgD (by omega))
 rw[F7]at hq
 refine Aa (hq) ?_
 simp -implicitDefEqProofs
theorem Aqj (D:Dn) (hE:DV (D Mg)) (hG:IG (D Adv)):Nh (Body D Rh):=by
 intro e seed hsz
 have hl:=Tj hsz
 have hv:=OY hsz
 simp -implicitDefEqProofs
 refine Aa (hE e hl) ?_
 by_cases h1:Aj e=true
 rotate_left
 ·simp -implicitDefEqProofs [h1,Dt,Ay]
 have h5:=Qj h1
 have he:Dt e seed=⟨e.versions,BQ (bare e.tags) seed⟩:=by unfold Dt;rw[if_pos h1]
 rw[he]
 have hb2:e.versions.length*8≤1099511627776:=by omega
 simp -implicitDefEqProofs [h1]
 refine Ae (fun k s=>∃j o3 o4,j+k=e.tags.length∧s=⟨[.undef,I seed,.ptr 0 0,.ptr 1 0,.arr 8,.undef,.undef,.sl 1 1 e.tags.length (ints e.tags),I e.tags.length,I j,.undef],[.var ((Ap e).map (AX 1)),.var [.nil 1,.nil 2],.free,o3,o4,.free,.free,.free,.arr 2 0 j ((bare (e.tags.take j)).flatMap Bl)]⟩) ?_ (e.tags.length) _ ⟨0,.free,.free,by simp,by simp[bare]⟩
 intro k s ⟨j,o3,o4,hj,hs⟩
 subst hs
 by_cases hjn:j<e.tags.length
 ·have hw:IntKind.i64.wrap ((j:Int)+1)=(j+1:Nat):=by rw[Ac (by omega) (by omega)];simp
  have hst:=Akl hjn
  have hb1:(j+1)*32≤1099511627776:=by omega
  have hlen:(bare (e.tags.take j)).length=j:=by rw[F7];simp;omega
  have hlen2:(bare (e.tags.take (j+1))).length=j+1:=by rw[F7];simp;omega
  simp -implicitDefEqProofs [hjn,hb1]
  exact⟨k-1,by omega,j+1,by omega,by simp[hw],by rw[←hst];exact⟨rfl,rfl⟩⟩
 have e2:e.tags.take j=e.tags:=List.take_of_length_le (by omega)
 obtain rfl:j=e.tags.length:=by omega
 simp -implicitDefEqProofs [hjn,e2,hb2]
 have hq:=hG (bare e.tags) seed (AgD (by omega))
 rw[F7]at hq
 refine Aa (hq) ?_
 simp -implicitDefEqProofs
def Iy:CV:=⟨D8,0,[]⟩
def GA (e:Ai) (vs tags:List Int) (key seed:Int):CV:=if Aj e=true then AdV (Dt e seed) e.path vs tags key else Iy
abbrev Nn (R:Rel):Prop:=∀(e:Ai) (vs tags:List Int) (key seed:Int),Af e≤4194304→vs.length≤4194304→tags.length≤4194304→
 R [arg (Ap e),.sl 1 1 vs.length (ints vs),.sl 1 1 tags.length (ints tags),I key,I seed] [] (.agg (A7 (GA e vs tags key seed))) []
theorem ApA (D:Dn) (hE:DV (D IX)) (hH:Nh (D Ajx)) (hD:AcC (D Arx)):Nn (Body D QZ):=by
 intro e vs tags key seed hsz hv ht
 have hl:=Tj hsz
 simp -implicitDefEqProofs
 refine Aa (hE e hl) ?_
 by_cases h1:Aj e=true
 rotate_left
 ·simp -implicitDefEqProofs [h1,GA,Iy,D8]
 simp -implicitDefEqProofs [h1]
 refine Aa (hH e seed hsz) ?_
 have hh:=Afq hsz seed
 have he:GA e vs tags key seed=AdV (Dt e seed) e.path vs tags key:=by unfold GA;rw[if_pos h1]
 rw[he]
 generalize Dt e seed=h at hh
 simp -implicitDefEqProofs
 refine Aa (hD h e.path vs tags key hh hl.2.2 hv ht) ?_
 simp -implicitDefEqProofs
theorem ApZ (D:Dn) (hE:DV (D Mg)) (hH:Nh (D Ajv)) (hD:AcC (D Ap8)):Nn (Body D Rx):=by
 intro e vs tags key seed hsz hv ht
 have hl:=Tj hsz
 simp -implicitDefEqProofs
 refine Aa (hE e hl) ?_
 by_cases h1:Aj e=true
 rotate_left
 ·simp -implicitDefEqProofs [h1,GA,Iy,D8]
 simp -implicitDefEqProofs [h1]
 refine Aa (hH e seed hsz) ?_
 have hh:=Afq hsz seed
 have he:GA e vs tags key seed=AdV (Dt e seed) e.path vs tags key:=by unfold GA;rw[if_pos h1]
 rw[he]
 generalize Dt e seed=h at hh
 simp -implicitDefEqProofs
 refine Aa (hD h e.path vs tags key hh hl.2.2 hv ht) ?_
 simp -implicitDefEqProofs
def clip (n:Int):Int:=max (-100000) (min 100000 n)
abbrev Asf (R:Rel):Prop:=∀n:Int,R [I n] [] (I (clip n)) []
theorem As6 (D:Dn) (hM:ArJ (D As4)) (hN:AsQ (D AtC)):Asf (Body D Rj):=by
 intro n
 simp -implicitDefEqProofs
 refine Aa (hN _ _) ?_
 simp -implicitDefEqProofs
 refine Aa (hM _ _) ?_
 simp -implicitDefEqProofs [clip]
def Hl (w:World) (i:Int):CV:=if Qt i 0 ((w.ends.length:Int)-1)then(match w.ends[i.toNat]? with | some e=>GA e w.server w.tags w.key (16*clip w.now+i) | none=>Iy)else Iy
abbrev QE (R:Rel):Prop:=∀(w:World) (i:Int),Bo w≤4194304→R [arg (FH w),I i] [] (.agg (A7 (Hl w i))) []
theorem ArO (n:Int):-100000≤clip n∧clip n≤100000:=by unfold clip;omega
theorem AtY (D:Dn) (hI:Tg (D CF)) (hC:Asf (D AiO)) (hB:Nn (D Aji)):QE (Body D TJ):=by
 intro w i hsz
 have he:=FU hsz
 have hw:IntKind.i64.wrap ((w.ends.length:Int)-1)=(w.ends.length:Int)-1:=Ac (by omega) (by omega)
 simp -implicitDefEqProofs [hw]
 refine Aa (hI _ _ _) ?_
 by_cases h1:Qt i 0 ((w.ends.length:Int)-1)
 rotate_left
 ·simp -implicitDefEqProofs [h1,Hl,Iy,D8]
 obtain⟨n,rfl⟩:∃n:Nat,i=n:=⟨i.toNat,by have:=h1.1;omega⟩
 have hn:n<w.ends.length:=by have:=h1.2;omega
 have hb:=Ma hsz
 have hes:=O1 hsz hn
 have e:Hl w n=GA w.ends[n] w.server w.tags w.key (16*clip w.now+n):=by unfold Hl;rw[if_pos h1];simp[hn]
 rw[e]
 simp -implicitDefEqProofs [h1,hn]
 refine Aa (hC w.now) ?_
 have hcl:=ArO w.now
 generalize clip w.now=c at hcl
 have hw1:IntKind.i64.wrap (16*c)=16*c:=Ac (by omega) (by omega)
 have hw2:IntKind.i64.wrap (16*c+n)=16*c+n:=Ac (by omega) (by omega)
 simp -implicitDefEqProofs [hw1,hw2]
 refine Aa (hB w.ends[n] w.server w.tags w.key _ hes hb.1 hb.2.1) ?_
 simp -implicitDefEqProofs
theorem Auc (D:Dn) (hI:TW (D OQ)) (hB:Nn (D Ai0)):QE (Body D Uk):=by
 intro w i hsz
 have he:=FU hsz
 simp -implicitDefEqProofs
 refine Aa (hI w i he) ?_
 by_cases h1:Qt i 0 ((w.ends.length:Int)-1)
 rotate_left
 ·simp -implicitDefEqProofs [h1,Hl,Iy,D8]
 obtain⟨n,rfl⟩:∃n:Nat,i=n:=⟨i.toNat,by have:=h1.1;omega⟩
 have hn:n<w.ends.length:=by have:=h1.2;omega
 have hb:=Ma hsz
 have hes:=O1 hsz hn
 have e:Hl w n=GA w.ends[n] w.server w.tags w.key (16*clip w.now+n):=by unfold Hl;rw[if_pos h1];simp[hn]
 rw[e]
 simp -implicitDefEqProofs [h1,hn]
 have hc:(if(if 100000<w.now then 100000 else w.now)< -100000 then -100000 else if 100000<w.now then 100000 else w.now)=clip w.now:=by
  unfold clip
  split<;>split<;>omega
 rw[hc]
 have hcl:=ArO w.now
 generalize clip w.now=c at hcl
 have hw1:IntKind.i64.wrap (16*c)=16*c:=Ac (by omega) (by omega)
 have hw2:IntKind.i64.wrap (16*c+n)=16*c+n:=Ac (by omega) (by omega)
 rw[hw1,hw2]
 refine Aa (hB w.ends[n] w.server w.tags w.key _ hes hb.1 hb.2.1) ?_
 simp -implicitDefEqProofs
end Go.Eng.T
