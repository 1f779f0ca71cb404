/- Own work: part 46 of the proof of FnMeasured. -/
import Derived.Test.YtdoefikagfghnaaGreatP45
import Derived.Lib.SlicesCompact
set_option linter.unusedSimpArgs false
set_option linter.unusedVariables false
namespace Go.Eng.T
set_option maxRecDepth 20000
set_option maxHeartbeats 1000000
def Ib:List Int→Int→Nat
 | [],_=>0
 | x::r,v=>if x<v then Ib r v+1 else 0
theorem Awp:∀(l:List Int) (v:Int),Ib l v≤l.length
 | [],_=>Nat.le_refl 0
 | x::r,v=>by
  have:=Awp r v
  simp only[Ib,List.length_cons]
  split<;>omega
theorem AyA {l:List Int} {v:Int} {j:Nat} (h:j<l.length) (hv:l[j]<v):Ib (l.drop j) v=Ib (l.drop (j+1)) v+1:=by
 rw[List.drop_eq_getElem_cons h]
 simp only[Ib,if_pos hv]
theorem AnJ {l:List Int} {v:Int} {j:Nat} (h:j<l.length) (hv:¬l[j]<v):Ib (l.drop j) v=0:=by
 rw[List.drop_eq_getElem_cons h]
 simp only[Ib,if_neg hv]
theorem ABn {l:List Int} {v:Int} {j:Nat} (h:l.length≤j):Ib (l.drop j) v=0:=by rw[List.drop_eq_nil_of_le h];rfl
def Auv (l:List Int) (i:Nat) (v:Int):List Int:=l.take i++v::l.drop i
theorem ABF {l:List Int} {i:Nat} {v:Int} (h:i≤l.length):(Auv l i v).length=l.length+1:=by simp[Auv];omega
def TV (l:List Int) (v:Int):List Int:=if l[Ib l v]? =some v then l else Auv l (Ib l v) v
theorem ABj (l:List Int) (v:Int):(TV l v).length≤l.length+1:=by
 unfold TV
 split
 ·omega
 ·rw[ABF (Awp l v)];omega
abbrev Apd (R:Rel):Prop:=∀(l:List Int) (v:Int),l.length≤4194304→R [.sl 1 1 l.length (ints l),I v] [] (.sl 0 1 (TV l v).length (ints (TV l v))) []
theorem ADj (D:Dn):Apd (Body D Yb):=by
 intro l v hl
 simp -implicitDefEqProofs
 refine Ae (fun k s=>∃j,j+k=l.length∧Ib l v=j+Ib (l.drop j) v∧s=⟨[.sl 1 1 l.length (ints l),I v,.undef,I j,.undef,.undef],[.free,.free,.free,.free,.free,.free,.free]⟩) ?_ (l.length) _ ⟨0,by simp,by simp,by simp⟩
 intro k s ⟨j,hj,hp,hs⟩
 subst hs
 by_cases hjn:j<l.length
 ·have hw:IntKind.i64.wrap ((j:Int)+1)=(j+1:Nat):=by rw[Ad (by omega) (by omega)];simp
  by_cases hv:l[j]<v
  ·have hst:=AyA hjn hv
   simp -implicitDefEqProofs [hjn,hv]
   exact⟨k-1,by omega,j+1,by omega,by omega,by simp[hw]⟩
  ·have hst:=AnJ hjn hv
   have hpe:Ib l v=j:=by omega
   have b1:l.length*8≤1099511627776:=by omega
   have b2:j*8≤1099511627776:=by omega
   have b3:(j+1)*8≤1099511627776:=by omega
   have b4:(j+1+(l.length-j))*8≤1099511627776:=by omega
   have hjl:j≤l.length:=by omega
   have hjl':(j:Int)≤l.length:=by omega
   have hmin:min j l.length=j:=by omega
   have htk:List.take (l.length-j) (List.drop j l)=List.drop j l:=List.take_of_length_le (by simp)
   by_cases he:l[j]=v
   ·have e:TV l v=l:=by unfold TV;rw[hpe,List.getElem?_eq_getElem hjn,he,if_pos rfl]
    rw[e]
    simp -implicitDefEqProofs [hjn,hv,he,b1]
   ·have e:TV l v=l.take j++v::l.drop j:=by unfold TV Auv;rw[hpe,List.getElem?_eq_getElem hjn,if_neg (by simpa using he)]
    have el:(TV l v).length=j+1+(l.length-j):=by rw[e];simp;omega
    simp -implicitDefEqProofs [hjn,hv,he,hjl,hjl',hmin,b2,b3,b4]
    rw[el,e]
    simp[htk,Ake]
 ·have hst:=ABn (v:=v) (l:=l) (j:=j) (by omega)
  have hpe:Ib l v=j:=by omega
  have b1:l.length*8≤1099511627776:=by omega
  have b2:j*8≤1099511627776:=by omega
  have b3:(j+1)*8≤1099511627776:=by omega
  have b4:(j+1+(l.length-j))*8≤1099511627776:=by omega
  have hjl:j≤l.length:=by omega
  have hjl':(j:Int)≤l.length:=by omega
  have hmin:min j l.length=j:=by omega
  have htk:List.take (l.length-j) (List.drop j l)=List.drop j l:=List.take_of_length_le (by simp)
  have e:TV l v=l.take j++v::l.drop j:=by unfold TV Auv;rw[hpe,List.getElem?_eq_none (by omega),if_neg (by simp)]
  have el:(TV l v).length=j+1+(l.length-j):=by rw[e];simp;omega
  simp -implicitDefEqProofs [hjn,hjl,hjl',hmin,b2,b3,b4]
  rw[el,e]
  simp[htk,Ake]
end Go.Eng.T
namespace Go.Eng.T
set_option maxRecDepth 20000
set_option maxHeartbeats 1000000
def AG7 {α:Type} (f:α→α) (xs:List α) (j:Nat):List α:=(xs.take j).map f++xs.drop j
section
variable {α:Type} {f:α→α} {xs:List α} {j:Nat}
theorem AjQ:AG7 f xs 0=xs:=by simp[AG7]
theorem Alj (h:xs.length≤j):AG7 f xs j=xs.map f:=by simp[AG7,List.take_of_length_le h,List.drop_eq_nil_of_le h]
@[simp] theorem AGX (h:j≤xs.length):(AG7 f xs j).length=xs.length:=by simp[AG7];omega
theorem AgC (h:j<xs.length):(AG7 f xs j)[j]'(by rw[AGX (by omega)];exact h)=xs[j]:=by
 unfold AG7
 have hl:((xs.take j).map f).length=j:=by simp;omega
 have hm:min j xs.length=j:=by omega
 rw[List.getElem_append_right (by omega)]
 simp[hm]
theorem Ahf (h:j<xs.length):(AG7 f xs j).set j (f xs[j])=AG7 f xs (j+1):=by
 unfold AG7
 have hl:((xs.take j).map f).length=j:=by simp;omega
 have ht:xs.take (j+1)=xs.take j++ [xs[j]]:=by simp
 rw[List.set_append_right _ _ (by omega),hl,Nat.sub_self,ht,List.map_append,List.drop_eq_getElem_cons h,List.set_cons_zero,List.append_assoc]
 rfl
theorem AkA (h:j<xs.length) (hf:f xs[j]=xs[j]):AG7 f xs (j+1)=AG7 f xs j:=by
 rw[←Ahf h,hf]
 have:=AgC (f:=f) h
 conv=>lhs;rw[←this]
 simp
end
def D6 (w:World) (e:AL):AL:=if 0<BJ w.server (AB3 e.versions w.rollout.version)then⟨AB3 e.versions w.rollout.version,e.tags,e.path,e.cls⟩else e
def leave (w:World):World:={w with ends:=w.ends.map (D6 w),stage:=[]}
abbrev IQ (R:Rel):Prop:=∀w:World,Ay w≤4194304→R [arg (EF w)] [] (.agg (EF (leave w))) []
theorem An1 (a:List Int) (v:Int):(AB3 a v).length≤a.length:=List.length_filter_le _ _
theorem Agk {w:World} (h:Ay w≤4194304) {j:Nat} (hj:j<w.ends.length):w.ends[j].versions.length≤4194304:=by
 have:=size_at (f:=Ac) hj
 have e:Ac w.ends[j]=w.ends[j].versions.length+w.ends[j].tags.length+Bw Ct w.ends[j].path:=rfl
 unfold Ay at h
 omega
theorem AhP {w:World} (h:Ay w≤4194304):w.server.length≤4194304:=by unfold Ay at h;omega
theorem ZC (D:Dn) (hC:Ef (D ACA)) (hW:GL (D AxS)) (hB:EX (D NC)):IQ (Body D Gz):=by
 intro w h
 have hl:=JQ h
 simp -implicitDefEqProofs
 refine Aa (hC w h) ?_
 simp -implicitDefEqProofs
 refine Ae (fun k s=>∃j v5 o9,j+k=w.ends.length∧s=⟨[.undef,.ptr 0 0,.ptr 1 0,.ptr 8 0,.sc (.int .i64 j),v5,.undef,.undef],[.var ((EF w).map (AZ 1)),.var [.nil 1,.nil 1,.sc (.int .i64 0),.nil 4,.sc (.int .i64 0),.nil 1,.sc (.int .i64 0),.sc (.bool false),.sc (.int .i64 0),.sc (.int .i64 0),.nil 5,.nil 8,.sc (.int .i64 0),.sc (.int .i64 0),.sc (.int .i64 0)],.arr 1 0 w.server.length (ints w.server),.arr 1 0 w.tags.length (ints w.tags),.arr 4 0 w.ends.length ((AG7 (D6 w) w.ends j).flatMap Ak),.arr 1 0 w.rollout.stages.length (ints w.rollout.stages),.arr 5 0 w.stage.length (w.stage.flatMap AP),.arr 8 0 w.log.length (w.log.flatMap Ar),.var [.arr 2,.arr 3,.sc (.int .i64 w.key),.arr 4,.sc (.int .i64 w.rollout.version),.arr 5,.sc (.int .i64 w.rollout.pos),.sc (.bool w.rollout.off),.sc (.int .i64 w.least),.sc (.int .i64 w.percent),.arr 6,.arr 7,.sc (.int .i64 w.now),.sc (.int .i64 w.hurt),.sc (.int .i64 w.reached)],o9,.free]⟩) ?_ w.ends.length _ ⟨0,by simp[AjQ]⟩
 intro k s ⟨j,v5,o9,hj,hs⟩
 subst hs
 by_cases hjn:j<w.ends.length
 ·have hw:IntKind.i64.wrap ((j:Int)+1)=(j+1:Nat):=by rw[Ad (by omega) (by omega)];simp
  have hjl:j≤w.ends.length:=by omega
  have hset:=Ahf (f:=D6 w) hjn
  have hg:=AgC (f:=D6 w) hjn
  have hvl:=Agk h hjn
  have hwl:=An1 w.ends[j].versions w.rollout.version
  have hf:j*4<w.ends.length*4:=by omega
  simp -implicitDefEqProofs [hjn,hjl,hg]
  refine Aa (hW w.ends[j].versions _ hvl) ?_
  simp -implicitDefEqProofs
  refine Aa (hB w.server _ (AhP h) (by omega)) ?_
  by_cases h1:0<BJ w.server (AB3 w.ends[j].versions w.rollout.version)
  ·have e:D6 w w.ends[j]=⟨AB3 w.ends[j].versions w.rollout.version,w.ends[j].tags,w.ends[j].path,w.ends[j].cls⟩:=by unfold D6;rw[if_pos h1]
   rw[e]at hset
   simp -implicitDefEqProofs [h1,hjn,hjl,hg,hf]
   exact⟨k-1,by omega,j+1,by omega,by simp[hw],by rw[←hset]⟩
  ·have e:D6 w w.ends[j]=w.ends[j]:=by unfold D6;rw[if_neg h1]
   have hsame:=AkA hjn e
   simp -implicitDefEqProofs [h1]
   exact⟨k-1,by omega,j+1,by omega,by simp[hw],by rw[hsame]⟩
 ·have hx:=Alj (f:=D6 w) (xs:=w.ends) (j:=j) (by omega)
  simp -implicitDefEqProofs [hjn,hx,leave]
end Go.Eng.T
namespace Go.Eng.T
end Go.Eng.T
namespace Go.Eng.T
set_option maxRecDepth 20000
set_option maxHeartbeats 2000000
def AEO {α:Type} (f:Nat→α→α) (xs:List α) (j:Nat):List α:=xs.mapIdx fun i x=>if i<j then f i x else x
section
variable {α:Type} {f:Nat→α→α} {xs:List α} {j:Nat}
@[simp] theorem AGH:(AEO f xs j).length=xs.length:=by simp[AEO]
theorem Aiv:AEO f xs 0=xs:=by
 apply List.ext_getElem
 ·simp
 ·intro n h1 h2;simp[AEO]
theorem AjU (h:xs.length≤j):AEO f xs j=xs.mapIdx f:=by
 apply List.ext_getElem
 ·simp
 ·intro n h1 h2
  simp only[AGH]at h1
  simp only[AEO,List.getElem_mapIdx]
  rw[if_pos (by omega)]
theorem AdT (h:j<xs.length):(AEO f xs j)[j]'(by rw[AGH];exact h)=xs[j]:=by simp[AEO]
theorem AdW (h:j<xs.length):(AEO f xs j).set j (f j xs[j])=AEO f xs (j+1):=by
 apply List.ext_getElem
 ·simp
 ·intro n h1 h2
  simp only[List.length_set,AGH]at h1
  rw[List.getElem_set]
  simp only[AEO,List.getElem_mapIdx]
  by_cases hn:j=n
  ·subst hn;simp
  ·rw[if_neg hn]
   by_cases hl:n<j
   ·rw[if_pos hl,if_pos (by omega)]
   ·rw[if_neg hl,if_neg (by omega)]
theorem Ah1 (h:j<xs.length) (hf:f j xs[j]=xs[j]):AEO f xs (j+1)=AEO f xs j:=by
 rw[←AdW h,hf]
 have:=AdT (f:=f) h
 conv=>lhs;rw[←this]
 simp
end
def ACe (w:World) (i:Nat) (e:AL):AL:=if isIn w.rollout i w.ends.length=true then⟨TV e.versions w.rollout.version,e.tags,e.path,e.cls⟩else e
def AAy (w:World):Bool:=Bp w.rollout&& !w.rollout.off
def enter (w:World):World:=if AAy w=true then {w with ends:=w.ends.mapIdx (ACe w),stage:=[],reached:=max w.reached (w.rollout.pos+1)}else w
abbrev Je (R:Rel):Prop:=∀w:World,Ay w≤4194304→R [arg (EF w)] [] (.agg (EF (enter w))) []
abbrev Ath (R:Rel):Prop:=∀a b:Int,R [I a,I b] [] (I (max a b)) []
abbrev AvR (R:Rel):Prop:=∀a b:Int,R [I a,I b] [] (I (min a b)) []
theorem AFB (D:Dn):Ath (Body D Ad9):=by
 intro a b
 by_cases h:a<b
 ·have e:max a b=b:=by omega
  simp -implicitDefEqProofs [h,e]
 ·have e:max a b=a:=by omega
  simp -implicitDefEqProofs [h,e]
theorem AFf (D:Dn):AvR (Body D AeB):=by
 intro a b
 by_cases h:a<b
 ·have e:min a b=a:=by omega
  simp -implicitDefEqProofs [h,e]
  intro;omega
 ·have e:min a b=b:=by omega
  simp -implicitDefEqProofs [h,e]
  intro;omega
theorem AcL (D:Dn) (hC:Ef (D ACA)) (hR:FR (D Qo)) (hI:Aft (D AFo)) (hP:Apd (D ArV)) (hM:Ath (D AnS)):Je (Body D H7):=by
 intro w h
 have hl:=JQ h
 have hr:=Ro h
 simp -implicitDefEqProofs
 refine Aa (hC w h) ?_
 simp -implicitDefEqProofs
 refine Aa (hR w.rollout hr) ?_
 by_cases h1:Bp w.rollout=true
 rotate_left
 ·have e:enter w=w:=by unfold enter AAy;rw[if_neg (by simp[h1])]
  simp -implicitDefEqProofs [h1,e]
 by_cases h2:w.rollout.off=true
 ·have e:enter w=w:=by unfold enter AAy;rw[if_neg (by simp[h2])]
  simp -implicitDefEqProofs [h1,h2,e]
 have h2':w.rollout.off=false:=by simpa using h2
 have e:enter w={w with ends:=w.ends.mapIdx (ACe w),stage:=[],reached:=max w.reached (w.rollout.pos+1)}:=by unfold enter AAy;rw[if_pos (by simp[h1,h2'])]
 have hp:=ArH h1
 have hwp:IntKind.i64.wrap (w.rollout.pos+1)=w.rollout.pos+1:=Ad (by omega) (by omega)
 simp -implicitDefEqProofs [h1,h2]
 refine Ae (fun k s=>∃j o9,j+k=w.ends.length∧s=⟨[.undef,.ptr 0 0,.ptr 1 0,.ptr 8 0,I j,.undef,.undef,.undef],[.var ((EF w).map (AZ 1)),.var [.nil 1,.nil 1,.sc (.int .i64 0),.nil 4,.sc (.int .i64 0),.nil 1,.sc (.int .i64 0),.sc (.bool false),.sc (.int .i64 0),.sc (.int .i64 0),.nil 5,.nil 8,.sc (.int .i64 0),.sc (.int .i64 0),.sc (.int .i64 0)],.arr 1 0 w.server.length (ints w.server),.arr 1 0 w.tags.length (ints w.tags),.arr 4 0 w.ends.length ((AEO (ACe w) w.ends j).flatMap Ak),.arr 1 0 w.rollout.stages.length (ints w.rollout.stages),.arr 5 0 w.stage.length (w.stage.flatMap AP),.arr 8 0 w.log.length (w.log.flatMap Ar),.var [.arr 2,.arr 3,.sc (.int .i64 w.key),.arr 4,.sc (.int .i64 w.rollout.version),.arr 5,.sc (.int .i64 w.rollout.pos),.sc (.bool w.rollout.off),.sc (.int .i64 w.least),.sc (.int .i64 w.percent),.arr 6,.arr 7,.sc (.int .i64 w.now),.sc (.int .i64 w.hurt),.sc (.int .i64 w.reached)],o9,.free]⟩) ?_ (w.ends.length) _ ⟨0,.free,by simp,by simp[Aiv,h2']⟩
 intro k s ⟨j,o9,hj,hs⟩
 subst hs
 by_cases hjn:j<w.ends.length
 ·have hw:IntKind.i64.wrap ((j:Int)+1)=(j+1:Nat):=by rw[Ad (by omega) (by omega)];simp
  have hset:=AdW (f:=ACe w) hjn
  have hg:=AdT (f:=ACe w) hjn
  have hvl:=Agk h hjn
  have hf:j*4<w.ends.length*4:=by omega
  simp -implicitDefEqProofs [hjn]
  refine Aa (hI w.rollout j w.ends.length hr) ?_
  by_cases h3:isIn w.rollout j w.ends.length=true
  ·have e3:ACe w j w.ends[j]=⟨TV w.ends[j].versions w.rollout.version,w.ends[j].tags,w.ends[j].path,w.ends[j].cls⟩:=by unfold ACe;rw[if_pos h3]
   rw[e3]at hset
   simp -implicitDefEqProofs [h3,hjn,hg,hf]
   refine Aa (hP w.ends[j].versions _ hvl) ?_
   simp -implicitDefEqProofs [hjn,hg,hf]
   exact⟨k-1,by omega,j+1,by omega,by simp[hw],by rw[←hset]⟩
  ·have e3:ACe w j w.ends[j]=w.ends[j]:=by unfold ACe;rw[if_neg h3]
   have hsame:=Ah1 hjn e3
   simp -implicitDefEqProofs [h3]
   exact⟨k-1,by omega,j+1,by omega,by simp[hw],by rw[hsame]⟩
 ·have hx:=AjU (f:=ACe w) (xs:=w.ends) (j:=j) (by omega)
  simp -implicitDefEqProofs [hjn,hwp,hx]
  refine Aa (hM _ _) ?_
  simp -implicitDefEqProofs [e,h2']
def CO (w:World):World×Bool:=if decide (w.reached=0)&&AAy w then(enter w,true)else(w,false)
abbrev OP (R:Rel):Prop:=∀w:World,Ay w≤4194304→R [arg (EF w)] [] (.tup [.agg (EF (CO w).1),B (CO w).2]) []
theorem AeZ (D:Dn) (hC:Ef (D ACA)) (hR:FR (D Qo)) (hE:Je (D Ax6)):OP (Body D JB):=by
 intro w h
 have hr:=Ro h
 by_cases h0:w.reached=0
 rotate_left
 ·have e:CO w=(w,false):=by unfold CO;simp[h0]
  simp -implicitDefEqProofs [h0]
  refine Aa (hC w h) ?_
  simp -implicitDefEqProofs [e]
 simp -implicitDefEqProofs [h0]
 refine Aa (hR w.rollout hr) ?_
 by_cases h1:Bp w.rollout=true
 rotate_left
 ·have e:CO w=(w,false):=by unfold CO AAy;simp[h1]
  simp -implicitDefEqProofs [h1]
  have hcs:=hC w h
  simp -implicitDefEqProofs [h0]at hcs
  refine Aa hcs ?_
  clear hcs
  simp -implicitDefEqProofs [e,h0]
 by_cases h2:w.rollout.off=true
 ·have e:CO w=(w,false):=by unfold CO AAy;simp[h2]
  simp -implicitDefEqProofs [h1,h2]
  have hcs:=hC w h
  simp -implicitDefEqProofs [h0,h2]at hcs
  refine Aa hcs ?_
  clear hcs
  simp -implicitDefEqProofs [e,h0,h2]
 have h2':w.rollout.off=false:=by simpa using h2
 have e:CO w=(enter w,true):=by unfold CO AAy;simp[h0,h1,h2']
 simp -implicitDefEqProofs [h1,h2]
 have hcs:=hE w h
 simp -implicitDefEqProofs [h0,h2]at hcs
 refine Aa hcs ?_
 clear hcs
 simp -implicitDefEqProofs [e]
end Go.Eng.T
namespace Go.Eng.T
set_option maxRecDepth 20000
set_option maxHeartbeats 2000000
open Go.Lib (compact compactUpTo keeps)
abbrev Up (l:List Int):Prop:=l.Pairwise (· < ·)
theorem Az8:∀ {a b:List Int},Up a→Up b→(∀x,x∈a↔x∈b)→a=b
 | [],[],_,_,_=>rfl
 | [],y::b,_,_,h=>by have:=(h y).2 (by simp);simp at this
 | x::a,[],_,_,h=>by have:=(h x).1 (by simp);simp at this
 | x::a,y::b,ha,hb,h=>by
  rw[Up,List.pairwise_cons]at ha hb
  have hxy:x=y:=by
   have h1:=(h x).1 (by simp)
   have h2:=(h y).2 (by simp)
   rcases List.mem_cons.1 h1 with e | h1
   ·exact e
   ·rcases List.mem_cons.1 h2 with e | h2
    ·exact e.symm
    ·have:=hb.1 x h1;have:=ha.1 y h2;omega
  subst hxy
  congr 1
  refine Az8 ha.2 hb.2 fun z=>⟨fun hz=> ?_,fun hz=> ?_⟩
  ·rcases List.mem_cons.1 ((h z).1 (by simp[hz]))with e | h1
   ·subst e;have:=ha.1 z hz;omega
   ·exact h1
  ·rcases List.mem_cons.1 ((h z).2 (by simp[hz]))with e | h1
   ·subst e;have:=hb.1 z hz;omega
   ·exact h1
theorem ABL:∀(l:List Int) (v x:Int),x∈TV l v↔x∈l∨x=v:=by
 intro l v x
 unfold TV
 split
 ·rename_i h
  constructor
  ·exact .inl
  ·rintro (h1 | rfl)
   ·exact h1
   ·exact List.mem_of_getElem? h
 ·unfold Auv
  rw[List.mem_append,List.mem_cons]
  have:x∈l↔x∈l.take (Ib l v)∨x∈l.drop (Ib l v):=by
   conv=>lhs;rw[←List.take_append_drop (Ib l v) l,List.mem_append]
  rw[this]
  constructor
  ·rintro (h1 | h1 | h1)
   ·exact .inl (.inl h1)
   ·exact .inr h1
   ·exact .inl (.inr h1)
  ·rintro ((h1 | h1) | h1)
   ·exact .inl h1
   ·exact .inr (.inr h1)
   ·exact .inr (.inl h1)
theorem AfR:∀(l:List Int) (v x:Int),x∈l.take (Ib l v)→x<v
 | [],v,x,h=>by simp at h
 | y::r,v,x,h=>by
  simp only[Ib]at h
  split at h
  ·rw[List.take_succ_cons]at h
   rcases List.mem_cons.1 h with rfl | h
   ·assumption
   ·exact AfR r v x h
  ·simp at h
theorem ADc:∀ {l:List Int} (v:Int),Up l→Up (TV l v):=by
 intro l v hl
 unfold TV
 split
 ·exact hl
 ·rename_i hne
  unfold Auv Up
  rw[List.pairwise_append,List.pairwise_cons]
  have hb:=AfR l v
  have hafter:∀y,y∈l.drop (Ib l v)→v<y:=by
   intro y hy
   by_cases hk:Ib l v<l.length
   ·have hs:=AnJ (l:=l) (v:=v) hk (by
     intro hlt
     have key:∀(l:List Int) (h:Ib l v<l.length),¬l[Ib l v]<v:=by
      intro l
      induction l with
      | nil=>intro h;simp at h
      | cons x r ih=>
       intro h
       by_cases hx:x<v
       ·have e:Ib (x::r) v=Ib r v+1:=by simp[Ib,hx]
        have h':Ib r v<r.length:=by rw[e]at h;simpa using h
        have:=ih h'
        simp only[e,List.getElem_cons_succ]
        exact this
       ·have e:Ib (x::r) v=0:=by simp[Ib,hx]
        simp only[e,List.getElem_cons_zero]
        exact hx
     exact key l hk hlt)
    have key:∀(l:List Int) (h:Ib l v<l.length),¬l[Ib l v]<v:=by
     intro l
     induction l with
     | nil=>intro h;simp at h
     | cons x r ih=>
      intro h
      by_cases hx:x<v
      ·have e:Ib (x::r) v=Ib r v+1:=by simp[Ib,hx]
       have h':Ib r v<r.length:=by rw[e]at h;simpa using h
       have:=ih h'
       simp only[e,List.getElem_cons_succ]
       exact this
      ·have e:Ib (x::r) v=0:=by simp[Ib,hx]
       simp only[e,List.getElem_cons_zero]
       exact hx
    have h1:=key l hk
    have h2:l[Ib l v]≠v:=by
     intro e;apply hne;rw[List.getElem?_eq_getElem hk,e]
    rw[List.drop_eq_getElem_cons hk]at hy
    have hp:(l[Ib l v]::l.drop (Ib l v+1)).Pairwise (· < ·):=by rw[←List.drop_eq_getElem_cons hk];exact hl.drop
    rw[List.pairwise_cons]at hp
    rcases List.mem_cons.1 hy with rfl | hy
    ·omega
    ·have:=hp.1 y hy;omega
   ·rw[List.drop_eq_nil_of_le (by omega)]at hy;simp at hy
  refine⟨hl.take,⟨hafter,hl.drop⟩,fun a ha b hb'=> ?_⟩
  have h1:=hb a ha
  rcases List.mem_cons.1 hb' with rfl | hb'
  ·exact h1
  ·have:=hafter b hb';omega
def JR (l:List Int) (xs:List Int):List Int:=xs.foldl TV l
theorem An6:∀ {xs l:List Int},Up l→Up (JR l xs)
 | [],_,h=>h
 | x::xs,l,h=>An6 (xs:=xs) (ADc x h)
theorem AkO:∀(xs l:List Int) (x:Int),x∈JR l xs↔x∈l∨x∈xs
 | [],l,x=>by simp[JR]
 | y::xs,l,x=>by
  have:=AkO xs (TV l y) x
  unfold JR at *
  rw[List.foldl_cons,this,ABL,List.mem_cons]
  constructor
  ·rintro ((h | h) | h)
   ·exact .inl h
   ·exact .inr (.inl h)
   ·exact .inr (.inr h)
  ·rintro (h | h | h)
   ·exact .inl (.inl h)
   ·exact .inl (.inr h)
   ·exact .inr h
theorem AiT:∀(xs l:List Int),(JR l xs).length≤l.length+xs.length
 | [],l=>by simp[JR]
 | x::xs,l=>by
  have h1:=AiT xs (TV l x)
  have h2:=ABj l x
  unfold JR at *
  simp only[List.foldl_cons,List.length_cons]
  omega
def AkQ (r:EH) (i:Nat):EH:=⟨r.version,r.stages,i,r.off⟩
def Lr (r:EH) (n:Int):Nat→Int
 | 0=>0
 | k+1=>max (Lr r n k) (countIn (AkQ r k) n)
end Go.Eng.T
namespace Go.Eng.T
set_option maxRecDepth 20000
theorem AhV {w:World} (h:Ay w≤4194304):∀(j:Nat) (hj:j<w.stage.length),w.stage[j].up.length≤maxLen:=by
 intro j hj
 have:=size_at (f:=Al) hj
 unfold Ay at h
 have e:Al w.stage[j]=E9 w.stage[j].deal+w.stage[j].up.length:=rfl
 unfold maxLen;omega
def Ld (w:World):Int:=I4 (cntF (goodD w.rollout.version) w.stage) (cntF (Pe w.rollout.version) w.stage) w.least w.percent
abbrev OB (R:Rel):Prop:=∀w:World,Ay w≤4194304→R [arg (EF w)] [] (I (Ld w)) []
theorem Aef (D:Dn) (hM:YR (D AAl)) (hS:QA (D AAF)):OB (Body D Kl):=by
 intro w h
 simp -implicitDefEqProofs
 refine Aa (hM w.stage _ (by have:=Xk h;unfold maxLen;omega) (AhV h)) ?_
 simp -implicitDefEqProofs
 refine Aa (hS _ _ _ _) ?_
 simp -implicitDefEqProofs [Ld]
end Go.Eng.T
namespace Go.Eng.T
set_option maxRecDepth 20000
set_option maxHeartbeats 2000000
def QB (r:EH):Bool:=Bp r&&(!r.off&& !decide (r.pos=(r.stages.length:Int)-1))
def Bu (r:EH):EH×Bool:=if QB r=true then(⟨r.version,r.stages,r.pos+1,r.off⟩,true)else(r,false)
abbrev Oh (R:Rel):Prop:=∀r:EH,Bg r≤4194304→R [arg (Gx r)] [] (.tup [.agg (Gx (Bu r).1),B (Bu r).2]) []
theorem Aet (D:Dn) (hC:Sv (D Zx)) (hR:FR (D Qo)):Oh (Body D J2):=by
 intro r h
 have hl:r.stages.length≤4194304:=h
 have hw1:IntKind.i64.wrap ((r.stages.length:Int)-1)=(r.stages.length:Int)-1:=Ad (by omega) (by omega)
 simp -implicitDefEqProofs
 refine Aa (hC r h) ?_
 simp -implicitDefEqProofs
 refine Aa (hR r hl) ?_
 by_cases h1:Bp r=true
 rotate_left
 ·have e:Bu r=(r,false):=by unfold Bu QB;rw[if_neg (by simp[h1])]
  simp -implicitDefEqProofs [h1,e]
 by_cases h2:r.off=true
 ·have e:Bu r=(r,false):=by unfold Bu QB;rw[if_neg (by simp[h2])]
  simp -implicitDefEqProofs [h1,h2,e]
 have h2':r.off=false:=by simpa using h2
 have hp:=ArH h1
 have hwp:IntKind.i64.wrap (r.pos+1)=r.pos+1:=Ad (by omega) (by omega)
 obtain⟨ver,stg,pos,off⟩:=r
 dsimp only at *
 subst h2'
 by_cases h3:pos=(stg.length:Int)-1
 ·have e:Bu ⟨ver,stg,pos,false⟩=(⟨ver,stg,pos,false⟩,false):=by unfold Bu QB;rw[if_neg (by simp[h3])]
  subst h3
  simp -implicitDefEqProofs [h1,hw1,e]
 have e:Bu ⟨ver,stg,pos,false⟩=(⟨ver,stg,pos+1,false⟩,true):=by unfold Bu QB;rw[if_pos (by simp[h1,h3])]
 simp -implicitDefEqProofs [h1,hw1,h3,hwp,e]
def U7 (r:EH):Bool:=Bp r&& !r.off
def BN (r:EH):EH×Bool:=if U7 r=true then(⟨r.version,r.stages,0,true⟩,true)else(r,false)
abbrev Og (R:Rel):Prop:=∀r:EH,Bg r≤4194304→R [arg (Gx r)] [] (.tup [.agg (Gx (BN r).1),B (BN r).2]) []
theorem Aeh (D:Dn) (hC:Sv (D Zx)) (hR:FR (D Qo)):Og (Body D J9):=by
 intro r h
 have hl:r.stages.length≤4194304:=h
 simp -implicitDefEqProofs
 refine Aa (hC r h) ?_
 simp -implicitDefEqProofs
 refine Aa (hR r hl) ?_
 by_cases h1:Bp r=true
 rotate_left
 ·have e:BN r=(r,false):=by unfold BN U7;rw[if_neg (by simp[h1])]
  simp -implicitDefEqProofs [h1,e]
 by_cases h2:r.off=true
 ·have e:BN r=(r,false):=by unfold BN U7;rw[if_neg (by simp[h2])]
  simp -implicitDefEqProofs [h1,h2,e]
 have e:BN r=(⟨r.version,r.stages,0,true⟩,true):=by unfold BN U7;rw[if_pos (by simp[h1,h2])]
 simp -implicitDefEqProofs [h1,h2,e]
def RO (l:List Int) (v:Int):Bool:=A9 l&&(decide (InV v 1 9)&& !decide (v∈l))
def Kj (l:List Int) (v:Int):List Int×Bool:=if RO l v=true then(TV l v,true)else(l,false)
abbrev Ms (R:Rel):Prop:=∀(l:List Int) (v:Int),l.length≤4194304→R [.sl 1 1 l.length (ints l),I v] [] (.tup [.sl 0 1 (Kj l v).1.length (ints (Kj l v).1),B (Kj l v).2]) []
theorem Adt (D:Dn) (hA:BK (D EJ)) (hI:SG (D CB)) (hH:R6 (D Jl)) (hP:Apd (D ArV)):Ms (Body D Ic):=by
 intro l v hl
 have hl8:l.length*8≤1099511627776:=by omega
 have hl9:(l.length+1)*8≤1099511627776:=by omega
 simp -implicitDefEqProofs [hl8]
 refine Aa (hA l (by unfold maxLen;omega)) ?_
 by_cases h1:A9 l=true
 rotate_left
 ·have e:Kj l v=(l,false):=by unfold Kj RO;rw[if_neg (by simp[h1])]
  simp -implicitDefEqProofs [h1,e,hl8]
 simp -implicitDefEqProofs [h1]
 refine Aa (hI _ _ _) ?_
 by_cases h2:InV v 1 9
 rotate_left
 ·have e:Kj l v=(l,false):=by unfold Kj RO;rw[if_neg (by simp[h2])]
  simp -implicitDefEqProofs [h2,e,hl8]
 simp -implicitDefEqProofs [h2]
 refine Aa (hH l v (by unfold maxLen;omega)) ?_
 by_cases h3:v∈l
 ·have e:Kj l v=(l,false):=by unfold Kj RO;rw[if_neg (by simp[h3])]
  simp -implicitDefEqProofs [h3,e,hl8]
 have e:Kj l v=(TV l v,true):=by unfold Kj RO;rw[if_pos (by simp[h1,h2,h3])]
 simp -implicitDefEqProofs [h3]
 refine Aa (hP l v hl) ?_
 simp -implicitDefEqProofs [e]
theorem up9:∀ {l:List Int} {a:Int},Up l→(∀x,x∈l→a<x∧x≤9)→(l.length:Int)≤9-a∨l=[]
 | [],_,_,_=> .inr rfl
 | x::r,a,h,hb=>by
  rw[Up,List.pairwise_cons]at h
  have h0:=hb x (by simp)
  have:=up9 (l:=r) (a:=x) h.2 (fun y hy=>⟨h.1 y hy,(hb y (by simp[hy])).2⟩)
  left
  rcases this with h1 | rfl
  ·simp only[List.length_cons];omega
  ·simp;omega
theorem Arj {l:List Int} (h:A9 l=true):l.length≤9:=by
 have:=up9 (l:=l) (a:=0) (An0 h) (fun x hx=>by have:=Awj h x hx;exact⟨by omega,by omega⟩)
 rcases this with h1 | rfl
 ·omega
 ·simp
def Ec (w:World) (v:Int):World×Bool:=({w with server:=(Kj w.server v).1},(Kj w.server v).2)
abbrev Mg (R:Rel):Prop:=∀(w:World) (v:Int),Ay w≤4194304→R [arg (EF w),I v] [] (.tup [.agg (EF (Ec w v).1),B (Ec w v).2]) []
theorem Amm {l:List Int} {v:Int} (h:(Kj l v).2=false):(Kj l v).1=l:=by
 unfold Kj at *
 split at h
 ·cases h
 ·rename_i hc;rw[if_neg hc]
theorem AcK (D:Dn) (hC:Ef (D ACA)) (hA:Ms (D Ax5)):Mg (Body D Hy):=by
 intro w v hsz
 simp -implicitDefEqProofs
 refine Aa (hC w hsz) ?_
 simp -implicitDefEqProofs
 refine Aa (hA w.server v (NZ hsz).1) ?_
 have hno:=Amm (l:=w.server) (v:=v)
 have e:Ec w v=({w with server:=(Kj w.server v).1},(Kj w.server v).2):=rfl
 rw[e]
 generalize Kj w.server v=r at hno
 by_cases h1:r.2=true
 ·simp -implicitDefEqProofs [h1]
 ·have:=hno (by simpa using h1)
  simp -implicitDefEqProofs [h1,this]
theorem Al9 (l:List Int) (v:Int):(Kj l v).1.length≤l.length+1:=by
 unfold Kj
 split
 ·exact ABj l v
 ·dsimp only;omega
theorem Ac1 (w:World) (v:Int):Ay (Ec w v).1≤Ay w+1:=by
 have:=Al9 w.server v
 simp only[Ec,Ay]
 omega
end Go.Eng.T
namespace Go.Eng.T
set_option maxRecDepth 20000
set_option maxHeartbeats 1000000
def inB (t:Int):Bool:=decide (Q5 t 0 255)
def AfT (b:List Int) (t:Int):Bool:= !decide (t∈b)&&inB t
def QX (h x:Hello):List Int:=leftOf h.versions x.versions++((Aq h.exts).filter (AfT (Aq x.exts))).map (fun t=>1000+t)
abbrev OY (R:Rel):Prop:=∀h x:Hello,hB h→hB x→R [arg (CU h),arg (CU x)] [] (.sl 0 1 (QX h x).length (ints (QX h x))) []
theorem Aol {p:Int→Bool} {a l:List Int} {j:Nat} (h:j<l.length):
 a++((l.take (j+1)).filter p).map (fun t=>1000+t)=(a++((l.take j).filter p).map (fun t=>1000+t))++(if p l[j]then [1000+l[j]]else []):=by
 rw[LH h,List.map_append,List.append_assoc]
 split<;>simp
theorem Aq4 {p:Int→Bool} {a l:List Int} {j:Nat}:(a++((l.take j).filter p).map (fun t=>1000+t)).length≤a.length+j:=by
 have:=OM (p:=p) (xs:=l) (j:=j)
 simp only[List.length_append,List.length_map];omega
theorem AtO (D:Dn) (hL:WC (D ZN)) (hX:Qn (D Tg)) (hI:SG (D CB)):OY (Body D Tn):=by
 intro h x hh hx
 have hxl:=hx.2.1
 have hhl:=hh.2.1
 have hvl:=hh.1
 simp -implicitDefEqProofs
 refine Aa (hL h.versions x.versions hh.1 hx.1) ?_
 have hal:=K3 h.versions x.versions
 have e:QX h x=leftOf h.versions x.versions++((Aq h.exts).filter (AfT (Aq x.exts))).map (fun t=>1000+t):=rfl
 rw[e]
 have hpd:∀t,AfT (Aq x.exts) t=(!decide (t∈Aq x.exts)&&inB t):=fun t=>rfl
 generalize leftOf h.versions x.versions=a at hal
 generalize AfT (Aq x.exts)=p at hpd
 have htl:(Aq h.exts).length=h.exts.length:=Nb _
 have hte:∀j (hj:j<h.exts.length),(Aq h.exts)[j]'(by omega)=h.exts[j].tag:=fun j hj=>by simp[Aq]
 obtain⟨l,hl⟩:∃l,l=Aq h.exts:=⟨_,rfl⟩
 rw[←hl]at htl⊢
 simp -implicitDefEqProofs
 refine Ae (fun k s=>∃j o3 o4,j+k=h.exts.length∧s=⟨[.undef,.undef,.ptr 0 0,.ptr 1 0,.undef,.arr 5,I j,.undef,.undef],[.var ((CU h).map (AZ 1)),.var ((CU x).map (AZ 1)),.free,o3,o4,.arr 1 0 (a++((l.take j).filter p).map (fun t=>1000+t)).length (ints (a++((l.take j).filter p).map (fun t=>1000+t)))]⟩) ?_ (h.exts.length) _ ⟨0,.free,.free,by simp,by simp⟩
 intro k s ⟨j,o3,o4,hj,hs⟩
 subst hs
 by_cases hjn:j<h.exts.length
 ·have hw:IntKind.i64.wrap ((j:Int)+1)=(j+1:Nat):=by rw[Ad (by omega) (by omega)];simp
  have hjl:j<l.length:=by omega
  have hlt:l[j]=h.exts[j].tag:=by subst hl;exact hte j hjn
  have hst:=Aol (p:=p) (a:=a) hjl
  have hfl:=Aq4 (p:=p) (a:=a) (l:=l) (j:=j)
  have hb1:((a++((l.take j).filter p).map (fun t=>1000+t)).length+1)*8≤1099511627776:=by omega
  have hpt:=hpd l[j]
  rw[hlt]at hst hpt
  generalize a++((l.take j).filter p).map (fun t=>1000+t)=r at hst hfl hb1
  simp -implicitDefEqProofs [hjn]
  refine Aa (hX x.exts h.exts[j].tag (by unfold maxLen;omega)) ?_
  by_cases h1:h.exts[j].tag∈Aq x.exts
  ·have h3:¬p h.exts[j].tag=true:=by rw[hpt];simp[h1]
   have h1':¬Js x.exts h.exts[j].tag<0:=by rw[Le];simpa using h1
   rw[if_neg h3,List.append_nil]at hst
   simp -implicitDefEqProofs [h1']
   have hsl:=congrArg List.length hst
   simp only[List.length_append,List.length_map]at hsl
   exact⟨k-1,by omega,j+1,by omega,by simp[hw],by omega,by rw[hst]⟩
  have h1':Js x.exts h.exts[j].tag<0:=by rw[Le];exact h1
  simp -implicitDefEqProofs [h1',hjn]
  refine Aa (hI _ _ _) ?_
  by_cases h2:Q5 h.exts[j].tag 0 255
  ·have h3:p h.exts[j].tag=true:=by rw[hpt];simp[h1,inB,h2]
   rw[if_pos h3]at hst
   have hw2:IntKind.i64.wrap (1000+h.exts[j].tag)=1000+h.exts[j].tag:=Ad (by have:=h2.1;omega) (by have:=h2.2;omega)
   simp -implicitDefEqProofs [h2,hjn,hb1,hw2]
   have hsl:=congrArg List.length hst
   simp only[List.length_append,List.length_map,List.length_cons,List.length_nil]at hsl
   exact⟨k-1,by omega,j+1,by omega,by simp[hw],by omega,by rw[hst]⟩
  ·have h3:¬p h.exts[j].tag=true:=by rw[hpt];simp[h1,inB,h2]
   rw[if_neg h3,List.append_nil]at hst
   simp -implicitDefEqProofs [h2]
   have hsl:=congrArg List.length hst
   simp only[List.length_append,List.length_map]at hsl
   exact⟨k-1,by omega,j+1,by omega,by simp[hw],by omega,by rw[hst]⟩
 ·have e2:=Nh (p:=p) (xs:=l) (j:=j) (by omega)
  simp -implicitDefEqProofs [hjn,e2]
def FZ:AfW:=⟨false,0,[]⟩
def AdJ (h seen:Hello) (vs tags:List Int) (key:Int):AfW:=
 if(Bf vs tags seen).2&&(Ez h (Bf vs tags seen).1&&(!decide (Dq key [A8 h,AA (Bf vs tags seen).1] 1=0)&&
  decide (Dq key [A8 h,AA (Bf vs tags seen).1] 1=Dq key [A8 seen,AA (Bf vs tags seen).1] 1)))
 then⟨true,(Bf vs tags seen).1.version,Aq (Bf vs tags seen).1.exts⟩else FZ
theorem AsR (h:Hello):(A8 h).length≤47:=by
 unfold A8
 have:=LC h.exts
 split
 ·rename_i hc
  have:=Arj (AyC hc)
  simp only[List.length_append,List.length_cons];omega
 ·simp
theorem ApX (h:Hello) (a:RY):IA [A8 h,AA a]≤4194304:=by
 have h1:=AsR h
 have h2:=Ahv a
 simp[IA,Bw]
 omega
theorem Alo {vs tags:List Int} {h:Hello} (hh:hB h):Ub (Bf vs tags h).1.exts:=by
 unfold Bf
 split
 ·exact UN (UN hh.2 (fun t=>decide (t∈tags))) (fun t=> !Am t)
 ·exact Adb
def UZ (h:Hello) (path:List Gu) (vs tags:List Int) (key:Int):AfW:=if(A7 path h).2=true then AdJ h (A7 path h).1 vs tags key else FZ
abbrev LG (R:Rel):Prop:=∀(h:Hello) (path:List Gu) (vs tags:List Int) (key:Int),hB h→lnS Hw path→vs.length≤4194304→tags.length≤4194304→
 R [arg (CU h),.sl 1 4 path.length (path.flatMap CF),.sl 1 1 vs.length (ints vs),.sl 1 1 tags.length (ints tags),I key] [] (.agg (X7 (UZ h path vs tags key))) []
theorem As6 (D:Dn) (hP:FN (D Mj)) (hC:SY (D AaL)) (hFi:JV (D AgY)) (hHB:Iq (D Aei)) (hAB:GV (D Acv))
 (hF:QS (D Aj9)) (hT:KV (D Acl)):LG (Body D RL):=by
 intro h path vs tags key hh hb hv ht
 simp -implicitDefEqProofs
 refine Aa (hP path h hb hh) ?_
 have hr:=O7 (path:=path) hh
 unfold UZ
 generalize A7 path h=r at hr
 by_cases g1:r.2=true
 rotate_left
 ·simp -implicitDefEqProofs [g1,FZ]
 obtain⟨seen,ok⟩:=r
 obtain rfl:ok=true:=g1
 dsimp only at hr⊢
 simp -implicitDefEqProofs
 refine Aa (hC vs tags seen hv ht hr) ?_
 have ha:=Alo (vs:=vs) (tags:=tags) hr
 unfold AdJ
 generalize Bf vs tags seen=q at ha
 obtain⟨a,fine⟩:=q
 dsimp only at ha⊢
 by_cases g2:fine=true
 rotate_left
 ·simp -implicitDefEqProofs [g2,FZ]
 simp -implicitDefEqProofs [g2]
 refine Aa (hFi h a hh ha) ?_
 by_cases g3:Ez h a=true
 rotate_left
 ·simp -implicitDefEqProofs [g3,FZ]
 simp -implicitDefEqProofs [g3]
 refine Aa (hHB h hh) ?_
 simp -implicitDefEqProofs
 refine Aa (hAB a ha) ?_
 simp -implicitDefEqProofs
 have hf:=hF key [A8 h,AA a] 1 (ApX h a)
 simp -implicitDefEqProofs [Kh,Jh]at hf
 refine Aa (hf) ?_
 generalize Dq key [A8 h,AA a] 1=m
 by_cases g4:m=0
 ·simp -implicitDefEqProofs [g4,FZ]
 simp -implicitDefEqProofs [g4]
 refine Aa (hHB seen hr) ?_
 simp -implicitDefEqProofs [g4]
 refine Aa (hAB a ha) ?_
 simp -implicitDefEqProofs [g4]
 have hf2:=hF key [A8 seen,AA a] 1 (ApX seen a)
 simp -implicitDefEqProofs [Kh,Jh]at hf2
 refine Aa (hf2) ?_
 generalize Dq key [A8 seen,AA a] 1=m2
 by_cases g5:m=m2
 rotate_left
 ·simp -implicitDefEqProofs [g4,g5,FZ]
 subst g5
 simp -implicitDefEqProofs [g4]
 refine Aa (hT a.exts ha.1) ?_
 simp -implicitDefEqProofs [g4]
def Atd (h:Hello) (path:List Gu) (vs tags:List Int) (key:Int):Cw:=
 if(Cr h path).2.2=true then⟨UZ (Cr h path).1 path vs tags key,(Cr h path).2.1,QX h (Cr h path).1⟩else⟨FZ,(Cr h path).2.1,[]⟩
abbrev AfO (R:Rel):Prop:=∀(h:Hello) (path:List Gu) (vs tags:List Int) (key:Int),hB h→lnS Hw path→vs.length≤4194304→tags.length≤4194304→
 R [arg (CU h),.sl 1 4 path.length (path.flatMap CF),.sl 1 1 vs.length (ints vs),.sl 1 1 tags.length (ints tags),I key] [] (.agg (AP (Atd h path vs tags key))) []
theorem AD7 (D:Dn) (hH:LM (D AjC)) (hO:LG (D Air)) (hG:OY (D Amx)):AfO (Body D AaP):=by
 intro h path vs tags key hh hb hv ht
 simp -implicitDefEqProofs
 refine Aa (hH h path hh hb) ?_
 have hr:=Av6 (path:=path) hh
 unfold Atd
 generalize Cr h path=r at hr
 obtain⟨x,n,ok⟩:=r
 dsimp only at hr⊢
 by_cases g1:ok=true
 rotate_left
 ·simp -implicitDefEqProofs [g1,FZ]
 simp -implicitDefEqProofs [g1]
 refine Aa (hO x path vs tags key hr hb hv ht) ?_
 simp -implicitDefEqProofs
 refine Aa (hG h x hh hr) ?_
 simp -implicitDefEqProofs [g1]
end Go.Eng.T
namespace Go.Eng.T
set_option maxRecDepth 20000
set_option maxHeartbeats 1000000
theorem AsO {l:List Ext} {k:Nat} (h:k≤l.length):part (Ko (l.flatMap Br) 2 0 k) 2 k (l.length-k)=(l.drop k).flatMap Br:=by
 have h0:(l.flatMap Br).length=l.length*2:=Rb l
 have e1:l.flatMap Br=(l.take k).flatMap Br++(l.drop k).flatMap Br:=by rw[←List.flatMap_append,List.take_append_drop]
 have h1:((l.take k).flatMap Br).length=k*2:=by rw[Rb];simp;omega
 have h2:((l.drop k).flatMap Br).length=(l.length-k)*2:=by rw[Rb];simp
 unfold part Ko
 rw[e1]
 simp only[Nat.zero_mul,List.take_zero,List.nil_append,Nat.zero_add]
 rw[List.drop_left' h1,List.drop_left' (by simp),List.take_of_length_le (by omega)]
theorem AyH {l:List Ext} {k:Nat} (h:k≤l.length):part (l.flatMap Br) 2 0 k=(l.take k).flatMap Br:=by
 have e1:l.flatMap Br=(l.take k).flatMap Br++(l.drop k).flatMap Br:=by rw[←List.flatMap_append,List.take_append_drop]
 have h1:((l.take k).flatMap Br).length=k*2:=by rw[Rb];simp;omega
 unfold part
 rw[e1,Nat.zero_mul,List.drop_zero,List.take_left' h1]
def AjE (seed:Int):List Int:=List.replicate (pick seed 2 3).toNat (pick seed 3 256)
def Amo (l:List Ext) (seed:Int):Nat:=(pick seed 1 (l.length+1)).toNat
def Dt (l:List Ext) (seed:Int):List Ext:=
 if EC l&&(decide (l.length<6)&& !decide (NM seed∈Aq l))then l.take (Amo l seed)++⟨NM seed,AjE seed⟩::l.drop (Amo l seed)else l
theorem Av2 (l:List Ext) (seed:Int) (h:l.length≤6):Amo l seed≤l.length:=by
 have:=SX seed 1 (n:=l.length+1) ⟨by omega,by omega⟩
 unfold Amo;omega
theorem AsQ (seed:Int):(AjE seed).length≤2:=by
 have:=SX seed 2 (n:=3) ⟨by omega,by omega⟩
 unfold AjE;simp;omega
abbrev Ju (R:Rel):Prop:=∀(l:List Ext) (seed:Int),Ub l→R [.sl 1 2 l.length (l.flatMap Br),I seed] [] (.sl 0 2 (Dt l seed).length ((Dt l seed).flatMap Br)) []
theorem Aoz (D:Dn) (hG:JS (D Agp)) (hC:OG (D ZQ)) (hA:FV (D KC)) (hX:Qn (D Tg)) (hP:ZM (D Acf)):Ju (Body D PW):=by
 intro l seed hl
 have hll:=hl.1
 simp -implicitDefEqProofs
 refine Aa (hG seed) ?_
 obtain⟨t,ht⟩:∃t,t=NM seed:=⟨_,rfl⟩
 rw[←ht]
 simp -implicitDefEqProofs
 refine Aa (hC l hl) ?_
 simp -implicitDefEqProofs
 refine Aa (hA l hl) ?_
 by_cases h1:EC l=true
 rotate_left
 ·simp -implicitDefEqProofs [h1,Dt]
 by_cases h2:l.length<6
 rotate_left
 ·have h2':(6:Int)≤l.length:=by omega
  simp -implicitDefEqProofs [h1,h2,h2',Dt]
 have h2':¬(6:Int)≤l.length:=by omega
 simp -implicitDefEqProofs [h1,h2']
 refine Aa (hX l t (by unfold maxLen;omega)) ?_
 by_cases h3:t∈Aq l
 ·have h3':0≤Js l t:=by
   by_cases h:Js l t<0
   ·rw[Le]at h;exact absurd h3 h
   ·omega
  simp -implicitDefEqProofs [h1,h2,h3',h3,Dt,←ht]
 have h3':¬0≤Js l t:=by
  have:Js l t<0:=by rw[Le];exact h3
  omega
 have e:Dt l seed=l.take (Amo l seed)++⟨t,AjE seed⟩::l.drop (Amo l seed):=by
  unfold Dt
  rw[if_pos]
  ·rw[ht]
  ·simp[h1,h2,←ht,h3]
 have hgp:=Av2 l seed (by omega)
 have hgb:=AsQ seed
 rw[e]
 simp -implicitDefEqProofs [h3']
 refine Aa (hP seed 2 3) ?_
 have hp2:=SX seed 2 (n:=3) ⟨by omega,by omega⟩
 have eb:AjE seed=List.replicate (pick seed 2 3).toNat (pick seed 3 256):=rfl
 obtain⟨n,hn⟩:∃n:Nat,pick seed 2 3=n:=⟨(pick seed 2 3).toNat,by omega⟩
 rw[hn]at eb hp2⊢
 rw[Int.toNat_natCast]at eb
 rw[eb]at hgb⊢
 generalize hv:pick seed 3 256=v at *
 simp -implicitDefEqProofs
 refine Ae (fun k s=>∃j o2 o3,j+k=n∧s=⟨[.sl 1 2 l.length (l.flatMap Br),I seed,.undef,.undef,.arr 0,.ptr 1 0,I k,.undef,.undef,.undef],[.arr 2 0 l.length (l.flatMap Br),.var [I t,.arr 9],o2,o3,.free,.free,.free,.free,.free,.arr 1 0 j (ints (List.replicate j v))]⟩) ?_ (n) _ ⟨0,.free,.free,by simp,by simp[ints]⟩
 intro k s ⟨j,o2,o3,hj,hs⟩
 subst hs
 by_cases hjn:j<n
 ·have hk0:0<k:=by omega
  have hb1:(j+1)*8≤1099511627776:=by omega
  have hwk:IntKind.i64.wrap ((k:Int)-1)=(k-1:Nat):=by rw[Ad (by omega) (by omega)];omega
  simp -implicitDefEqProofs [hk0]
  refine Aa (hP seed 3 256) ?_
  rw[hv]
  simp -implicitDefEqProofs [hb1]
  exact⟨k-1,by omega,j+1,by omega,by simp[hwk],by simp[ints,List.replicate_succ']⟩
 have hk0:k=0:=by omega
 obtain rfl:j=n:=by omega
 subst hk0
 have hwl:IntKind.i64.wrap ((l.length:Int)+1)=(l.length:Int)+1:=Ad (by omega) (by omega)
 simp -implicitDefEqProofs [hwl]
 refine Aa (hP seed 1 (l.length+1)) ?_
 have hp1:=SX seed 1 (n:=(l.length:Int)+1) ⟨by omega,by omega⟩
 have eg:Amo l seed=(pick seed 1 (l.length+1)).toNat:=rfl
 generalize pick seed 1 (l.length+1)=k1 at hp1 eg
 obtain⟨kk,rfl⟩:∃kk:Nat,k1=kk:=⟨k1.toNat,by omega⟩
 rw[Int.toNat_natCast]at eg
 rw[eg]at hgp⊢
 have hk1:(kk:Int)≤l.length:=by omega
 have hb2:kk*32≤1099511627776:=by omega
 have hb3:(kk+1)*32≤1099511627776:=by omega
 have hb4:(kk+1+(l.length-kk))*32≤1099511627776:=by omega
 simp -implicitDefEqProofs [hk1,hgp,hb2,hb3,hb4,AsO hgp,AyH hgp]
 all_goals omega
theorem AuP {l:List Ext} (hl:Ub l) (h6:l.length≤4194303) (seed:Int):Ub (Dt l seed):=by
 unfold Dt
 split
 ·refine⟨?_,?_⟩
  ·simp;omega
  ·intro x hx
   rcases List.mem_append.1 hx with h | h
   ·exact hl.2 x (List.mem_of_mem_take h)
   ·rcases List.mem_cons.1 h with h | h
    ·subst h;have:=AsQ seed;dsimp only;omega
    ·exact hl.2 x (List.mem_of_mem_drop h)
 ·exact hl
def bare (ts:List Int):List Ext:=ts.map fun t=>⟨t,[]⟩
theorem M0 (ts:List Int):(bare ts).length=ts.length:=by simp[bare]
theorem Aim {ts:List Int} (h:ts.length≤4194304):Ub (bare ts):=⟨by rw[M0];exact h,fun x hx=>by
 obtain⟨t,_,rfl⟩:=List.mem_map.1 hx;simp⟩
theorem AnQ {ts:List Int} {j:Nat} (h:j<ts.length):(bare (ts.take j)).flatMap Br++ [.sc (.int .i64 ts[j]),.sl 0 1 0 []]=(bare (ts.take (j+1))).flatMap Br:=by
 have e:ts.take (j+1)=ts.take j++ [ts[j]]:=by simp
 rw[e]
 unfold bare
 rw[List.map_append,List.flatMap_append]
 rfl
def He (e:AL) (seed:Int):Hello:=if Az e=true then⟨e.versions,Dt (bare e.tags) seed⟩else AQ
abbrev O9 (R:Rel):Prop:=∀(e:AL) (seed:Int),Ac e≤4194304→R [arg (Ak e),I seed] [] (.agg (CU (He e seed))) []
theorem Vx {e:AL} (h:Az e=true):e.tags.length≤5:=by
 unfold Az at h
 simp only[Bool.and_eq_true,decide_eq_true_eq]at h
 exact h.2.1
theorem AkW {e:AL} (hsz:Ac e≤4194304) (seed:Int):hB (He e seed):=by
 unfold He
 split
 ·rename_i h
  have:=Vx h
  exact⟨U1 hsz,AuP (Aim (by omega)) (by rw[M0];omega) seed⟩
 ·exact AiP
theorem Aub (D:Dn) (hE:ET (D N9)) (hG:Ju (D Agn)):O9 (Body D Uu):=by
 intro e seed hsz
 have hl:=XR hsz
 have hv:=U1 hsz
 simp -implicitDefEqProofs
 refine Aa (hE e hl) ?_
 by_cases h1:Az e=true
 rotate_left
 ·simp -implicitDefEqProofs [h1,He,AQ]
 have h5:=Vx h1
 have he:He e seed=⟨e.versions,Dt (bare e.tags) seed⟩:=by unfold He;rw[if_pos h1]
 rw[he]
 have hb2:e.versions.length*8≤1099511627776:=by omega
 simp -implicitDefEqProofs [h1]
 refine Ae (fun k s=>∃j o3 o4,j+k=e.tags.length∧s=⟨[.undef,I seed,.ptr 0 0,.ptr 1 0,.arr 8,I j,.undef,.undef],[.var ((Ak e).map (AZ 1)),.var [.nil 1,.nil 2],.free,o3,o4,.free,.free,.free,.arr 2 0 j ((bare (e.tags.take j)).flatMap Br)]⟩) ?_ (e.tags.length) _ ⟨0,.free,.free,by simp,by simp[bare]⟩
 intro k s ⟨j,o3,o4,hj,hs⟩
 subst hs
 by_cases hjn:j<e.tags.length
 ·have hw:IntKind.i64.wrap ((j:Int)+1)=(j+1:Nat):=by rw[Ad (by omega) (by omega)];simp
  have hst:=AnQ hjn
  have hb1:(j+1)*32≤1099511627776:=by omega
  have hlen:(bare (e.tags.take j)).length=j:=by rw[M0];simp;omega
  have hlen2:(bare (e.tags.take (j+1))).length=j+1:=by rw[M0];simp;omega
  simp -implicitDefEqProofs [hjn,hb1]
  exact⟨k-1,by omega,j+1,by omega,by simp[hw],by rw[←hst];exact⟨rfl,rfl⟩⟩
 have e2:e.tags.take j=e.tags:=List.take_of_length_le (by omega)
 obtain rfl:j=e.tags.length:=by omega
 simp -implicitDefEqProofs [hjn,e2,hb2]
 have hq:=hG (bare e.tags) seed (Aim (by omega))
 rw[M0]at hq
 refine Aa (hq) ?_
 simp -implicitDefEqProofs
def Mw:Cw:=⟨FZ,0,[]⟩
def KX (e:AL) (vs tags:List Int) (key seed:Int):Cw:=if Az e=true then Atd (He e seed) e.path vs tags key else Mw
abbrev OJ (R:Rel):Prop:=∀(e:AL) (vs tags:List Int) (key seed:Int),Ac e≤4194304→vs.length≤4194304→tags.length≤4194304→
 R [arg (Ak e),.sl 1 1 vs.length (ints vs),.sl 1 1 tags.length (ints tags),I key,I seed] [] (.agg (AP (KX e vs tags key seed))) []
theorem Au6 (D:Dn) (hE:ET (D N9)) (hH:O9 (D AlE)) (hD:AfO (D Auw)):OJ (Body D TP):=by
 intro e vs tags key seed hsz hv ht
 have hl:=XR hsz
 simp -implicitDefEqProofs
 refine Aa (hE e hl) ?_
 by_cases h1:Az e=true
 rotate_left
 ·simp -implicitDefEqProofs [h1,KX,Mw,FZ]
 simp -implicitDefEqProofs [h1]
 refine Aa (hH e seed hsz) ?_
 have hh:=AkW hsz seed
 have he:KX e vs tags key seed=Atd (He e seed) e.path vs tags key:=by unfold KX;rw[if_pos h1]
 rw[he]
 generalize He e seed=h at hh
 simp -implicitDefEqProofs
 refine Aa (hD h e.path vs tags key hh hl.2.2 hv ht) ?_
 simp -implicitDefEqProofs
def clip (n:Int):Int:=max (-100000) (min 100000 n)
abbrev AvY (R:Rel):Prop:=∀n:Int,R [I n] [] (I (clip n)) []
theorem Ayy (D:Dn) (hM:Ath (D AnS)) (hN:AvR (D Axo)):AvY (Body D Un):=by
 intro n
 simp -implicitDefEqProofs
 refine Aa (hN _ _) ?_
 simp -implicitDefEqProofs
 refine Aa (hM _ _) ?_
 simp -implicitDefEqProofs [clip]
def MQ (w:World) (i:Int):Cw:=if SH i 0 ((w.ends.length:Int)-1)then(match w.ends[i.toNat]? with | some e=>KX e w.server w.tags w.key (16*clip w.now+i) | none=>Mw)else Mw
abbrev Te (R:Rel):Prop:=∀(w:World) (i:Int),Ay w≤4194304→R [arg (EF w),I i] [] (.agg (AP (MQ w i))) []
theorem Awl (n:Int):-100000≤clip n∧clip n≤100000:=by unfold clip;omega
theorem Axj (D:Dn) (hI:SG (D CB)) (hC:AvY (D AmQ)) (hB:OJ (D Am6)):Te (Body D Vk):=by
 intro w i hsz
 have he:=JQ hsz
 have hw:IntKind.i64.wrap ((w.ends.length:Int)-1)=(w.ends.length:Int)-1:=Ad (by omega) (by omega)
 simp -implicitDefEqProofs [hw]
 refine Aa (hI _ _ _) ?_
 by_cases h1:SH i 0 ((w.ends.length:Int)-1)
 rotate_left
 ·simp -implicitDefEqProofs [h1,MQ,Mw,FZ]
 obtain⟨n,rfl⟩:∃n:Nat,i=n:=⟨i.toNat,by have:=h1.1;omega⟩
 have hn:n<w.ends.length:=by have:=h1.2;omega
 have hb:=NZ hsz
 have hes:=Q6 hsz hn
 have e:MQ w n=KX w.ends[n] w.server w.tags w.key (16*clip w.now+n):=by unfold MQ;rw[if_pos h1];simp[hn]
 rw[e]
 simp -implicitDefEqProofs [h1,hn]
 refine Aa (hC w.now) ?_
 have hcl:=Awl w.now
 generalize clip w.now=c at hcl
 have hw1:IntKind.i64.wrap (16*c)=16*c:=Ad (by omega) (by omega)
 have hw2:IntKind.i64.wrap (16*c+n)=16*c+n:=Ad (by omega) (by omega)
 simp -implicitDefEqProofs [hw1,hw2]
 refine Aa (hB w.ends[n] w.server w.tags w.key _ hes hb.1 hb.2.1) ?_
 simp -implicitDefEqProofs
end Go.Eng.T
