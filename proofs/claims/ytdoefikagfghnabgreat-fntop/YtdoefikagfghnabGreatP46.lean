/- Own work: part 46 of the proof of FnTop. -/
import Derived.Test.YtdoefikagfghnabGreatP45
import Derived.Lib.SlicesCompact
set_option linter.unusedSimpArgs false
set_option linter.unusedVariables false
namespace Go.Eng.T
set_option maxRecDepth 20000
set_option maxHeartbeats 1000000
def Gf:List Int→Int→Nat
 | [],_=>0
 | x::r,v=>if x<v then Gf r v+1 else 0
theorem Asy:∀(l:List Int) (v:Int),Gf l v≤l.length
 | [],_=>Nat.le_refl 0
 | x::r,v=>by
  have:=Asy r v
  simp only[Gf,List.length_cons]
  split<;>omega
theorem AtQ {l:List Int} {v:Int} {j:Nat} (h:j<l.length) (hv:l[j]<v):Gf (l.drop j) v=Gf (l.drop (j+1)) v+1:=by
 rw[List.drop_eq_getElem_cons h]
 simp only[Gf,if_pos hv]
theorem AjW {l:List Int} {v:Int} {j:Nat} (h:j<l.length) (hv:¬l[j]<v):Gf (l.drop j) v=0:=by
 rw[List.drop_eq_getElem_cons h]
 simp only[Gf,if_neg hv]
theorem Aw4 {l:List Int} {v:Int} {j:Nat} (h:l.length≤j):Gf (l.drop j) v=0:=by rw[List.drop_eq_nil_of_le h];rfl
def Aqk (l:List Int) (i:Nat) (v:Int):List Int:=l.take i++v::l.drop i
theorem Ays {l:List Int} {i:Nat} {v:Int} (h:i≤l.length):(Aqk l i v).length=l.length+1:=by simp[Aqk];omega
def Gb (l:List Int) (v:Int):List Int:=if l[Gf l v]? =some v then l else Aqk l (Gf l v) v
theorem U5 (l:List Int) (v:Int):(Gb l v).length≤l.length+1:=by
 unfold Gb
 split
 ·omega
 ·rw[Ays (Asy l v)];omega
abbrev TF (R:Rel):Prop:=∀(l:List Int) (v:Int),l.length≤4194304→R [.sl 1 1 l.length (ints l),I v] [] (.sl 0 1 (Gb l v).length (ints (Gb l v))) []
abbrev AHa (R:Rel):Prop:=∀(l:List Int) (v:Int),l.length≤4194304→R [.arr 0,I v] [.arr 1 0 l.length (ints l)] (.sl 0 1 (Gb l v).length (ints (Gb l v))) [.dead]
abbrev ANA (R:Rel):Prop:=∀(l:List Int) (i:Nat) (v:Int),l.length≤4194304→i≤l.length→R [.arr 0,I i,.arr 1] [.arr 1 0 l.length (ints l),.arr 1 0 1 (ints [v])] (.sl 0 1 (Aqk l i v).length (ints (Aqk l i v))) [.dead,.dead]
theorem AzD (D:Dn):TF (Body D Vj):=by
 intro l v hl
 simp -implicitDefEqProofs
 refine Ae (fun k s=>∃j,j+k=l.length∧Gf l v=j+Gf (l.drop j) v∧s=⟨[.sl 1 1 l.length (ints l),I v,.undef,I j,.undef,.undef],[.free,.free,.free,.free,.free,.free,.free]⟩) ?_ (l.length) _ ⟨0,by simp,by simp,by simp⟩
 intro k s ⟨j,hj,hp,hs⟩
 subst hs
 by_cases hjn:j<l.length
 ·have hw:IntKind.i64.wrap ((j:Int)+1)=(j+1:Nat):=by rw[Ac (by omega) (by omega)];simp
  by_cases hv:l[j]<v
  ·have hst:=AtQ hjn hv
   simp -implicitDefEqProofs [hjn,hv]
   exact⟨k-1,by omega,j+1,by omega,by omega,by simp[hw]⟩
  ·have hst:=AjW hjn hv
   have hpe:Gf l v=j:=by omega
   have b1:l.length*8≤1099511627776:=by omega
   have b2:j*8≤1099511627776:=by omega
   have b3:(j+1)*8≤1099511627776:=by omega
   have b4:(j+1+(l.length-j))*8≤1099511627776:=by omega
   have hjl:j≤l.length:=by omega
   have hjl':(j:Int)≤l.length:=by omega
   have hmin:min j l.length=j:=by omega
   have htk:List.take (l.length-j) (List.drop j l)=List.drop j l:=List.take_of_length_le (by simp)
   by_cases he:l[j]=v
   ·have e:Gb l v=l:=by unfold Gb;rw[hpe,List.getElem?_eq_getElem hjn,he,if_pos rfl]
    rw[e]
    simp -implicitDefEqProofs [hjn,hv,he,b1]
   ·have e:Gb l v=l.take j++v::l.drop j:=by unfold Gb Aqk;rw[hpe,List.getElem?_eq_getElem hjn,if_neg (by simpa using he)]
    have el:(Gb l v).length=j+1+(l.length-j):=by rw[e];simp;omega
    simp -implicitDefEqProofs [hjn,hv,he,hjl,hjl',hmin,b2,b3,b4]
    rw[el,e]
    simp[htk,Ae3]
 ·have hst:=Aw4 (v:=v) (l:=l) (j:=j) (by omega)
  have hpe:Gf l v=j:=by omega
  have b1:l.length*8≤1099511627776:=by omega
  have b2:j*8≤1099511627776:=by omega
  have b3:(j+1)*8≤1099511627776:=by omega
  have b4:(j+1+(l.length-j))*8≤1099511627776:=by omega
  have hjl:j≤l.length:=by omega
  have hjl':(j:Int)≤l.length:=by omega
  have hmin:min j l.length=j:=by omega
  have htk:List.take (l.length-j) (List.drop j l)=List.drop j l:=List.take_of_length_le (by simp)
  have e:Gb l v=l.take j++v::l.drop j:=by unfold Gb Aqk;rw[hpe,List.getElem?_eq_none (by omega),if_neg (by simp)]
  have el:(Gb l v).length=j+1+(l.length-j):=by rw[e];simp;omega
  simp -implicitDefEqProofs [hjn,hjl,hjl',hmin,b2,b3,b4]
  rw[el,e]
  simp[htk,Ae3]
theorem ALn (D:Dn) (hI:ANA (D AhW)):AHa (Body D AGr):=by
 intro l v hl
 simp -implicitDefEqProofs
 refine Ae (fun k s=>∃j,j+k=l.length∧Gf l v=j+Gf (l.drop j) v∧s=⟨[.arr 0,I v,.undef,I j,.undef,.undef],[.arr 1 0 l.length (ints l),.free,.free]⟩) ?_ (l.length) _ ⟨0,by simp,by simp,by simp⟩
 intro k s ⟨j,hj,hp,hs⟩
 subst hs
 by_cases hjn:j<l.length
 ·have hw:IntKind.i64.wrap ((j:Int)+1)=(j+1:Nat):=by rw[Ac (by omega) (by omega)];simp
  by_cases hv:l[j]<v
  ·have hst:=AtQ hjn hv
   simp -implicitDefEqProofs [hjn,hv]
   exact⟨k-1,by omega,j+1,by omega,by omega,by simp[hw]⟩
  ·have hst:=AjW hjn hv
   have hpe:Gf l v=j:=by omega
   have b1:l.length*8≤1099511627776:=by omega
   have b2:j*8≤1099511627776:=by omega
   have b3:(j+1)*8≤1099511627776:=by omega
   have b4:(j+1+(l.length-j))*8≤1099511627776:=by omega
   have hjl:j≤l.length:=by omega
   have hjl':(j:Int)≤l.length:=by omega
   have hmin:min j l.length=j:=by omega
   have htk:List.take (l.length-j) (List.drop j l)=List.drop j l:=List.take_of_length_le (by simp)
   by_cases he:l[j]=v
   ·have e:Gb l v=l:=by unfold Gb;rw[hpe,List.getElem?_eq_getElem hjn,he,if_pos rfl]
    rw[e]
    simp -implicitDefEqProofs [hjn,hv,he,b1]
   ·have e:Gb l v=Aqk l j v:=by unfold Gb;rw[hpe,List.getElem?_eq_getElem hjn,if_neg (by simpa using he)]
    rw[e]
    simp -implicitDefEqProofs [hjn,hv,he]
    refine Aa (hI l j v hl hjl) ?_
    simp -implicitDefEqProofs [NS]
 ·have hst:=Aw4 (v:=v) (l:=l) (j:=j) (by omega)
  have hpe:Gf l v=j:=by omega
  have b1:l.length*8≤1099511627776:=by omega
  have b2:j*8≤1099511627776:=by omega
  have b3:(j+1)*8≤1099511627776:=by omega
  have b4:(j+1+(l.length-j))*8≤1099511627776:=by omega
  have hjl:j≤l.length:=by omega
  have hjl':(j:Int)≤l.length:=by omega
  have hmin:min j l.length=j:=by omega
  have htk:List.take (l.length-j) (List.drop j l)=List.drop j l:=List.take_of_length_le (by simp)
  have e:Gb l v=Aqk l j v:=by unfold Gb;rw[hpe,List.getElem?_eq_none (by omega),if_neg (by simp)]
  rw[e]
  simp -implicitDefEqProofs [hjn]
  refine Aa (hI l j v hl hjl) ?_
  simp -implicitDefEqProofs [NS]
end Go.Eng.T
namespace Go.Eng.T
set_option maxRecDepth 20000
set_option maxHeartbeats 1000000
def AEi {α:Type} (f:α→α) (xs:List α) (j:Nat):List α:=(xs.take j).map f++xs.drop j
section
variable {α:Type} {f:α→α} {xs:List α} {j:Nat}
theorem AOg:AEi f xs 0=xs:=by simp[AEi]
theorem AOF (h:xs.length≤j):AEi f xs j=xs.map f:=by simp[AEi,List.take_of_length_le h,List.drop_eq_nil_of_le h]
@[simp] theorem AD7 (h:j≤xs.length):(AEi f xs j).length=xs.length:=by simp[AEi];omega
theorem AMp (h:j<xs.length):(AEi f xs j)[j]'(by rw[AD7 (by omega)];exact h)=xs[j]:=by
 unfold AEi
 have hl:((xs.take j).map f).length=j:=by simp;omega
 have hm:min j xs.length=j:=by omega
 rw[List.getElem_append_right (by omega)]
 simp[hm]
theorem AMs (h:j<xs.length):(AEi f xs j).set j (f xs[j])=AEi f xs (j+1):=by
 unfold AEi
 have hl:((xs.take j).map f).length=j:=by simp;omega
 have ht:xs.take (j+1)=xs.take j++ [xs[j]]:=by simp
 rw[List.set_append_right _ _ (by omega),hl,Nat.sub_self,ht,List.map_append,List.drop_eq_getElem_cons h,List.set_cons_zero,List.append_assoc]
 rfl
theorem ALD (h:j<xs.length) (hf:f xs[j]=xs[j]):AEi f xs (j+1)=AEi f xs j:=by
 rw[←AMs h,hf]
 have:=AMp (f:=f) h
 conv=>lhs;rw[←this]
 simp
end
def Aw8 (w:World) (e:Ai):Ai:=if 0<AB w.server (AfB e.versions w.rollout.version)then⟨AfB e.versions w.rollout.version,e.tags,e.path,e.cls⟩else e
def leave (w:World):World:={w with ends:=w.ends.map (Aw8 w),stage:=[]}
abbrev AGN (R:Rel):Prop:=∀w:World,Bo w≤4194304→R [arg (FH w)] [] (.agg (FH (leave w))) []
theorem APe (a:List Int) (v:Int):(AfB a v).length≤a.length:=List.length_filter_le _ _
theorem AMC {w:World} (h:Bo w≤4194304) {j:Nat} (hj:j<w.ends.length):w.ends[j].versions.length≤4194304:=by
 have:=size_at (f:=Af) hj
 have e:Af w.ends[j]=w.ends[j].versions.length+w.ends[j].tags.length+Er Lf w.ends[j].path:=rfl
 unfold Bo at h
 omega
theorem AM5 {w:World} (h:Bo w≤4194304):w.server.length≤4194304:=by unfold Bo at h;omega
theorem AKl (D:Dn) (hC:Y8 (D AvV)) (hW:AHI (D Jr)) (hB:EA (D SK)):AGN (Body D AGo):=by
 intro w h
 have hl:=FU h
 simp -implicitDefEqProofs
 refine Aa (hC w h) ?_
 simp -implicitDefEqProofs
 refine Ae (fun k s=>∃j v5 v6 v7 o9 o10 o11,j+k=w.ends.length∧s=⟨[.undef,.ptr 0 0,.ptr 1 0,.ptr 8 0,.sc (.int .i64 w.rollout.version),v5,v6,v7,.arr 4,.sc (.int .i64 w.ends.length),.sc (.int .i64 j),.undef,.undef],[.var ((FH w).map (AX 1)),.var [.nil 1,.nil 1,.sc (.int .i64 0),.nil 4,.sc (.int .i64 0),.nil 1,.sc (.int .i64 0),.sc (.bool false),.sc (.int .i64 0),.sc (.int .i64 0),.nil 5,.nil 8,.sc (.int .i64 0),.sc (.int .i64 0),.sc (.int .i64 0)],.arr 1 0 w.server.length (ints w.server),.arr 1 0 w.tags.length (ints w.tags),.arr 4 0 w.ends.length ((AEi (Aw8 w) w.ends j).flatMap Ap),.arr 1 0 w.rollout.stages.length (ints w.rollout.stages),.arr 5 0 w.stage.length (w.stage.flatMap A7),.arr 8 0 w.log.length (w.log.flatMap AQ),.var [.arr 2,.arr 3,.sc (.int .i64 w.key),.arr 4,.sc (.int .i64 w.rollout.version),.arr 5,.sc (.int .i64 w.rollout.pos),.sc (.bool w.rollout.off),.sc (.int .i64 w.least),.sc (.int .i64 w.percent),.arr 6,.arr 7,.sc (.int .i64 w.now),.sc (.int .i64 w.hurt),.sc (.int .i64 w.reached)],o9,o10,o11]⟩) ?_ w.ends.length _ ⟨0,by simp[AOg]⟩
 intro k s ⟨j,v5,v6,v7,o9,o10,o11,hj,hs⟩
 subst hs
 by_cases hjn:j<w.ends.length
 ·have hw:IntKind.i64.wrap ((j:Int)+1)=(j+1:Nat):=by rw[Ac (by omega) (by omega)];simp
  have hjl:j≤w.ends.length:=by omega
  have hset:=AMs (f:=Aw8 w) hjn
  have hg:=AMp (f:=Aw8 w) hjn
  have hvl:=AMC h hjn
  have hwl:=APe w.ends[j].versions w.rollout.version
  have hf:j*4<w.ends.length*4:=by omega
  simp -implicitDefEqProofs [hjn,hjl,hg]
  refine Aa (hW w.ends[j].versions _ hvl) ?_
  by_cases h0:(AfB w.ends[j].versions w.rollout.version).length<w.ends[j].versions.length
  ·have h0':((AfB w.ends[j].versions w.rollout.version).length:Int)<w.ends[j].versions.length:=by omega
   simp -implicitDefEqProofs [h0,h0']
   refine Aa (hB w.server _ (AM5 h) (by omega)) ?_
   by_cases h1:0<AB w.server (AfB w.ends[j].versions w.rollout.version)
   ·have e:Aw8 w w.ends[j]=⟨AfB w.ends[j].versions w.rollout.version,w.ends[j].tags,w.ends[j].path,w.ends[j].cls⟩:=by unfold Aw8;rw[if_pos h1]
    rw[e]at hset
    simp -implicitDefEqProofs [h1,hjn,hjl,hg,hf]
    exact⟨k-1,by omega,j+1,by omega,by simp[hw],by rw[←hset]⟩
   ·have e:Aw8 w w.ends[j]=w.ends[j]:=by unfold Aw8;rw[if_neg h1]
    have hsame:=ALD hjn e
    simp -implicitDefEqProofs [h1]
    exact⟨k-1,by omega,j+1,by omega,by simp[hw],by rw[hsame]⟩
  ·have h0':¬((AfB w.ends[j].versions w.rollout.version).length:Int)<w.ends[j].versions.length:=by omega
   have e:Aw8 w w.ends[j]=w.ends[j]:=by
    have hall:AfB w.ends[j].versions w.rollout.version=w.ends[j].versions:=List.filter_eq_self.2 (by
     have:=List.length_filter_eq_length_iff (p:=fun x=> !decide (x=w.rollout.version)) (l:=w.ends[j].versions)
     exact this.1 (by unfold AfB at h0 hwl;omega))
    unfold Aw8
    rw[hall]
    split<;>rfl
   have hsame:=ALD hjn e
   simp -implicitDefEqProofs [h0,h0']
   exact⟨k-1,by omega,j+1,by omega,by simp[hw],by rw[hsame]⟩
 ·have hx:=AOF (f:=Aw8 w) (xs:=w.ends) (j:=j) (by omega)
  simp -implicitDefEqProofs [hjn,hx,leave]
end Go.Eng.T
namespace Go.Eng.T
end Go.Eng.T
namespace Go.Eng.T
set_option maxRecDepth 20000
set_option maxHeartbeats 2000000
def ABD {α:Type} (f:Nat→α→α) (xs:List α) (j:Nat):List α:=xs.mapIdx fun i x=>if i<j then f i x else x
section
variable {α:Type} {f:Nat→α→α} {xs:List α} {j:Nat}
@[simp] theorem ADx:(ABD f xs j).length=xs.length:=by simp[ABD]
theorem AM7:ABD f xs 0=xs:=by
 apply List.ext_getElem
 ·simp
 ·intro n h1 h2;simp[ABD]
theorem AOd (h:xs.length≤j):ABD f xs j=xs.mapIdx f:=by
 apply List.ext_getElem
 ·simp
 ·intro n h1 h2
  simp only[ADx]at h1
  simp only[ABD,List.getElem_mapIdx]
  rw[if_pos (by omega)]
theorem ALu (h:j<xs.length):(ABD f xs j)[j]'(by rw[ADx];exact h)=xs[j]:=by simp[ABD]
theorem ALp (h:j<xs.length):(ABD f xs j).set j (f j xs[j])=ABD f xs (j+1):=by
 apply List.ext_getElem
 ·simp
 ·intro n h1 h2
  simp only[List.length_set,ADx]at h1
  rw[List.getElem_set]
  simp only[ABD,List.getElem_mapIdx]
  by_cases hn:j=n
  ·subst hn;simp
  ·rw[if_neg hn]
   by_cases hl:n<j
   ·rw[if_pos hl,if_pos (by omega)]
   ·rw[if_neg hl,if_neg (by omega)]
theorem ANv (h:j<xs.length) (hf:f j xs[j]=xs[j]):ABD f xs (j+1)=ABD f xs j:=by
 rw[←ALp h,hf]
 have:=ALu (f:=f) h
 conv=>lhs;rw[←this]
 simp
end
def AwM (w:World) (i:Nat) (e:Ai):Ai:=if isIn w.rollout i w.ends.length=true then⟨Gb e.versions w.rollout.version,e.tags,e.path,e.cls⟩else e
def Ax5 (w:World):Bool:=Br w.rollout&& !w.rollout.off
def enter (w:World):World:=if Ax5 w=true then {w with ends:=w.ends.mapIdx (AwM w),stage:=[],reached:=max w.reached (w.rollout.pos+1)}else w
abbrev AGQ (R:Rel):Prop:=∀w:World,Bo w≤4194304→R [arg (FH w)] [] (.agg (FH (enter w))) []
theorem AK8 (D:Dn) (hC:Y8 (D AvV)) (hR:Iw (D Ac6)) (hI:Asg (D Aro)) (hP:AHa (D ArZ)):AGQ (Body D AGA):=by
 intro w h
 have hl:=FU h
 have hr:=AfN h
 simp -implicitDefEqProofs
 refine Aa (hC w h) ?_
 simp -implicitDefEqProofs
 refine Aa (hR w.rollout hr) ?_
 by_cases h1:Br w.rollout=true
 rotate_left
 ·have e:enter w=w:=by unfold enter Ax5;rw[if_neg (by simp[h1])]
  simp -implicitDefEqProofs [h1,e]
 by_cases h2:w.rollout.off=true
 ·have e:enter w=w:=by unfold enter Ax5;rw[if_neg (by simp[h2])]
  simp -implicitDefEqProofs [h1,h2,e]
 have h2':w.rollout.off=false:=by simpa using h2
 have e:enter w={w with ends:=w.ends.mapIdx (AwM w),stage:=[],reached:=max w.reached (w.rollout.pos+1)}:=by unfold enter Ax5;rw[if_pos (by simp[h1,h2'])]
 have hp:=Ayq h1
 have hwp:IntKind.i64.wrap (w.rollout.pos+1)=w.rollout.pos+1:=Ac (by omega) (by omega)
 simp -implicitDefEqProofs [h1,h2]
 refine Ae (fun k s=>∃j v5 o10 o11,j+k=w.ends.length∧s=⟨[.undef,.ptr 0 0,.ptr 1 0,.ptr 8 0,.ptr 9 0,v5,.undef,I w.ends.length,I j,.undef,.undef],[.var ((FH w).map (AX 1)),.var [.nil 1,.nil 1,.sc (.int .i64 0),.nil 4,.sc (.int .i64 0),.nil 1,.sc (.int .i64 0),.sc (.bool false),.sc (.int .i64 0),.sc (.int .i64 0),.nil 5,.nil 8,.sc (.int .i64 0),.sc (.int .i64 0),.sc (.int .i64 0)],.arr 1 0 w.server.length (ints w.server),.arr 1 0 w.tags.length (ints w.tags),.arr 4 0 w.ends.length ((ABD (AwM w) w.ends j).flatMap Ap),.arr 1 0 w.rollout.stages.length (ints w.rollout.stages),.arr 5 0 w.stage.length (w.stage.flatMap A7),.arr 8 0 w.log.length (w.log.flatMap AQ),.var [.arr 2,.arr 3,.sc (.int .i64 w.key),.arr 4,.sc (.int .i64 w.rollout.version),.arr 5,.sc (.int .i64 w.rollout.pos),.sc (.bool w.rollout.off),.sc (.int .i64 w.least),.sc (.int .i64 w.percent),.arr 6,.arr 7,.sc (.int .i64 w.now),.sc (.int .i64 w.hurt),.sc (.int .i64 w.reached)],.var [.sc (.int .i64 w.rollout.version),.sl 1 1 w.rollout.stages.length (ints w.rollout.stages),.sc (.int .i64 w.rollout.pos),.sc (.bool w.rollout.off)],o10,o11]⟩) ?_ (w.ends.length) _ ⟨0,.undef,.free,.free,by simp,by simp[AM7,h2']⟩
 intro k s ⟨j,v5,o10,o11,hj,hs⟩
 subst hs
 by_cases hjn:j<w.ends.length
 ·have hw:IntKind.i64.wrap ((j:Int)+1)=(j+1:Nat):=by rw[Ac (by omega) (by omega)];simp
  have hset:=ALp (f:=AwM w) hjn
  have hg:=ALu (f:=AwM w) hjn
  have hvl:=AMC h hjn
  have hf:j*4<w.ends.length*4:=by omega
  simp -implicitDefEqProofs [hjn]
  refine⟨by cases o11<;>rfl,?_⟩
  refine Aa (hI w.rollout j w.ends.length hr) ?_
  by_cases h3:isIn w.rollout j w.ends.length=true
  ·have e3:AwM w j w.ends[j]=⟨Gb w.ends[j].versions w.rollout.version,w.ends[j].tags,w.ends[j].path,w.ends[j].cls⟩:=by unfold AwM;rw[if_pos h3]
   rw[e3]at hset
   simp -implicitDefEqProofs [h3,hjn,hg,hf]
   refine Aa (hP w.ends[j].versions _ hvl) ?_
   simp -implicitDefEqProofs [hjn,hg,hf]
   exact⟨k-1,by omega,j+1,by omega,by simp[hw],by rw[←hset]⟩
  ·have e3:AwM w j w.ends[j]=w.ends[j]:=by unfold AwM;rw[if_neg h3]
   have hsame:=ANv hjn e3
   simp -implicitDefEqProofs [h3]
   exact⟨k-1,by omega,j+1,by omega,by simp[hw],by rw[hsame]⟩
 ·have hx:=AOd (f:=AwM w) (xs:=w.ends) (j:=j) (by omega)
  by_cases hmx:w.reached<w.rollout.pos+1
  ·have em:max w.reached (w.rollout.pos+1)=w.rollout.pos+1:=by omega
   simp -implicitDefEqProofs [hjn,hwp,hx,e,h2',hmx,em]
  ·have em:max w.reached (w.rollout.pos+1)=w.reached:=by omega
   simp -implicitDefEqProofs [hjn,hwp,hx,e,h2',hmx,em]
def AEj (w:World):World×Bool:=if decide (w.reached=0)&&Ax5 w then(enter w,true)else(w,false)
abbrev AHW (R:Rel):Prop:=∀w:World,Bo w≤4194304→R [arg (FH w)] [] (.tup [.agg (FH (AEj w).1),B (AEj w).2]) []
theorem ALH (D:Dn) (hC:Y8 (D AvV)) (hR:Iw (D Ac6)) (hE:AGQ (D Auw)):AHW (Body D AGX):=by
 intro w h
 have hr:=AfN h
 by_cases h0:w.reached=0
 rotate_left
 ·have e:AEj w=(w,false):=by unfold AEj;simp[h0]
  simp -implicitDefEqProofs [h0]
  refine Aa (hC w h) ?_
  simp -implicitDefEqProofs [e]
 simp -implicitDefEqProofs [h0]
 refine Aa (hR w.rollout hr) ?_
 by_cases h1:Br w.rollout=true
 rotate_left
 ·have e:AEj w=(w,false):=by unfold AEj Ax5;simp[h1]
  simp -implicitDefEqProofs [h1]
  have hcs:=hC w h
  simp -implicitDefEqProofs [h0]at hcs
  refine Aa hcs ?_
  clear hcs
  simp -implicitDefEqProofs [e,h0]
 by_cases h2:w.rollout.off=true
 ·have e:AEj w=(w,false):=by unfold AEj Ax5;simp[h2]
  simp -implicitDefEqProofs [h1,h2]
  have hcs:=hC w h
  simp -implicitDefEqProofs [h0,h2]at hcs
  refine Aa hcs ?_
  clear hcs
  simp -implicitDefEqProofs [e,h0,h2]
 have h2':w.rollout.off=false:=by simpa using h2
 have e:AEj w=(enter w,true):=by unfold AEj Ax5;simp[h0,h1,h2']
 simp -implicitDefEqProofs [h1,h2]
 have hcs:=hE w h
 simp -implicitDefEqProofs [h0,h2]at hcs
 refine Aa hcs ?_
 clear hcs
 simp -implicitDefEqProofs [e]
end Go.Eng.T
namespace Go.Eng.T
set_option maxRecDepth 20000
set_option maxHeartbeats 2000000
open Go.Lib (compact compactUpTo keeps)
abbrev Up (l:List Int):Prop:=l.Pairwise (· < ·)
theorem Aqm:∀ {a b:List Int},Up a→Up b→(∀x,x∈a↔x∈b)→a=b
 | [],[],_,_,_=>rfl
 | [],y::b,_,_,h=>by have:=(h y).2 (by simp);simp at this
 | x::a,[],_,_,h=>by have:=(h x).1 (by simp);simp at this
 | x::a,y::b,ha,hb,h=>by
  rw[Up,List.pairwise_cons]at ha hb
  have hxy:x=y:=by
   have h1:=(h x).1 (by simp)
   have h2:=(h y).2 (by simp)
   rcases List.mem_cons.1 h1 with e | h1
   ·exact e
   ·rcases List.mem_cons.1 h2 with e | h2
    ·exact e.symm
    ·have:=hb.1 x h1;have:=ha.1 y h2;omega
  subst hxy
  congr 1
  refine Aqm ha.2 hb.2 fun z=>⟨fun hz=> ?_,fun hz=> ?_⟩
  ·rcases List.mem_cons.1 ((h z).1 (by simp[hz]))with e | h1
   ·subst e;have:=ha.1 z hz;omega
   ·exact h1
  ·rcases List.mem_cons.1 ((h z).2 (by simp[hz]))with e | h1
   ·subst e;have:=hb.1 z hz;omega
   ·exact h1
theorem KT:∀(l:List Int) (v x:Int),x∈Gb l v↔x∈l∨x=v:=by
 intro l v x
 unfold Gb
 split
 ·rename_i h
  constructor
  ·exact .inl
  ·rintro (h1 | rfl)
   ·exact h1
   ·exact List.mem_of_getElem? h
 ·unfold Aqk
  rw[List.mem_append,List.mem_cons]
  have:x∈l↔x∈l.take (Gf l v)∨x∈l.drop (Gf l v):=by
   conv=>lhs;rw[←List.take_append_drop (Gf l v) l,List.mem_append]
  rw[this]
  constructor
  ·rintro (h1 | h1 | h1)
   ·exact .inl (.inl h1)
   ·exact .inr h1
   ·exact .inl (.inr h1)
  ·rintro ((h1 | h1) | h1)
   ·exact .inl h1
   ·exact .inr (.inr h1)
   ·exact .inr (.inl h1)
theorem AcB:∀(l:List Int) (v x:Int),x∈l.take (Gf l v)→x<v
 | [],v,x,h=>by simp at h
 | y::r,v,x,h=>by
  simp only[Gf]at h
  split at h
  ·rw[List.take_succ_cons]at h
   rcases List.mem_cons.1 h with rfl | h
   ·assumption
   ·exact AcB r v x h
  ·simp at h
theorem YS:∀ {l:List Int} (v:Int),Up l→Up (Gb l v):=by
 intro l v hl
 unfold Gb
 split
 ·exact hl
 ·rename_i hne
  unfold Aqk Up
  rw[List.pairwise_append,List.pairwise_cons]
  have hb:=AcB l v
  have hafter:∀y,y∈l.drop (Gf l v)→v<y:=by
   intro y hy
   by_cases hk:Gf l v<l.length
   ·have hs:=AjW (l:=l) (v:=v) hk (by
     intro hlt
     have key:∀(l:List Int) (h:Gf l v<l.length),¬l[Gf l v]<v:=by
      intro l
      induction l with
      | nil=>intro h;simp at h
      | cons x r ih=>
       intro h
       by_cases hx:x<v
       ·have e:Gf (x::r) v=Gf r v+1:=by simp[Gf,hx]
        have h':Gf r v<r.length:=by rw[e]at h;simpa using h
        have:=ih h'
        simp only[e,List.getElem_cons_succ]
        exact this
       ·have e:Gf (x::r) v=0:=by simp[Gf,hx]
        simp only[e,List.getElem_cons_zero]
        exact hx
     exact key l hk hlt)
    have key:∀(l:List Int) (h:Gf l v<l.length),¬l[Gf l v]<v:=by
     intro l
     induction l with
     | nil=>intro h;simp at h
     | cons x r ih=>
      intro h
      by_cases hx:x<v
      ·have e:Gf (x::r) v=Gf r v+1:=by simp[Gf,hx]
       have h':Gf r v<r.length:=by rw[e]at h;simpa using h
       have:=ih h'
       simp only[e,List.getElem_cons_succ]
       exact this
      ·have e:Gf (x::r) v=0:=by simp[Gf,hx]
       simp only[e,List.getElem_cons_zero]
       exact hx
    have h1:=key l hk
    have h2:l[Gf l v]≠v:=by
     intro e;apply hne;rw[List.getElem?_eq_getElem hk,e]
    rw[List.drop_eq_getElem_cons hk]at hy
    have hp:(l[Gf l v]::l.drop (Gf l v+1)).Pairwise (· < ·):=by rw[←List.drop_eq_getElem_cons hk];exact hl.drop
    rw[List.pairwise_cons]at hp
    rcases List.mem_cons.1 hy with rfl | hy
    ·omega
    ·have:=hp.1 y hy;omega
   ·rw[List.drop_eq_nil_of_le (by omega)]at hy;simp at hy
  refine⟨hl.take,⟨hafter,hl.drop⟩,fun a ha b hb'=> ?_⟩
  have h1:=hb a ha
  rcases List.mem_cons.1 hb' with rfl | hb'
  ·exact h1
  ·have:=hafter b hb';omega
def X0 (l:List Int) (xs:List Int):List Int:=xs.foldl Gb l
theorem At9:∀ {xs l:List Int},Up l→Up (X0 l xs)
 | [],_,h=>h
 | x::xs,l,h=>At9 (xs:=xs) (YS x h)
theorem Aqu:∀(xs l:List Int) (x:Int),x∈X0 l xs↔x∈l∨x∈xs
 | [],l,x=>by simp[X0]
 | y::xs,l,x=>by
  have:=Aqu xs (Gb l y) x
  unfold X0 at *
  rw[List.foldl_cons,this,KT,List.mem_cons]
  constructor
  ·rintro ((h | h) | h)
   ·exact .inl h
   ·exact .inr (.inl h)
   ·exact .inr (.inr h)
  ·rintro (h | h | h)
   ·exact .inl (.inl h)
   ·exact .inl (.inr h)
   ·exact .inr h
theorem AMa (zs:List Int) (x:Int):x∈compact zs↔x∈zs:=by
 have hget:∀i,i<zs.length→zs.toArray[i]! =zs[i]! :=fun i _=>by simp
 unfold compact compactUpTo
 simp only[List.mem_map,List.mem_filter,List.mem_range]
 constructor
 ·rintro ⟨i,⟨hi,_⟩,rfl⟩
  rw[hget i hi,getElem!_pos zs i hi]
  exact List.getElem_mem hi
 ·intro hx
  have key:∀n,(h:n<zs.length)→zs[n]=x→∃i,(i<zs.length∧keeps zs.toArray i=true)∧zs.toArray[i]! =x:=by
   intro n
   induction n with
   | zero=>intro h e;exact⟨0,⟨h,by simp[keeps]⟩,by rw[hget 0 h,getElem!_pos zs 0 h,e]⟩
   | succ n ih=>
    intro h e
    by_cases hk:zs[n]=x
    ·exact ih (by omega) hk
    ·refine⟨n+1,⟨h,?_⟩,by rw[hget _ h,getElem!_pos zs _ h,e]⟩
     unfold keeps
     rw[show n+1-1=n by omega,hget _ h,hget n (by omega),getElem!_pos zs _ h,getElem!_pos zs n (by omega),e]
     simp
     exact fun h=>hk h.symm
  obtain⟨n,hn,e⟩:=List.getElem_of_mem hx
  exact key n hn e
theorem ANi (zs:List Int) (h:zs.Pairwise (·≤·)):Up (compact zs):=by
 have hget:∀i,i<zs.length→zs.toArray[i]! =zs[i]! :=fun i _=>by simp
 unfold compact compactUpTo Up
 rw[List.pairwise_map]
 have hr:((List.range zs.length).filter (keeps zs.toArray)).Pairwise (· < ·):=List.Pairwise.filter _ List.pairwise_lt_range
 refine hr.imp_of_mem ?_
 intro i j hi hj hij
 simp only[List.mem_filter,List.mem_range]at hi hj
 have hk:=hj.2
 unfold keeps at hk
 have h0:¬j=0:=by omega
 simp only[h0,false_or,decide_eq_true_eq]at hk
 rw[hget j hj.1,hget (j-1) (by omega),getElem!_pos zs j hj.1,getElem!_pos zs (j-1) (by omega)]at hk
 rw[hget i hi.1,hget j hj.1,getElem!_pos zs i hi.1,getElem!_pos zs j hj.1]
 rw[List.pairwise_iff_getElem]at h
 have h1:=h (j-1) j (by omega) hj.1 (by omega)
 have h2:zs[i]≤zs[j-1]:=by
  by_cases e:i=j-1
  ·simp[e]
  ·exact h i (j-1) hi.1 (by omega) (by omega)
 omega
def AIF (l:List Int):List Int:=l.mergeSort fun x y=>decide (x≤y)
theorem AIk (l:List Int):(AIF l).length=l.length:=by simp[AIF]
theorem AN4 (l:List Int) (x:Int):x∈AIF l↔x∈l:=by simp[AIF]
theorem AMQ (l:List Int):(AIF l).Pairwise (·≤·):=by
 have:=List.pairwise_mergeSort (le:=fun x y:Int=>decide (x≤y)) (fun a b c h1 h2=>by simp at *;omega) (fun a b=>by simp;omega) l
 exact this.imp fun h=>by simpa using h
theorem AL0 (l:List Int):compact (AIF l)=X0 [] l:=by
 refine Aqm (ANi _ (AMQ l)) (At9 List.Pairwise.nil) fun x=> ?_
 rw[AMa,AN4,Aqu]
 simp
abbrev ANy (R:Rel):Prop:=∀l:List Int,l.length≤4194304→R [.arr 0] [.arr 1 0 l.length (ints l)] (.tup []) [.arr 1 0 l.length (ints (AIF l))]
abbrev CompactS (R:Rel):Prop:=∀l:List Int,l.length≤4194304→R [.arr 0] [.arr 1 0 l.length (ints l)] (.sl 0 1 (compact l).length (ints (compact l))) [.dead]
def AHj (w:World) (xs:List DW):List Int:=(xs.filter (AFX w)).map (·.fin)
def AGC (w:World):List Int:=X0 [] (AHj w w.log)
theorem ANp {w:World} {xs:List DW} {j:Nat} (h:j<xs.length):AHj w (xs.take (j+1))=AHj w (xs.take j)++(if AFX w xs[j]then [xs[j].fin]else []):=by
 unfold AHj
 rw[AfM h]
 by_cases hp:AFX w xs[j]=true<;>simp[hp]
theorem AN9 {w:World} {xs:List DW} {j:Nat} (h:xs.length≤j):AHj w (xs.take j)=AHj w xs:=by rw[List.take_of_length_le h]
theorem ALy {w:World} {xs:List DW} {j:Nat}:(AHj w (xs.take j)).length≤j:=by
 unfold AHj
 rw[List.length_map]
 exact Akz
theorem AqB:∀(xs l:List Int),(X0 l xs).length≤l.length+xs.length
 | [],l=>by simp[X0]
 | x::xs,l=>by
  have h1:=AqB xs (Gb l x)
  have h2:=U5 l x
  unfold X0 at *
  simp only[List.foldl_cons,List.length_cons]
  omega
abbrev AIr (R:Rel):Prop:=∀w:World,Bo w≤4194304→R [arg (FH w)] [] (.sl 0 1 (AGC w).length (ints (AGC w))) []
theorem AMg (D:Dn) (hB:AMu (D Azs)) (hS:ANy (D AjT)) (hC:CompactS (D AfR)):AIr (Body D AGZ):=by
 intro w hsz
 have hl:=Auq hsz
 have hres:AGC w=compact (AIF (AHj w w.log)):=(AL0 _).symm
 rw[hres]
 simp -implicitDefEqProofs
 refine Ae (fun k s=>∃j v4 o2 o3 o4,j+k=w.log.length∧s=⟨[.undef,.ptr 0 0,.undef,.arr 6,v4,.sl 1 8 w.log.length (w.log.flatMap AQ),I w.log.length,I j,.undef,.undef],[.var ((FH w).map (AX 1)),.free,o2,o3,o4,.free,.arr 1 0 (AHj w (w.log.take j)).length (ints (AHj w (w.log.take j)))]⟩) ?_ (w.log.length) _ ⟨0,.undef,.free,.free,.free,by simp,by simp[AHj]⟩
 intro k s ⟨j,v4,o2,o3,o4,hj,hs⟩
 subst hs
 by_cases hjn:j<w.log.length
 ·have hw:IntKind.i64.wrap ((j:Int)+1)=(j+1:Nat):=by rw[Ac (by omega) (by omega)];simp
  have hst:=ANp (w:=w) hjn
  have hfl:=ALy (w:=w) (xs:=w.log) (j:=j)
  have hbd:((AHj w (w.log.take j)).length+1)*8≤1099511627776:=by omega
  simp -implicitDefEqProofs [hjn]
  refine Aa (hB w w.log[j] (AMH hsz hjn)) ?_
  by_cases h1:AFX w w.log[j]=true
  ·rw[if_pos h1]at hst
   simp -implicitDefEqProofs [h1,hjn,hbd]
   exact⟨k-1,by omega,j+1,by omega,by simp[hw],by rw[hst];simp,by rw[hst]⟩
  ·rw[if_neg h1,List.append_nil]at hst
   simp -implicitDefEqProofs [h1]
   exact⟨k-1,by omega,j+1,by omega,by simp[hw],by rw[hst],by rw[hst]⟩
 ·have hx:=AN9 (w:=w) (xs:=w.log) (j:=j) (by omega)
  have hfl:=ALy (w:=w) (xs:=w.log) (j:=w.log.length)
  rw[List.take_length]at hfl
  simp -implicitDefEqProofs [hjn,hx]
  refine Aa (hS _ (by omega)) ?_
  simp -implicitDefEqProofs [AIk]
  have hc:=hC (AIF (AHj w w.log)) (by rw[AIk];omega)
  rw[AIk]at hc
  refine Aa (hc) ?_
  simp -implicitDefEqProofs
def ACn (r:EP) (i:Nat):EP:=⟨r.version,r.stages,i,r.off⟩
def AC3 (r:EP) (n:Int):Nat→Int
 | 0=>0
 | k+1=>max (AC3 r n k) (countIn (ACn r k) n)
def AGB (r:EP) (n s:Int):Int:=if Br r=true∧Qt s 1 r.stages.length then AC3 r n s.toNat else 0
abbrev AIo (R:Rel):Prop:=∀(r:EP) (n s:Int),r.stages.length≤4194304→R [arg (Iq r),I n,I s] [] (I (AGB r n s)) []
theorem AL9 (D:Dn) (hR:Iw (D Ac6)) (hI:Tg (D Bz)) (hC:Aap (D AiA)):AIo (Body D AHk):=by
 intro r n st hl
 simp -implicitDefEqProofs
 refine Aa (hR r hl) ?_
 by_cases h1:Br r=true
 rotate_left
 ·have e:AGB r n st=0:=by unfold AGB;rw[if_neg (by simp[h1])]
  simp -implicitDefEqProofs [h1,e]
 simp -implicitDefEqProofs [h1]
 refine Aa (hI _ _ _) ?_
 by_cases h2:Qt st 1 r.stages.length
 rotate_left
 ·have e:AGB r n st=0:=by unfold AGB;rw[if_neg (fun h=>h2 h.2)]
  simp -implicitDefEqProofs [h2,e]
 obtain⟨m,rfl⟩:∃m:Nat,st=m:=⟨st.toNat,by have:=h2.1;omega⟩
 have hm:m≤r.stages.length:=by have:=h2.2;omega
 have e:AGB r n m=AC3 r n m:=by unfold AGB;rw[if_pos ⟨h1,h2⟩];simp
 rw[e]
 simp -implicitDefEqProofs [h2]
 refine Ae (fun k s=>∃j at0,j+k=m∧s=⟨[.undef,I n,.undef,.ptr 0 0,.undef,I (AC3 r n j),.undef,.undef,I m,I j,.undef],[.var [.sc (.int .i64 r.version),.sl 1 1 r.stages.length (ints r.stages),.sc (.int .i64 at0),.sc (.bool r.off)]]⟩) ?_ (m) _ ⟨0,r.pos,by simp,by simp[AC3]⟩
 intro k s ⟨j,at0,hj,hs⟩
 subst hs
 by_cases hjn:j<m
 ·have hw:IntKind.i64.wrap ((j:Int)+1)=(j+1:Nat):=by rw[Ac (by omega) (by omega)];simp
  simp -implicitDefEqProofs [hjn]
  refine Aa (hC (ACn r j) n hl) ?_
  by_cases hmx:AC3 r n j<countIn (ACn r j) n
  ·have em:AC3 r n (j+1)=countIn (ACn r j) n:=by simp only[AC3];omega
   simp -implicitDefEqProofs [hmx]
   exact⟨k-1,by omega,j+1,by omega,by rw[em],by simp[hw]⟩
  ·have em:AC3 r n (j+1)=AC3 r n j:=by simp only[AC3];omega
   simp -implicitDefEqProofs [hmx]
   exact⟨k-1,by omega,j+1,by omega,by rw[em],by simp[hw]⟩
 ·obtain rfl:j=m:=by omega
  simp -implicitDefEqProofs
def AHe (r:EP):EP:=⟨r.version,r.stages,r.pos,false⟩
def AHc (w:World):Bool:=decide (((AGC w).length:Int)≤AGB (AHe w.rollout) w.ends.length w.reached)
abbrev AHK (R:Rel):Prop:=∀w:World,Bo w≤4194304→R [arg (FH w)] [] (B (AHc w)) []
theorem ALX (D:Dn) (hH:AIr (D Axr)) (hM:AIo (D Ayc)):AHK (Body D AGU):=by
 intro w hsz
 simp -implicitDefEqProofs
 refine Aa (hH w hsz) ?_
 simp -implicitDefEqProofs
 refine Aa (hM (AHe w.rollout) _ _ (AfN hsz)) ?_
 simp -implicitDefEqProofs [AHc]
end Go.Eng.T
namespace Go.Eng.T
set_option maxRecDepth 20000
theorem AnO (D:Dn) (hA:Gu (D Gj)) (hI:Tg (D Bz)):VU (Body D PW):=by
 intro g b l p
 simp -implicitDefEqProofs
 refine Aa (hA [g,b,l] 0 10000 (by unfold maxLen;simp)) ?_
 by_cases h1:allIn [g,b,l] 0 10000=true
 rotate_left
 ·have e:F8 g b l p=0:=by
   unfold F8
   rw[if_pos]
   simp[allIn]at h1
   by_cases a:Ov g 0 10000
   ·by_cases c:Ov b 0 10000
    ·right;right;left;intro h;have:=h1 a.1 a.2 c.1 c.2 (by omega);omega
    ·exact .inr (.inl c)
   ·exact .inl a
  simp -implicitDefEqProofs [h1,e]
 have h1':Ov g 0 10000∧Ov b 0 10000∧Ov l 0 10000:=by simpa[allIn]using h1
 by_cases h2:l=0
 ·have e:F8 g b l p=0:=by unfold F8;rw[if_pos (by right;right;left;omega)]
  subst h2
  simp -implicitDefEqProofs [h1,e]
 simp -implicitDefEqProofs [h1,h2]
 refine Aa (hI _ _ _) ?_
 by_cases h4:Ov p 0 100
 rotate_left
 ·simp -implicitDefEqProofs [h2,h4,F8]
 have w1:IntKind.i64.wrap (100*b)=100*b:=Ac (by omega) (by omega)
 have w2:=Aj7 h4.1 h4.2 (x:=l) (by omega) (by omega)
 have w3:=Aj7 h4.1 h4.2 (x:=g+b) (by omega) (by omega)
 have w4:IntKind.i64.wrap (g+b)=g+b:=Ac (by omega) (by omega)
 have e:F8 g b l p=if 100*b>p*l∧100*b>p*(g+b)then 2 else if g+b<l then 0 else if 100*b≤p*(g+b)then 1 else 2:=by unfold F8;rw[if_neg (by omega)]
 rw[e]
 clear e
 by_cases c1:p*l<100*b
 ·by_cases c2:p*(g+b)<100*b
  ·simp -implicitDefEqProofs [h2,h4,w1,w2,w3,w4,c1,c2]
  ·have c3:100*b≤p*(g+b):=by omega
   by_cases c4:g+b<l
   ·simp -implicitDefEqProofs [h2,h4,w1,w2,w3,w4,c1,c2,c3,c4]
   ·simp -implicitDefEqProofs [h2,h4,w1,w2,w3,w4,c1,c2,c3,c4]
 ·by_cases c4:g+b<l
  ·simp -implicitDefEqProofs [h2,h4,w1,w2,w3,w4,c1,c4]
  ·by_cases c3:100*b≤p*(g+b)
   ·simp -implicitDefEqProofs [h2,h4,w1,w2,w3,w4,c1,c3,c4]
   ·simp -implicitDefEqProofs [h2,h4,w1,w2,w3,w4,c1,c3,c4]
theorem AoI (D:Dn) (hB:Gy (D AnC)):Wl (Body D P5):=by
 intro xs v hl hu
 unfold maxLen at hl
 simp -implicitDefEqProofs
 refine Ae (fun k s=>∃j o,j+k=xs.length∧s=⟨[.undef,.sc (.int .i64 v),.undef,.undef,.sc (.int .i64 (cntF (goodD v) (xs.take j))),.sc (.int .i64 (cntF (SE v) (xs.take j))),.undef,.sl 1 5 xs.length (xs.flatMap A7),.sc (.int .i64 xs.length),.sc (.int .i64 j),.undef,.undef,.undef],[o]⟩) ?_ xs.length _ ⟨0,.free,by simp,by simp[cntF]⟩
 intro k s ⟨j,o0,hj,hs⟩
 subst hs
 by_cases hjn:j<xs.length
 ·have hw:IntKind.i64.wrap ((j:Int)+1)=(j+1:Nat):=by rw[Ac (by omega) (by omega)];simp
  have hc:=Aom (f:=goodD v) hjn
  have hb:=Aom (f:=SE v) hjn
  have hcl:=AxC (f:=goodD v) (xs:=xs) (j:=j) (by omega)
  have hbl:=AxC (f:=SE v) (xs:=xs) (j:=j) (by omega)
  have hw2:IntKind.i64.wrap ((cntF (goodD v) (xs.take j):Int)+1)=(cntF (goodD v) (xs.take j)+1:Nat):=by rw[Ac (by omega) (by omega)];simp
  have hw3:IntKind.i64.wrap ((cntF (SE v) (xs.take j):Int)+1)=(cntF (SE v) (xs.take j)+1:Nat):=by rw[Ac (by omega) (by omega)];simp
  simp -implicitDefEqProofs [hjn]
  refine Aa (hB xs[j] v (hu j hjn)) ?_
  by_cases hbd:SE v xs[j]=true
  ·simp -implicitDefEqProofs [hbd]
   exact⟨k-1,by omega,j+1,by omega,by rw[hc];simp[goodD,hbd],by rw[hb,hw3];simp[hbd],by simp[hw]⟩
  ·by_cases h4:v≤xs[j].deal.version
   ·simp -implicitDefEqProofs [hbd,h4]
    exact⟨k-1,by omega,j+1,by omega,by rw[hc,hw2];simp[goodD,hbd,h4],by rw[hb];simp[hbd],by simp[hw]⟩
   ·simp -implicitDefEqProofs [hbd,h4]
    exact⟨k-1,by omega,j+1,by omega,by rw[hc];simp[goodD,hbd,h4],by rw[hb];simp[hbd],by simp[hw]⟩
 ·have hx:=AsH (f:=goodD v) (xs:=xs) (j:=j) (by omega)
  have hy:=AsH (f:=SE v) (xs:=xs) (j:=j) (by omega)
  simp -implicitDefEqProofs [hjn,hx,hy]
theorem AqW {w:World} (h:Bo w≤4194304):∀(j:Nat) (hj:j<w.stage.length),w.stage[j].up.length≤maxLen:=by
 intro j hj
 have:=size_at (f:=BJ) hj
 unfold Bo at h
 have e:BJ w.stage[j]=XI w.stage[j].deal+w.stage[j].up.length:=rfl
 unfold maxLen;omega
def SB (w:World):Int:=F8 (cntF (goodD w.rollout.version) w.stage) (cntF (SE w.rollout.version) w.stage) w.least w.percent
abbrev TH (R:Rel):Prop:=∀w:World,Bo w≤4194304→R [arg (FH w)] [] (I (SB w)) []
theorem AmA (D:Dn) (hM:Wl (D Ahn)) (hS:VU (D AfY)):TH (Body D Oc):=by
 intro w h
 simp -implicitDefEqProofs
 refine Aa (hM w.stage _ (by have:=Acx h;unfold maxLen;omega) (AqW h)) ?_
 simp -implicitDefEqProofs
 refine Aa (hS _ _ _ _) ?_
 simp -implicitDefEqProofs [SB]
end Go.Eng.T
namespace Go.Eng.T
set_option maxRecDepth 20000
set_option maxHeartbeats 2000000
def AHs (r:EP):Bool:=Br r&&(!r.off&& !decide (r.pos=(r.stages.length:Int)-1))
def AmJ (r:EP):EP×Bool:=if AHs r=true then(⟨r.version,r.stages,r.pos+1,r.off⟩,true)else(r,false)
abbrev AHU (R:Rel):Prop:=∀r:EP,G8 r≤4194304→R [arg (Iq r)] [] (.tup [.agg (Iq (AmJ r).1),B (AmJ r).2]) []
theorem ALU (D:Dn) (hC:Tt (D ArP)) (hR:Iw (D Ac6)):AHU (Body D AGW):=by
 intro r h
 have hl:r.stages.length≤4194304:=h
 have hw1:IntKind.i64.wrap ((r.stages.length:Int)-1)=(r.stages.length:Int)-1:=Ac (by omega) (by omega)
 simp -implicitDefEqProofs
 refine Aa (hC r h) ?_
 simp -implicitDefEqProofs
 refine Aa (hR r hl) ?_
 by_cases h1:Br r=true
 rotate_left
 ·have e:AmJ r=(r,false):=by unfold AmJ AHs;rw[if_neg (by simp[h1])]
  simp -implicitDefEqProofs [h1,e]
 by_cases h2:r.off=true
 ·have e:AmJ r=(r,false):=by unfold AmJ AHs;rw[if_neg (by simp[h2])]
  simp -implicitDefEqProofs [h1,h2,e]
 have h2':r.off=false:=by simpa using h2
 have hp:=Ayq h1
 have hwp:IntKind.i64.wrap (r.pos+1)=r.pos+1:=Ac (by omega) (by omega)
 obtain⟨ver,stg,pos,off⟩:=r
 dsimp only at *
 subst h2'
 by_cases h3:pos=(stg.length:Int)-1
 ·have e:AmJ ⟨ver,stg,pos,false⟩=(⟨ver,stg,pos,false⟩,false):=by unfold AmJ AHs;rw[if_neg (by simp[h3])]
  subst h3
  simp -implicitDefEqProofs [h1,hw1,e]
 have e:AmJ ⟨ver,stg,pos,false⟩=(⟨ver,stg,pos+1,false⟩,true):=by unfold AmJ AHs;rw[if_pos (by simp[h1,h3])]
 simp -implicitDefEqProofs [h1,hw1,h3,hwp,e]
def AIq (r:EP):Bool:=Br r&& !r.off
def ArC (r:EP):EP×Bool:=if AIq r=true then(⟨r.version,r.stages,0,true⟩,true)else(r,false)
abbrev AHO (R:Rel):Prop:=∀r:EP,G8 r≤4194304→R [arg (Iq r)] [] (.tup [.agg (Iq (ArC r).1),B (ArC r).2]) []
theorem ALF (D:Dn) (hC:Tt (D ArP)) (hR:Iw (D Ac6)):AHO (Body D AG2):=by
 intro r h
 have hl:r.stages.length≤4194304:=h
 simp -implicitDefEqProofs
 refine Aa (hC r h) ?_
 simp -implicitDefEqProofs
 refine Aa (hR r hl) ?_
 by_cases h1:Br r=true
 rotate_left
 ·have e:ArC r=(r,false):=by unfold ArC AIq;rw[if_neg (by simp[h1])]
  simp -implicitDefEqProofs [h1,e]
 by_cases h2:r.off=true
 ·have e:ArC r=(r,false):=by unfold ArC AIq;rw[if_neg (by simp[h2])]
  simp -implicitDefEqProofs [h1,h2,e]
 have e:ArC r=(⟨r.version,r.stages,0,true⟩,true):=by unfold ArC AIq;rw[if_pos (by simp[h1,h2])]
 simp -implicitDefEqProofs [h1,h2,e]
def AIX (l:List Int) (v:Int):Bool:=Ar l&&(decide (InV v 1 9)&& !decide (v∈l))
def AHn (l:List Int) (v:Int):List Int×Bool:=if AIX l v=true then(Gb l v,true)else(l,false)
abbrev AHo (R:Rel):Prop:=∀(l:List Int) (v:Int),l.length≤4194304→R [.sl 1 1 l.length (ints l),I v] [] (.tup [.sl 0 1 (AHn l v).1.length (ints (AHn l v).1),B (AHn l v).2]) []
theorem up9:∀ {l:List Int} {a:Int},Up l→(∀x,x∈l→a<x∧x≤9)→(l.length:Int)≤9-a∨l=[]
 | [],_,_,_=> .inr rfl
 | x::r,a,h,hb=>by
  rw[Up,List.pairwise_cons]at h
  have h0:=hb x (by simp)
  have:=up9 (l:=r) (a:=x) h.2 (fun y hy=>⟨h.1 y hy,(hb y (by simp[hy])).2⟩)
  left
  rcases this with h1 | rfl
  ·simp only[List.length_cons];omega
  ·simp;omega
theorem Awj {l:List Int} (h:Ar l=true):l.length≤9:=by
 have:=up9 (l:=l) (a:=0) (MH h) (fun x hx=>by have:=MX h x hx;exact⟨by omega,by omega⟩)
 rcases this with h1 | rfl
 ·omega
 ·simp
theorem APp {l:List Int} (h:Up l):l.Pairwise (·≤·):=List.Pairwise.imp (fun h=>by omega) h
theorem APf:∀ {a b:List Int},a.Pairwise (·≤·)→b.Pairwise (·≤·)→a.Perm b→a=b:=fun ha hb h=>List.Perm.eq_of_pairwise (le:=fun x y:Int=>x≤y) (fun a b _ _ h1 h2=>by omega) ha hb h
theorem AOL {l:List Int} {v:Int} (h:Ar l=true) (hv:¬v∈l):AIF (l++ [v])=Gb l v:=by
 have hup:Up l:=MH h
 refine APf (AMQ _) (APp (YS v hup)) ?_
 refine(List.mergeSort_perm _ _).trans ?_
 unfold Gb
 rw[if_neg (fun e=>hv (List.mem_of_getElem? e))]
 unfold Aqk
 have e:l=l.take (Gf l v)++l.drop (Gf l v):=(List.take_append_drop _ _).symm
 conv=>lhs;rw[e]
 rw[List.append_assoc]
 exact List.Perm.append_left _ (List.perm_append_comm (l₁:=l.drop (Gf l v)) (l₂:=[v]))
theorem ALh (D:Dn) (hA:BG (D FP)) (hI:Tg (D Bz)) (hH:Qw (D Be)) (hS:ANy (D AjT)):AHo (Body D AGx):=by
 intro l v hl
 have hl8:l.length*8≤1099511627776:=by omega
 have hl9:(l.length+1)*8≤1099511627776:=by omega
 simp -implicitDefEqProofs [hl8]
 refine Aa (hA l (by unfold maxLen;omega)) ?_
 by_cases h1:Ar l=true
 rotate_left
 ·have e:AHn l v=(l,false):=by unfold AHn AIX;rw[if_neg (by simp[h1])]
  simp -implicitDefEqProofs [h1,e,hl8]
 simp -implicitDefEqProofs [h1]
 refine Aa (hI _ _ _) ?_
 by_cases h2:InV v 1 9
 rotate_left
 ·have e:AHn l v=(l,false):=by unfold AHn AIX;rw[if_neg (by simp[h2])]
  simp -implicitDefEqProofs [h2,e,hl8]
 simp -implicitDefEqProofs [h2]
 refine Aa (hH l v (by unfold maxLen;omega)) ?_
 by_cases h3:v∈l
 ·have e:AHn l v=(l,false):=by unfold AHn AIX;rw[if_neg (by simp[h3])]
  simp -implicitDefEqProofs [h3,e,hl8]
 have e:AHn l v=(Gb l v,true):=by unfold AHn AIX;rw[if_pos (by simp[h1,h2,h3])]
 have hs:=AOL h1 h3
 have hsl:=AIk (l++ [v])
 rw[List.length_append]at hsl
 have hpl:(Gb l v).length=l.length+1:=by rw[←hs,hsl];rfl
 simp -implicitDefEqProofs [h3,hl9]
 have hss:=hS (l++ [v]) (by have:=Awj h1;simp;omega)
 simp -implicitDefEqProofs [hs]at hss
 refine Aa (hss) ?_
 simp -implicitDefEqProofs [hpl,e]
def AFR (w:World) (v:Int):World×Bool:=({w with server:=(AHn w.server v).1},(AHn w.server v).2)
abbrev AHp (R:Rel):Prop:=∀(w:World) (v:Int),Bo w≤4194304→R [arg (FH w),I v] [] (.tup [.agg (FH (AFR w v).1),B (AFR w v).2]) []
theorem ALo (D:Dn) (hC:Y8 (D AvV)) (hA:AHo (D AuT)):AHp (Body D AGF):=by
 intro w v hsz
 simp -implicitDefEqProofs
 refine Aa (hC w hsz) ?_
 simp -implicitDefEqProofs
 refine Aa (hA w.server v (Ma hsz).1) ?_
 have e:AFR w v=({w with server:=(AHn w.server v).1},(AHn w.server v).2):=rfl
 rw[e]
 generalize AHn w.server v=r
 simp -implicitDefEqProofs
theorem AOE (l:List Int) (v:Int):(AHn l v).1.length≤l.length+1:=by
 unfold AHn
 split
 ·exact U5 l v
 ·dsimp only;omega
theorem ALb (w:World) (v:Int):Bo (AFR w v).1≤Bo w+1:=by
 have:=AOE w.server v
 simp only[AFR,Bo]
 omega
end Go.Eng.T
namespace Go.Eng.T
set_option maxRecDepth 20000
set_option maxHeartbeats 1000000
theorem Ayn {D:Dn} {c:Cf} {a:SC} {Q:Out→St→Prop} {s:St} (h:swp D c a (fun o s'=>match o with | .normal=>False | o=>Q o s') s):swp D c (.loop a) Q s:=⟨1,h⟩
def inB (t:Int):Bool:=decide (Ov t 0 255)
def Acs (b:List Int) (t:Int):Bool:= !decide (t∈b)&&inB t
def Ud (h x:Hello):List Int:=leftOf h.versions x.versions++((Ao h.exts).filter (Acs (Ao x.exts))).map (fun t=>1000+t)
theorem Atm (a b:List Int):(leftOf a b).filter inB=a.filter (Acs b):=by
 unfold leftOf
 rw[List.filter_filter]
 congr 1
 funext t
 unfold Acs
 cases inB t<;>cases decide (t∈b)<;>rfl
abbrev M8 (R:Rel):Prop:=∀h x:Hello,hB h→hB x→R [arg (Ce h),arg (Ce x)] [] (.sl 0 1 (Ud h x).length (ints (Ud h x))) []
theorem AkI {p:Int→Bool} {a l:List Int} {j:Nat} (h:j<l.length):
 a++((l.take (j+1)).filter p).map (fun t=>1000+t)=(a++((l.take j).filter p).map (fun t=>1000+t))++(if p l[j]then [1000+l[j]]else []):=by
 rw[Kt h,List.map_append,List.append_assoc]
 split<;>simp
theorem Am6 {p:Int→Bool} {a l:List Int} {j:Nat}:(a++((l.take j).filter p).map (fun t=>1000+t)).length≤a.length+j:=by
 have:=Nb (p:=p) (xs:=l) (j:=j)
 simp only[List.length_append,List.length_map];omega
theorem AqV (D:Dn) (hL:QD (D Jr)) (hT:JH (D OA)) (hI:Tg (D Bz)):M8 (Body D Rm):=by
 intro h x hh hx
 have hxl:=hx.2.1
 have hhl:=hh.2.1
 have hvl:=hh.1
 simp -implicitDefEqProofs
 refine Aa (hL h.versions x.versions hh.1 hx.1) ?_
 have hal:=Ib h.versions x.versions
 have e:Ud h x=leftOf h.versions x.versions++((Ao h.exts).filter (Acs (Ao x.exts))).map (fun t=>1000+t):=rfl
 rw[e,←Atm]
 generalize leftOf h.versions x.versions=a at hal
 simp -implicitDefEqProofs
 refine Aa (hT h.exts hh.2.1) ?_
 simp -implicitDefEqProofs
 refine Aa (hT x.exts hx.2.1) ?_
 simp -implicitDefEqProofs
 refine Aa (hL (Ao h.exts) (Ao x.exts) (by rw[Jw];omega) (by rw[Jw];omega)) ?_
 have hll:=Ib (Ao h.exts) (Ao x.exts)
 rw[Jw]at hll
 generalize leftOf (Ao h.exts) (Ao x.exts)=l at hll
 generalize hpd:inB=p
 simp -implicitDefEqProofs
 refine Ae (fun k s=>∃j v6 o6 o7,j+k=l.length∧s=⟨[.undef,.undef,.undef,.undef,.undef,.arr 8,v6,.arr 5,I l.length,I j,.undef,.undef],[.var ((Ce h).map (AX 1)),.var ((Ce x).map (AX 1)),.free,.arr 1 0 (Ao h.exts).length (ints (Ao h.exts)),.arr 1 0 (Ao x.exts).length (ints (Ao x.exts)),.arr 1 0 l.length (ints l),o6,o7,.arr 1 0 (a++((l.take j).filter p).map (fun t=>1000+t)).length (ints (a++((l.take j).filter p).map (fun t=>1000+t)))]⟩) ?_ (l.length) _ ⟨0,.undef,.free,.free,by simp,by simp⟩
 intro k s ⟨j,v6,o6,o7,hj,hs⟩
 subst hs
 by_cases hjn:j<l.length
 ·have hw:IntKind.i64.wrap ((j:Int)+1)=(j+1:Nat):=by rw[Ac (by omega) (by omega)];simp
  have hst:=AkI (p:=p) (a:=a) hjn
  have hfl:=Am6 (p:=p) (a:=a) (l:=l) (j:=j)
  have hb1:((a++((l.take j).filter p).map (fun t=>1000+t)).length+1)*8≤1099511627776:=by omega
  have hpt:p l[j]=inB l[j]:=by rw[hpd]
  generalize a++((l.take j).filter p).map (fun t=>1000+t)=r at hst hfl hb1
  simp -implicitDefEqProofs [hjn]
  refine Aa (hI _ _ _) ?_
  by_cases h2:Ov l[j] 0 255
  ·have h3:p l[j]=true:=by rw[hpt];simp[inB,h2]
   rw[if_pos h3]at hst
   have hw2:IntKind.i64.wrap (1000+l[j])=1000+l[j]:=Ac (by have:=h2.1;omega) (by have:=h2.2;omega)
   simp -implicitDefEqProofs [h2,hjn,hb1,hw2]
   have hsl:=congrArg List.length hst
   simp only[List.length_append,List.length_map,List.length_cons,List.length_nil]at hsl
   exact⟨k-1,by omega,j+1,by omega,by simp[hw],by omega,by rw[hst]⟩
  ·have h3:¬p l[j]=true:=by rw[hpt];simp[inB,h2]
   rw[if_neg h3,List.append_nil]at hst
   simp -implicitDefEqProofs [h2]
   have hsl:=congrArg List.length hst
   simp only[List.length_append,List.length_map]at hsl
   exact⟨k-1,by omega,j+1,by omega,by simp[hw],by omega,by rw[hst]⟩
 ·have e2:=K5 (p:=p) (xs:=l) (j:=j) (by omega)
  simp -implicitDefEqProofs [hjn,e2]
def D8:Arb:=⟨false,0,[]⟩
def TR (h seen:Hello) (vs tags:List Int) (key:Int):Arb:=
 if(AU vs tags seen).2&&(Cy h (AU vs tags seen).1&&(!decide (BS key [AJ h,Au (AU vs tags seen).1] 1=0)&&
  decide (BS key [AJ h,Au (AU vs tags seen).1] 1=BS key [AJ seen,Au (AU vs tags seen).1] 1)))
 then⟨true,(AU vs tags seen).1.version,Ao (AU vs tags seen).1.exts⟩else D8
theorem Aoz (h:Hello):(AJ h).length≤47:=by
 unfold AJ
 have:=Km h.exts
 split
 ·rename_i hc
  have:=Awj (SX hc)
  simp only[List.length_append,List.length_cons];omega
 ·simp
theorem AlX (h:Hello) (a:O7):GH [AJ h,Au a]≤4194304:=by
 have h1:=Aoz h
 have h2:=Adk a
 simp[GH,Er]
 omega
theorem AfJ {vs tags:List Int} {h:Hello} (hh:hB h):Q8 (AU vs tags h).1.exts:=by
 unfold AU
 split
 ·exact Tc (Tc hh.2 (fun t=>decide (t∈tags))) (fun t=> !Aq t)
 ·exact Z4
def Ns (h:Hello) (path:List EK) (vs tags:List Int) (key:Int):Arb:=if(AZ path h).2=true then TR h (AZ path h).1 vs tags key else D8
abbrev Kj (R:Rel):Prop:=∀(h:Hello) (path:List EK) (vs tags:List Int) (key:Int),hB h→lnS Kr path→vs.length≤4194304→tags.length≤4194304→
 R [arg (Ce h),.sl 1 4 path.length (path.flatMap Cz),.sl 1 1 vs.length (ints vs),.sl 1 1 tags.length (ints tags),I key] [] (.agg (An8 (Ns h path vs tags key))) []
abbrev AlE (R:Rel):Prop:=∀(h seen:Hello) (vs tags:List Int) (key:Int),hB h→hB seen→vs.length≤4194304→tags.length≤4194304→
 R [arg (Ce h),arg (Ce seen),.sl 1 1 vs.length (ints vs),.sl 1 1 tags.length (ints tags),I key,.sl 1 2 0 []] [] (.agg (An8 (TR h seen vs tags key))) []
theorem AA5 (D:Dn) (hC:QH (D XQ)) (hFi:IE (D AdK)) (hHB:Gt (D Ab6)) (hAB:FR (D AaC))
 (hF:OE (D UU)) (hK:Uc (D AcN)) (hT:JH (D OA)):AlE (Body D TM):=by
 intro h seen vs tags key hh hr hv ht
 simp -implicitDefEqProofs
 refine Aa (hC vs tags seen hv ht hr) ?_
 have ha:=AfJ (vs:=vs) (tags:=tags) hr
 unfold TR
 generalize AU vs tags seen=q at ha
 obtain⟨a,fine⟩:=q
 dsimp only at ha⊢
 have e:(!decide (BS key [AJ h,Au a] 1=0)&&decide (BS key [AJ h,Au a] 1=BS key [AJ seen,Au a] 1))=
  OZ key [AJ h,Au a] 1 (BS key [AJ seen,Au a] 1):=by
  unfold OZ
  by_cases e1:BS key [AJ h,Au a] 1=BS key [AJ seen,Au a] 1
  ·rw[e1]
  ·have e2:¬BS key [AJ seen,Au a] 1=BS key [AJ h,Au a] 1:=fun h=>e1 h.symm
   simp[e1,e2]
 rw[e]
 by_cases g2:fine=true
 rotate_left
 ·simp -implicitDefEqProofs [g2,D8]
 simp -implicitDefEqProofs [g2]
 refine Ayn ?_
 simp -implicitDefEqProofs
 refine Aa (hHB seen hr) ?_
 simp -implicitDefEqProofs
 refine Aa (hAB a ha) ?_
 simp -implicitDefEqProofs
 have hf2:=hF key [AJ seen,Au a] 1 (AlX seen a)
 simp -implicitDefEqProofs [I8,I9]at hf2
 refine Aa (hf2) ?_
 generalize BS key [AJ seen,Au a] 1=m2
 simp -implicitDefEqProofs
 refine Aa (hFi h a hh ha) ?_
 by_cases g3:Cy h a=true
 rotate_left
 ·simp -implicitDefEqProofs [g3,D8]
 simp -implicitDefEqProofs [g3]
 refine Aa (hHB h hh) ?_
 simp -implicitDefEqProofs
 refine Aa (hAB a ha) ?_
 simp -implicitDefEqProofs
 have hk:=hK key [AJ h,Au a] 1 m2 (AlX h a)
 simp -implicitDefEqProofs [I8,I9]at hk
 refine Aa (hk) ?_
 generalize OZ key [AJ h,Au a] 1 m2=c
 by_cases g5:c=true
 rotate_left
 ·simp -implicitDefEqProofs [g5,D8]
 simp -implicitDefEqProofs [g5]
 refine Aa (hT a.exts ha.1) ?_
 simp -implicitDefEqProofs
theorem AoX (D:Dn) (hP:EN (D KE)) (hD:AlE (D AnM)):Kj (Body D Pg):=by
 intro h path vs tags key hh hb hv ht
 simp -implicitDefEqProofs
 refine Aa (hP path h hb hh) ?_
 have hr:=Np (path:=path) hh
 unfold Ns
 generalize AZ path h=r at hr
 by_cases g1:r.2=true
 rotate_left
 ·simp -implicitDefEqProofs [g1,D8]
 simp -implicitDefEqProofs [g1]
 refine Aa (hD h r.1 vs tags key hh hr hv ht) ?_
 simp -implicitDefEqProofs
def AdV (h:Hello) (path:List EK) (vs tags:List Int) (key:Int):CV:=
 if(BI h path).2.2=true then⟨Ns (BI h path).1 path vs tags key,(BI h path).2.1,Ud h (BI h path).1⟩else⟨D8,(BI h path).2.1,[]⟩
abbrev AcC (R:Rel):Prop:=∀(h:Hello) (path:List EK) (vs tags:List Int) (key:Int),hB h→lnS Kr path→vs.length≤4194304→tags.length≤4194304→
 R [arg (Ce h),.sl 1 4 path.length (path.flatMap Cz),.sl 1 1 vs.length (ints vs),.sl 1 1 tags.length (ints tags),I key] [] (.agg (A7 (AdV h path vs tags key))) []
theorem Az7 (D:Dn) (hH:Kn (D AhF)) (hO:Kj (D Aff)) (hG:M8 (D Ajn)):AcC (Body D XJ):=by
 intro h path vs tags key hh hb hv ht
 simp -implicitDefEqProofs
 refine Aa (hH h path hh hb) ?_
 have hr:=Ase (path:=path) hh
 unfold AdV
 generalize BI h path=r at hr
 obtain⟨x,n,ok⟩:=r
 dsimp only at hr⊢
 by_cases g1:ok=true
 rotate_left
 ·simp -implicitDefEqProofs [g1,D8]
 simp -implicitDefEqProofs [g1]
 refine Aa (hO x path vs tags key hr hb hv ht) ?_
 simp -implicitDefEqProofs
 refine Aa (hG h x hh hr) ?_
 simp -implicitDefEqProofs [g1]
end Go.Eng.T
namespace Go.Eng.T
set_option maxRecDepth 20000
set_option maxHeartbeats 1000000
def QI (seed:Int):List Int:=List.replicate (pick seed 2 3).toNat (pick seed 3 256)
def WE (l:List Ext) (seed:Int):Nat:=(pick seed 1 (l.length+1)).toNat
def BQ (l:List Ext) (seed:Int):List Ext:=
 if BX l&&(decide (l.length<6)&& !decide (DU seed∈Ao l))then l.take (WE l seed)++⟨DU seed,QI seed⟩::l.drop (WE l seed)else l
theorem AsL (l:List Ext) (seed:Int) (h:l.length≤6):WE l seed≤l.length:=by
 have:=Lb seed 1 (n:=l.length+1) ⟨by omega,by omega⟩
 unfold WE;omega
theorem AfG (seed:Int):(QI seed).length≤2:=by
 have:=Lb seed 2 (n:=3) ⟨by omega,by omega⟩
 unfold QI;simp;omega
abbrev IG (R:Rel):Prop:=∀(l:List Ext) (seed:Int),Q8 l→R [.sl 1 2 l.length (l.flatMap Bl),I seed] [] (.sl 0 2 (BQ l seed).length ((BQ l seed).flatMap Bl)) []
theorem Apx {l:List Ext} (hl:Q8 l) (h6:l.length≤4194303) (seed:Int):Q8 (BQ l seed):=by
 unfold BQ
 split
 ·refine⟨?_,?_⟩
  ·simp;omega
  ·intro x hx
   rcases List.mem_append.1 hx with h | h
   ·exact hl.2 x (List.mem_of_mem_take h)
   ·rcases List.mem_cons.1 h with h | h
    ·subst h;have:=AfG seed;dsimp only;omega
    ·exact hl.2 x (List.mem_of_mem_drop h)
 ·exact hl
def bare (ts:List Int):List Ext:=ts.map fun t=>⟨t,[]⟩
theorem F7 (ts:List Int):(bare ts).length=ts.length:=by simp[bare]
theorem AgD {ts:List Int} (h:ts.length≤4194304):Q8 (bare ts):=⟨by rw[F7];exact h,fun x hx=>by
 obtain⟨t,_,rfl⟩:=List.mem_map.1 hx;simp⟩
theorem Akl {ts:List Int} {j:Nat} (h:j<ts.length):(bare (ts.take j)).flatMap Bl++ [.sc (.int .i64 ts[j]),.sl 0 1 0 []]=(bare (ts.take (j+1))).flatMap Bl:=by
 have e:ts.take (j+1)=ts.take j++ [ts[j]]:=by simp
 rw[e]
 unfold bare
 rw[List.map_append,List.flatMap_append]
 rfl
def Dt (e:Ai) (seed:Int):Hello:=if Aj e=true then⟨e.versions,BQ (bare e.tags) seed⟩else Ay
abbrev Nh (R:Rel):Prop:=∀(e:Ai) (seed:Int),Af e≤4194304→R [arg (Ap e),I seed] [] (.agg (Ce (Dt e seed))) []
theorem Qj {e:Ai} (h:Aj e=true):e.tags.length≤5:=by
 unfold Aj at h
 simp only[Bool.and_eq_true,decide_eq_true_eq]at h
 exact h.2.1
theorem Afq {e:Ai} (hsz:Af e≤4194304) (seed:Int):hB (Dt e seed):=by
 unfold Dt
 split
 ·rename_i h
  have:=Qj h
  exact⟨OY hsz,Apx (AgD (by omega)) (by rw[F7];omega) seed⟩
 ·exact Afz
theorem Aqj (D:Dn) (hE:DV (D Mg)) (hG:IG (D Adv)):Nh (Body D Rh):=by
 intro e seed hsz
 have hl:=Tj hsz
 have hv:=OY hsz
 simp -implicitDefEqProofs
 refine Aa (hE e hl) ?_
 by_cases h1:Aj e=true
 rotate_left
 ·simp -implicitDefEqProofs [h1,Dt,Ay]
 have h5:=Qj h1
 have he:Dt e seed=⟨e.versions,BQ (bare e.tags) seed⟩:=by unfold Dt;rw[if_pos h1]
 rw[he]
 have hb2:e.versions.length*8≤1099511627776:=by omega
 simp -implicitDefEqProofs [h1]
 refine Ae (fun k s=>∃j o3 o4,j+k=e.tags.length∧s=⟨[.undef,I seed,.ptr 0 0,.ptr 1 0,.arr 8,.undef,.undef,.sl 1 1 e.tags.length (ints e.tags),I e.tags.length,I j,.undef],[.var ((Ap e).map (AX 1)),.var [.nil 1,.nil 2],.free,o3,o4,.free,.free,.free,.arr 2 0 j ((bare (e.tags.take j)).flatMap Bl)]⟩) ?_ (e.tags.length) _ ⟨0,.free,.free,by simp,by simp[bare]⟩
 intro k s ⟨j,o3,o4,hj,hs⟩
 subst hs
 by_cases hjn:j<e.tags.length
 ·have hw:IntKind.i64.wrap ((j:Int)+1)=(j+1:Nat):=by rw[Ac (by omega) (by omega)];simp
  have hst:=Akl hjn
  have hb1:(j+1)*32≤1099511627776:=by omega
  have hlen:(bare (e.tags.take j)).length=j:=by rw[F7];simp;omega
  have hlen2:(bare (e.tags.take (j+1))).length=j+1:=by rw[F7];simp;omega
  simp -implicitDefEqProofs [hjn,hb1]
  exact⟨k-1,by omega,j+1,by omega,by simp[hw],by rw[←hst];exact⟨rfl,rfl⟩⟩
 have e2:e.tags.take j=e.tags:=List.take_of_length_le (by omega)
 obtain rfl:j=e.tags.length:=by omega
 simp -implicitDefEqProofs [hjn,e2,hb2]
 have hq:=hG (bare e.tags) seed (AgD (by omega))
 rw[F7]at hq
 refine Aa (hq) ?_
 simp -implicitDefEqProofs
def Iy:CV:=⟨D8,0,[]⟩
def GA (e:Ai) (vs tags:List Int) (key seed:Int):CV:=if Aj e=true then AdV (Dt e seed) e.path vs tags key else Iy
abbrev Nn (R:Rel):Prop:=∀(e:Ai) (vs tags:List Int) (key seed:Int),Af e≤4194304→vs.length≤4194304→tags.length≤4194304→
 R [arg (Ap e),.sl 1 1 vs.length (ints vs),.sl 1 1 tags.length (ints tags),I key,I seed] [] (.agg (A7 (GA e vs tags key seed))) []
theorem ApZ (D:Dn) (hE:DV (D Mg)) (hH:Nh (D Ajv)) (hD:AcC (D Ap8)):Nn (Body D Rx):=by
 intro e vs tags key seed hsz hv ht
 have hl:=Tj hsz
 simp -implicitDefEqProofs
 refine Aa (hE e hl) ?_
 by_cases h1:Aj e=true
 rotate_left
 ·simp -implicitDefEqProofs [h1,GA,Iy,D8]
 simp -implicitDefEqProofs [h1]
 refine Aa (hH e seed hsz) ?_
 have hh:=Afq hsz seed
 have he:GA e vs tags key seed=AdV (Dt e seed) e.path vs tags key:=by unfold GA;rw[if_pos h1]
 rw[he]
 generalize Dt e seed=h at hh
 simp -implicitDefEqProofs
 refine Aa (hD h e.path vs tags key hh hl.2.2 hv ht) ?_
 simp -implicitDefEqProofs
def clip (n:Int):Int:=max (-100000) (min 100000 n)
def Hl (w:World) (i:Int):CV:=if Qt i 0 ((w.ends.length:Int)-1)then(match w.ends[i.toNat]? with | some e=>GA e w.server w.tags w.key (16*clip w.now+i) | none=>Iy)else Iy
abbrev QE (R:Rel):Prop:=∀(w:World) (i:Int),Bo w≤4194304→R [arg (FH w),I i] [] (.agg (A7 (Hl w i))) []
theorem ArO (n:Int):-100000≤clip n∧clip n≤100000:=by unfold clip;omega
theorem Auc (D:Dn) (hI:TW (D OQ)) (hB:Nn (D Ai0)):QE (Body D Uk):=by
 intro w i hsz
 have he:=FU hsz
 simp -implicitDefEqProofs
 refine Aa (hI w i he) ?_
 by_cases h1:Qt i 0 ((w.ends.length:Int)-1)
 rotate_left
 ·simp -implicitDefEqProofs [h1,Hl,Iy,D8]
 obtain⟨n,rfl⟩:∃n:Nat,i=n:=⟨i.toNat,by have:=h1.1;omega⟩
 have hn:n<w.ends.length:=by have:=h1.2;omega
 have hb:=Ma hsz
 have hes:=O1 hsz hn
 have e:Hl w n=GA w.ends[n] w.server w.tags w.key (16*clip w.now+n):=by unfold Hl;rw[if_pos h1];simp[hn]
 rw[e]
 simp -implicitDefEqProofs [h1,hn]
 have hc:(if(if 100000<w.now then 100000 else w.now)< -100000 then -100000 else if 100000<w.now then 100000 else w.now)=clip w.now:=by
  unfold clip
  split<;>split<;>omega
 rw[hc]
 have hcl:=ArO w.now
 generalize clip w.now=c at hcl
 have hw1:IntKind.i64.wrap (16*c)=16*c:=Ac (by omega) (by omega)
 have hw2:IntKind.i64.wrap (16*c+n)=16*c+n:=Ac (by omega) (by omega)
 rw[hw1,hw2]
 refine Aa (hB w.ends[n] w.server w.tags w.key _ hes hb.1 hb.2.1) ?_
 simp -implicitDefEqProofs
end Go.Eng.T
