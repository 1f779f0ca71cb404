/- Own work: part 16 of the proof of FnConsole. -/
import Derived.Test.YtogmkdgkgfhhoaaGreatDoorCP12
import Derived.Test.YtogmkdgkgfhhoaaGreatDoorCP13
import Derived.Test.YtogmkdgkgfhhoaaGreatDoorCP14
import Derived.Test.YtogmkdgkgfhhoaaGreatDoorCP15
import Derived.Lib.SlicesCompact
set_option linter.unusedSimpArgs false
set_option linter.unusedVariables false
namespace Go.Eng.T
set_option maxRecDepth 20000
set_option maxHeartbeats 1000000
def UB {α:Type} (f:α->α) (xs:List α) (j:Nat):List α:=(xs.take j).map f++xs.drop j
section
variable {α:Type} {f:α->α} {xs:List α} {j:Nat}
theorem AkF:UB f xs 0=xs:=by simp[UB]
theorem AmF (h:xs.length<=j):UB f xs j=xs.map f:=by simp[UB,List.take_of_length_le h,List.drop_eq_nil_of_le h]
@[simp] theorem Al6 (h:j<=xs.length):(UB f xs j).length=xs.length:=by simp[UB];omega
theorem AgH (h:j<xs.length):(UB f xs j)[j]'(by rw[Al6 (by omega)];exact h)=xs[j]:=by
 unfold UB
 have hl:((xs.take j).map f).length=j:=by simp;omega
 have hm:min j xs.length=j:=by omega
 rw[List.getElem_append_right (by omega)]
 simp[hm]
theorem AgD (h:j<xs.length):(UB f xs j).set j (f xs[j])=UB f xs (j+1):=by
 unfold UB
 have hl:((xs.take j).map f).length=j:=by simp;omega
 have ht:xs.take (j+1)=xs.take j++ [xs[j]]:=by simp
 rw[List.set_append_right _ _ (by omega),hl,Nat.sub_self,ht,List.map_append,List.drop_eq_getElem_cons h,List.set_cons_zero,List.append_assoc]
 rfl
theorem Alv (h:j<xs.length) (hf:f xs[j]=xs[j]):UB f xs (j+1)=UB f xs j:=by
 rw[<-AgD h,hf]
 have:=AgH (f:=f) h
 conv=>lhs;rw[<-this]
 simp
end
def Ev (w:World) (e:Ai):Ai:=if 0<AJ w.server (Co e.versions w.rollout.version)then⟨Co e.versions w.rollout.version,e.tags,e.path,e.cls⟩else e
def leave (w:World):World:={w with ends:=w.ends.map (Ev w),stage:=[]}
variable (R:Rel)
abbrev JG:Prop:=∀w:World,Af w<=4194304->R [arg (Bu w)] [] (.agg (Bu (leave w))) []
theorem ApX (a:List Int) (v:Int):(Co a v).length<=a.length:=List.length_filter_le _ _
theorem AgL {w:World} (h:Af w<=4194304) {j:Nat} (hj:j<w.ends.length):w.ends[j].versions.length<=4194304:=by
 have:=size_at (f:=Am) hj
 have e:Am w.ends[j]=w.ends[j].versions.length+w.ends[j].tags.length+Cr Gm w.ends[j].path:=rfl
 unfold Af at h
 omega
theorem Ail {w:World} (h:Af w<=4194304):w.server.length<=4194304:=by unfold Af at h;omega
variable (D:Dn)
theorem YG (hC:EF (D 22)) (hW:Ic (D 167)) (hB:FQ (D 168)):JG (Body D Ia):=by
 intro w h
 have hl:=FE h
 simp -implicitDefEqProofs
 refine Aa (hC w h) ?_
 simp -implicitDefEqProofs
 refine Ag (fun k s=>∃j v5 o9,j+k=w.ends.length/\s=⟨[.undef,.ptr 0 0,.ptr 1 0,.ptr 8 0,.sc (.int .i64 j),v5,.undef,.undef],[.var ((Bu w).map (AO 1)),.var [.nil 1,.nil 1,.sc (.int .i64 0),.nil 4,.sc (.int .i64 0),.nil 1,.sc (.int .i64 0),.sc (.bool false),.sc (.int .i64 0),.sc (.int .i64 0),.nil 5,.nil 8,.sc (.int .i64 0),.sc (.int .i64 0),.sc (.int .i64 0)],.arr 1 0 w.server.length (ints w.server),.arr 1 0 w.tags.length (ints w.tags),.arr 4 0 w.ends.length ((UB (Ev w) w.ends j).flatMap Ah),.arr 1 0 w.rollout.stages.length (ints w.rollout.stages),.arr 5 0 w.stage.length (w.stage.flatMap AB),.arr 8 0 w.log.length (w.log.flatMap Az),.var [.arr 2,.arr 3,.sc (.int .i64 w.key),.arr 4,.sc (.int .i64 w.rollout.version),.arr 5,.sc (.int .i64 w.rollout.pos),.sc (.bool w.rollout.off),.sc (.int .i64 w.least),.sc (.int .i64 w.percent),.arr 6,.arr 7,.sc (.int .i64 w.now),.sc (.int .i64 w.hurt),.sc (.int .i64 w.reached)],o9,.free]⟩) ?_ w.ends.length _ ⟨0,by simp[AkF]⟩
 intro k s ⟨j,v5,o9,hj,hs⟩
 subst hs
 by_cases hjn:j<w.ends.length
 ·have hw:=Cv (j:=j) (by omega)
  have hjl:j<=w.ends.length:=by omega
  have hset:=AgD (f:=Ev w) hjn
  have hg:=AgH (f:=Ev w) hjn
  have hvl:=AgL h hjn
  have hwl:=ApX w.ends[j].versions w.rollout.version
  have hf:j*4<w.ends.length*4:=by omega
  simp -implicitDefEqProofs [hjn,hjl,hg]
  refine Aa (hW w.ends[j].versions _ hvl) ?_
  simp -implicitDefEqProofs
  refine Aa (hB w.server _ (Ail h) (by omega)) ?_
  by_cases h1:0<AJ w.server (Co w.ends[j].versions w.rollout.version)
  ·have e:Ev w w.ends[j]=⟨Co w.ends[j].versions w.rollout.version,w.ends[j].tags,w.ends[j].path,w.ends[j].cls⟩:=by unfold Ev;rw[if_pos h1]
   rw[e]at hset
   simp -implicitDefEqProofs [h1,hjn,hjl,hg,hf]
   exact⟨k-1,by omega,j+1,by omega,by simp[hw],by rw[<-hset]⟩
  ·have e:Ev w w.ends[j]=w.ends[j]:=by unfold Ev;rw[if_neg h1]
   have hsame:=Alv hjn e
   simp -implicitDefEqProofs [h1]
   exact⟨k-1,by omega,j+1,by omega,by simp[hw],by rw[hsame]⟩
 ·have hx:=AmF (f:=Ev w) (xs:=w.ends) (j:=j) (by omega)
  simp -implicitDefEqProofs [hjn,hx,leave]
theorem ACu (hC:EF (D 38)) (hW:Aw5 (D 189)) (hB:FQ (D 190)):JG (Body D At5):=by
 intro w h
 have hl:=FE h
 simp -implicitDefEqProofs
 refine Aa (hC w h) ?_
 simp -implicitDefEqProofs
 refine Ag (fun k s=>∃j v5 v6 v7 o9 o10 o11,j+k=w.ends.length/\s=⟨[.undef,.ptr 0 0,.ptr 1 0,.ptr 8 0,.sc (.int .i64 w.rollout.version),v5,v6,v7,.arr 4,.sc (.int .i64 w.ends.length),.sc (.int .i64 j),.undef,.undef],[.var ((Bu w).map (AO 1)),.var [.nil 1,.nil 1,.sc (.int .i64 0),.nil 4,.sc (.int .i64 0),.nil 1,.sc (.int .i64 0),.sc (.bool false),.sc (.int .i64 0),.sc (.int .i64 0),.nil 5,.nil 8,.sc (.int .i64 0),.sc (.int .i64 0),.sc (.int .i64 0)],.arr 1 0 w.server.length (ints w.server),.arr 1 0 w.tags.length (ints w.tags),.arr 4 0 w.ends.length ((UB (Ev w) w.ends j).flatMap Ah),.arr 1 0 w.rollout.stages.length (ints w.rollout.stages),.arr 5 0 w.stage.length (w.stage.flatMap AB),.arr 8 0 w.log.length (w.log.flatMap Az),.var [.arr 2,.arr 3,.sc (.int .i64 w.key),.arr 4,.sc (.int .i64 w.rollout.version),.arr 5,.sc (.int .i64 w.rollout.pos),.sc (.bool w.rollout.off),.sc (.int .i64 w.least),.sc (.int .i64 w.percent),.arr 6,.arr 7,.sc (.int .i64 w.now),.sc (.int .i64 w.hurt),.sc (.int .i64 w.reached)],o9,o10,o11]⟩) ?_ w.ends.length _ ⟨0,by simp[AkF]⟩
 intro k s ⟨j,v5,v6,v7,o9,o10,o11,hj,hs⟩
 subst hs
 by_cases hjn:j<w.ends.length
 ·have hw:=Cv (j:=j) (by omega)
  have hjl:j<=w.ends.length:=by omega
  have hset:=AgD (f:=Ev w) hjn
  have hg:=AgH (f:=Ev w) hjn
  have hvl:=AgL h hjn
  have hwl:=ApX w.ends[j].versions w.rollout.version
  have hf:j*4<w.ends.length*4:=by omega
  simp -implicitDefEqProofs [hjn,hjl,hg]
  refine Aa (hW w.ends[j].versions _ hvl) ?_
  by_cases h0:(Co w.ends[j].versions w.rollout.version).length<w.ends[j].versions.length
  ·have h0':((Co w.ends[j].versions w.rollout.version).length:Int)<w.ends[j].versions.length:=by omega
   simp -implicitDefEqProofs [h0,h0']
   refine Aa (hB w.server _ (Ail h) (by omega)) ?_
   by_cases h1:0<AJ w.server (Co w.ends[j].versions w.rollout.version)
   ·have e:Ev w w.ends[j]=⟨Co w.ends[j].versions w.rollout.version,w.ends[j].tags,w.ends[j].path,w.ends[j].cls⟩:=by unfold Ev;rw[if_pos h1]
    rw[e]at hset
    simp -implicitDefEqProofs [h1,hjn,hjl,hg,hf]
    exact⟨k-1,by omega,j+1,by omega,by simp[hw],by rw[<-hset]⟩
   ·have e:Ev w w.ends[j]=w.ends[j]:=by unfold Ev;rw[if_neg h1]
    have hsame:=Alv hjn e
    simp -implicitDefEqProofs [h1]
    exact⟨k-1,by omega,j+1,by omega,by simp[hw],by rw[hsame]⟩
  ·have h0':¬((Co w.ends[j].versions w.rollout.version).length:Int)<w.ends[j].versions.length:=by omega
   have e:Ev w w.ends[j]=w.ends[j]:=by
    have hall:Co w.ends[j].versions w.rollout.version=w.ends[j].versions:=List.filter_eq_self.2 (by
     have:=List.length_filter_eq_length_iff (p:=fun x=> !decide (x=w.rollout.version)) (l:=w.ends[j].versions)
     exact this.1 (by unfold Co at h0 hwl;omega))
    unfold Ev
    rw[hall]
    split<;>rfl
   have hsame:=Alv hjn e
   simp -implicitDefEqProofs [h0,h0']
   exact⟨k-1,by omega,j+1,by omega,by simp[hw],by rw[hsame]⟩
 ·have hx:=AmF (f:=Ev w) (xs:=w.ends) (j:=j) (by omega)
  simp -implicitDefEqProofs [hjn,hx,leave]
set_option maxHeartbeats 2000000
def MN {α:Type} (f:Nat->α->α) (xs:List α) (j:Nat):List α:=xs.mapIdx fun i x=>if i<j then f i x else x
section
variable {α:Type} {f:Nat->α->α} {xs:List α} {j:Nat}
@[simp] theorem WN:(MN f xs j).length=xs.length:=by simp[MN]
theorem AiZ:MN f xs 0=xs:=by
 apply List.ext_getElem
 ·simp
 ·intro n h1 h2;simp[MN]
theorem Akv (h:xs.length<=j):MN f xs j=xs.mapIdx f:=by
 apply List.ext_getElem
 ·simp
 ·intro n h1 h2
  simp only[WN]at h1
  simp only[MN,List.getElem_mapIdx]
  rw[if_pos (by omega)]
theorem AdE (h:j<xs.length):(MN f xs j)[j]'(by rw[WN];exact h)=xs[j]:=by simp[MN]
theorem Adx (h:j<xs.length):(MN f xs j).set j (f j xs[j])=MN f xs (j+1):=by
 apply List.ext_getElem
 ·simp
 ·intro n h1 h2
  simp only[List.length_set,WN]at h1
  rw[List.getElem_set]
  simp only[MN,List.getElem_mapIdx]
  by_cases hn:j=n
  ·subst hn;simp
  ·rw[if_neg hn]
   by_cases hl:n<j
   ·rw[if_pos hl,if_pos (by omega)]
   ·rw[if_neg hl,if_neg (by omega)]
theorem Aii (h:j<xs.length) (hf:f j xs[j]=xs[j]):MN f xs (j+1)=MN f xs j:=by
 rw[<-Adx h,hf]
 have:=AdE (f:=f) h
 conv=>lhs;rw[<-this]
 simp
end
def Fv (w:World) (i:Nat) (e:Ai):Ai:=if isIn w.rollout i w.ends.length=true then⟨El e.versions w.rollout.version,e.tags,e.path,e.cls⟩else e
def Hg (w:World):Bool:=AP w.rollout&& !w.rollout.off
def enter (w:World):World:=if Hg w=true then {w with ends:=w.ends.mapIdx (Fv w),stage:=[],reached:=max w.reached (w.rollout.pos+1)}else w
abbrev J3:Prop:=∀w:World,Af w<=4194304->R [arg (Bu w)] [] (.agg (Bu (enter w))) []
abbrev Afz:Prop:=∀a b:Int,R [I a,I b] [] (I (max a b)) []
abbrev Ajq:Prop:=∀a b:Int,R [I a,I b] [] (I (min a b)) []
theorem ApW:Afz (Body D WM):=by
 intro a b
 by_cases h:a<b
 ·have e:max a b=b:=by omega
  simp -implicitDefEqProofs [h,e]
 ·have e:max a b=a:=by omega
  simp -implicitDefEqProofs [h,e]
theorem AqQ:Ajq (Body D Xi):=by
 intro a b
 by_cases h:a<b
 ·have e:min a b=a:=by omega
  simp -implicitDefEqProofs [h,e]
  intro;omega
 ·have e:min a b=b:=by omega
  simp -implicitDefEqProofs [h,e]
  intro;omega
theorem Acf (hC:EF (D 22)) (hR:FX (D 145)) (hI:Af6 (D 214)) (hP:Mf (D 159)) (hM:Afz (D 215)):J3 (Body D Jp):=by
 intro w h
 have hl:=FE h
 have hr:=OU h
 simp -implicitDefEqProofs
 refine Aa (hC w h) ?_
 simp -implicitDefEqProofs
 refine Aa (hR w.rollout hr) ?_
 by_cases h1:AP w.rollout=true
 rotate_left
 ·have e:enter w=w:=by unfold enter Hg;rw[if_neg (by simp[h1])]
  simp -implicitDefEqProofs [h1,e]
 by_cases h2:w.rollout.off=true
 ·have e:enter w=w:=by unfold enter Hg;rw[if_neg (by simp[h2])]
  simp -implicitDefEqProofs [h1,h2,e]
 have h2':w.rollout.off=false:=by simpa using h2
 have e:enter w={w with ends:=w.ends.mapIdx (Fv w),stage:=[],reached:=max w.reached (w.rollout.pos+1)}:=by unfold enter Hg;rw[if_pos (by simp[h1,h2'])]
 have hp:=Abf h1
 have hwp:IntKind.i64.wrap (w.rollout.pos+1)=w.rollout.pos+1:=Ad (by omega) (by omega)
 simp -implicitDefEqProofs [h1,h2]
 refine Ag (fun k s=>∃j o9,j+k=w.ends.length/\s=⟨[.undef,.ptr 0 0,.ptr 1 0,.ptr 8 0,I j,.undef,.undef,.undef],[.var ((Bu w).map (AO 1)),.var [.nil 1,.nil 1,.sc (.int .i64 0),.nil 4,.sc (.int .i64 0),.nil 1,.sc (.int .i64 0),.sc (.bool false),.sc (.int .i64 0),.sc (.int .i64 0),.nil 5,.nil 8,.sc (.int .i64 0),.sc (.int .i64 0),.sc (.int .i64 0)],.arr 1 0 w.server.length (ints w.server),.arr 1 0 w.tags.length (ints w.tags),.arr 4 0 w.ends.length ((MN (Fv w) w.ends j).flatMap Ah),.arr 1 0 w.rollout.stages.length (ints w.rollout.stages),.arr 5 0 w.stage.length (w.stage.flatMap AB),.arr 8 0 w.log.length (w.log.flatMap Az),.var [.arr 2,.arr 3,.sc (.int .i64 w.key),.arr 4,.sc (.int .i64 w.rollout.version),.arr 5,.sc (.int .i64 w.rollout.pos),.sc (.bool w.rollout.off),.sc (.int .i64 w.least),.sc (.int .i64 w.percent),.arr 6,.arr 7,.sc (.int .i64 w.now),.sc (.int .i64 w.hurt),.sc (.int .i64 w.reached)],o9,.free]⟩) ?_ (w.ends.length) _ ⟨0,.free,by simp,by simp[AiZ,h2']⟩
 intro k s ⟨j,o9,hj,hs⟩
 subst hs
 by_cases hjn:j<w.ends.length
 ·have hw:=Cv (j:=j) (by omega)
  have hset:=Adx (f:=Fv w) hjn
  have hg:=AdE (f:=Fv w) hjn
  have hvl:=AgL h hjn
  have hf:j*4<w.ends.length*4:=by omega
  simp -implicitDefEqProofs [hjn]
  refine Aa (hI w.rollout j w.ends.length hr) ?_
  by_cases h3:isIn w.rollout j w.ends.length=true
  ·have e3:Fv w j w.ends[j]=⟨El w.ends[j].versions w.rollout.version,w.ends[j].tags,w.ends[j].path,w.ends[j].cls⟩:=by unfold Fv;rw[if_pos h3]
   rw[e3]at hset
   simp -implicitDefEqProofs [h3,hjn,hg,hf]
   refine Aa (hP w.ends[j].versions _ hvl) ?_
   simp -implicitDefEqProofs [hjn,hg,hf]
   exact⟨k-1,by omega,j+1,by omega,by simp[hw],by rw[<-hset]⟩
  ·have e3:Fv w j w.ends[j]=w.ends[j]:=by unfold Fv;rw[if_neg h3]
   have hsame:=Aii hjn e3
   simp -implicitDefEqProofs [h3]
   exact⟨k-1,by omega,j+1,by omega,by simp[hw],by rw[hsame]⟩
 ·have hx:=Akv (f:=Fv w) (xs:=w.ends) (j:=j) (by omega)
  simp -implicitDefEqProofs [hjn,hwp,hx]
  refine Aa (hM _ _) ?_
  simp -implicitDefEqProofs [e,h2']
theorem AED (hC:EF (D 38)) (hR:FX (D 176)) (hI:Af6 (D 228)) (hP:AvR (D 230)):J3 (Body D Aun):=by
 intro w h
 have hl:=FE h
 have hr:=OU h
 simp -implicitDefEqProofs
 refine Aa (hC w h) ?_
 simp -implicitDefEqProofs
 refine Aa (hR w.rollout hr) ?_
 by_cases h1:AP w.rollout=true
 rotate_left
 ·have e:enter w=w:=by unfold enter Hg;rw[if_neg (by simp[h1])]
  simp -implicitDefEqProofs [h1,e]
 by_cases h2:w.rollout.off=true
 ·have e:enter w=w:=by unfold enter Hg;rw[if_neg (by simp[h2])]
  simp -implicitDefEqProofs [h1,h2,e]
 have h2':w.rollout.off=false:=by simpa using h2
 have e:enter w={w with ends:=w.ends.mapIdx (Fv w),stage:=[],reached:=max w.reached (w.rollout.pos+1)}:=by unfold enter Hg;rw[if_pos (by simp[h1,h2'])]
 have hp:=Abf h1
 have hwp:IntKind.i64.wrap (w.rollout.pos+1)=w.rollout.pos+1:=Ad (by omega) (by omega)
 simp -implicitDefEqProofs [h1,h2]
 refine Ag (fun k s=>∃j v5 o10 o11,j+k=w.ends.length/\s=⟨[.undef,.ptr 0 0,.ptr 1 0,.ptr 8 0,.ptr 9 0,v5,.undef,I w.ends.length,I j,.undef,.undef],[.var ((Bu w).map (AO 1)),.var [.nil 1,.nil 1,.sc (.int .i64 0),.nil 4,.sc (.int .i64 0),.nil 1,.sc (.int .i64 0),.sc (.bool false),.sc (.int .i64 0),.sc (.int .i64 0),.nil 5,.nil 8,.sc (.int .i64 0),.sc (.int .i64 0),.sc (.int .i64 0)],.arr 1 0 w.server.length (ints w.server),.arr 1 0 w.tags.length (ints w.tags),.arr 4 0 w.ends.length ((MN (Fv w) w.ends j).flatMap Ah),.arr 1 0 w.rollout.stages.length (ints w.rollout.stages),.arr 5 0 w.stage.length (w.stage.flatMap AB),.arr 8 0 w.log.length (w.log.flatMap Az),.var [.arr 2,.arr 3,.sc (.int .i64 w.key),.arr 4,.sc (.int .i64 w.rollout.version),.arr 5,.sc (.int .i64 w.rollout.pos),.sc (.bool w.rollout.off),.sc (.int .i64 w.least),.sc (.int .i64 w.percent),.arr 6,.arr 7,.sc (.int .i64 w.now),.sc (.int .i64 w.hurt),.sc (.int .i64 w.reached)],.var [.sc (.int .i64 w.rollout.version),.sl 1 1 w.rollout.stages.length (ints w.rollout.stages),.sc (.int .i64 w.rollout.pos),.sc (.bool w.rollout.off)],o10,o11]⟩) ?_ (w.ends.length) _ ⟨0,.undef,.free,.free,by simp,by simp[AiZ,h2']⟩
 intro k s ⟨j,v5,o10,o11,hj,hs⟩
 subst hs
 by_cases hjn:j<w.ends.length
 ·have hw:=Cv (j:=j) (by omega)
  have hset:=Adx (f:=Fv w) hjn
  have hg:=AdE (f:=Fv w) hjn
  have hvl:=AgL h hjn
  have hf:j*4<w.ends.length*4:=by omega
  simp -implicitDefEqProofs [hjn]
  refine⟨by cases o11<;>rfl,?_⟩
  refine Aa (hI w.rollout j w.ends.length hr) ?_
  by_cases h3:isIn w.rollout j w.ends.length=true
  ·have e3:Fv w j w.ends[j]=⟨El w.ends[j].versions w.rollout.version,w.ends[j].tags,w.ends[j].path,w.ends[j].cls⟩:=by unfold Fv;rw[if_pos h3]
   rw[e3]at hset
   simp -implicitDefEqProofs [h3,hjn,hg,hf]
   refine Aa (hP w.ends[j].versions _ hvl) ?_
   simp -implicitDefEqProofs [hjn,hg,hf]
   exact⟨k-1,by omega,j+1,by omega,by simp[hw],by rw[<-hset]⟩
  ·have e3:Fv w j w.ends[j]=w.ends[j]:=by unfold Fv;rw[if_neg h3]
   have hsame:=Aii hjn e3
   simp -implicitDefEqProofs [h3]
   exact⟨k-1,by omega,j+1,by omega,by simp[hw],by rw[hsame]⟩
 ·have hx:=Akv (f:=Fv w) (xs:=w.ends) (j:=j) (by omega)
  by_cases hmx:w.reached<w.rollout.pos+1
  ·have em:max w.reached (w.rollout.pos+1)=w.rollout.pos+1:=by omega
   simp -implicitDefEqProofs [hjn,hwp,hx,e,h2',hmx,em]
  ·have em:max w.reached (w.rollout.pos+1)=w.reached:=by omega
   simp -implicitDefEqProofs [hjn,hwp,hx,e,h2',hmx,em]
def Dc (w:World):World×Bool:=if decide (w.reached=0)&&Hg w then(enter w,true)else(w,false)
abbrev OT:Prop:=∀w:World,Af w<=4194304->R [arg (Bu w)] [] (.tup [.agg (Bu (Dc w).1),B (Dc w).2]) []
theorem AeP (hC:EF (D 22)) (hR:FX (D 145)) (hE:J3 (D 146)):OT (Body D KJ):=by
 intro w h
 have hr:=OU h
 by_cases h0:w.reached=0
 rotate_left
 ·have e:Dc w=(w,false):=by unfold Dc;simp[h0]
  simp -implicitDefEqProofs [h0]
  refine Aa (hC w h) ?_
  simp -implicitDefEqProofs [e]
 simp -implicitDefEqProofs [h0]
 refine Aa (hR w.rollout hr) ?_
 by_cases h1:AP w.rollout=true
 rotate_left
 ·have e:Dc w=(w,false):=by unfold Dc Hg;simp[h1]
  simp -implicitDefEqProofs [h1]
  have hcs:=hC w h
  simp -implicitDefEqProofs [h0]at hcs
  refine Aa hcs ?_
  clear hcs
  simp -implicitDefEqProofs [e,h0]
 by_cases h2:w.rollout.off=true
 ·have e:Dc w=(w,false):=by unfold Dc Hg;simp[h2]
  simp -implicitDefEqProofs [h1,h2]
  have hcs:=hC w h
  simp -implicitDefEqProofs [h0,h2]at hcs
  refine Aa hcs ?_
  clear hcs
  simp -implicitDefEqProofs [e,h0,h2]
 have h2':w.rollout.off=false:=by simpa using h2
 have e:Dc w=(enter w,true):=by unfold Dc Hg;simp[h0,h1,h2']
 simp -implicitDefEqProofs [h1,h2]
 have hcs:=hE w h
 simp -implicitDefEqProofs [h0,h2]at hcs
 refine Aa hcs ?_
 clear hcs
 simp -implicitDefEqProofs [e]
theorem AF8 (hC:EF (D 38)) (hR:FX (D 176)) (hE:J3 (D 177)):OT (Body D Avy):=by
 intro w h
 have hr:=OU h
 by_cases h0:w.reached=0
 rotate_left
 ·have e:Dc w=(w,false):=by unfold Dc;simp[h0]
  simp -implicitDefEqProofs [h0]
  refine Aa (hC w h) ?_
  simp -implicitDefEqProofs [e]
 simp -implicitDefEqProofs [h0]
 refine Aa (hR w.rollout hr) ?_
 by_cases h1:AP w.rollout=true
 rotate_left
 ·have e:Dc w=(w,false):=by unfold Dc Hg;simp[h1]
  simp -implicitDefEqProofs [h1]
  have hcs:=hC w h
  simp -implicitDefEqProofs [h0]at hcs
  refine Aa hcs ?_
  clear hcs
  simp -implicitDefEqProofs [e,h0]
 by_cases h2:w.rollout.off=true
 ·have e:Dc w=(w,false):=by unfold Dc Hg;simp[h2]
  simp -implicitDefEqProofs [h1,h2]
  have hcs:=hC w h
  simp -implicitDefEqProofs [h0,h2]at hcs
  refine Aa hcs ?_
  clear hcs
  simp -implicitDefEqProofs [e,h0,h2]
 have h2':w.rollout.off=false:=by simpa using h2
 have e:Dc w=(enter w,true):=by unfold Dc Hg;simp[h0,h1,h2']
 simp -implicitDefEqProofs [h1,h2]
 have hcs:=hE w h
 simp -implicitDefEqProofs [h0,h2]at hcs
 refine Aa hcs ?_
 clear hcs
 simp -implicitDefEqProofs [e]
set_option maxHeartbeats 2000000
open Go.Lib (compact compactUpTo keeps)
abbrev Up (l:List Int):Prop:=l.Pairwise (· < ·)
theorem AKb:∀ {a b:List Int},Up a->Up b->(∀x,x∈a↔x∈b)->a=b
 | [],[],_,_,_=>rfl
 | [],y::b,_,_,h=>by have:=(h y).2 (by simp);simp at this
 | x::a,[],_,_,h=>by have:=(h x).1 (by simp);simp at this
 | x::a,y::b,ha,hb,h=>by
  rw[Up,List.pairwise_cons]at ha hb
  have hxy:x=y:=by
   have h1:=(h x).1 (by simp)
   have h2:=(h y).2 (by simp)
   rcases List.mem_cons.1 h1 with e | h1
   ·exact e
   ·rcases List.mem_cons.1 h2 with e | h2
    ·exact e.symm
    ·have:=hb.1 x h1;have:=ha.1 y h2;omega
  subst hxy
  congr 1
  refine AKb ha.2 hb.2 fun z=>⟨fun hz=> ?_,fun hz=> ?_⟩
  ·rcases List.mem_cons.1 ((h z).1 (by simp[hz]))with e | h1
   ·subst e;have:=ha.1 z hz;omega
   ·exact h1
  ·rcases List.mem_cons.1 ((h z).2 (by simp[hz]))with e | h1
   ·subst e;have:=hb.1 z hz;omega
   ·exact h1
theorem IQ:∀(l:List Int) (v x:Int),x∈El l v↔x∈l∨x=v:=by
 intro l v x
 unfold El
 split
 ·rename_i h
  constructor
  ·exact .inl
  ·rintro (h1 | rfl)
   ·exact h1
   ·exact List.mem_of_getElem? h
 ·unfold Ua
  rw[List.mem_append,List.mem_cons]
  have:x∈l↔x∈l.take (Ei l v)∨x∈l.drop (Ei l v):=by
   conv=>lhs;rw[<-List.take_append_drop (Ei l v) l,List.mem_append]
  rw[this]
  constructor
  ·rintro (h1 | h1 | h1)
   ·exact .inl (.inl h1)
   ·exact .inr h1
   ·exact .inl (.inr h1)
  ·rintro ((h1 | h1) | h1)
   ·exact .inl h1
   ·exact .inr (.inr h1)
   ·exact .inr (.inl h1)
theorem X6:∀(l:List Int) (v x:Int),x∈l.take (Ei l v)->x<v
 | [],v,x,h=>by simp at h
 | y::r,v,x,h=>by
  simp only[Ei]at h
  split at h
  ·rw[List.take_succ_cons]at h
   rcases List.mem_cons.1 h with rfl | h
   ·assumption
   ·exact X6 r v x h
  ·simp at h
theorem AeM:∀ {l:List Int} (v:Int),Up l->Up (El l v):=by
 intro l v hl
 unfold El
 split
 ·exact hl
 ·rename_i hne
  unfold Ua Up
  rw[List.pairwise_append,List.pairwise_cons]
  have hb:=X6 l v
  have hafter:∀y,y∈l.drop (Ei l v)->v<y:=by
   intro y hy
   by_cases hk:Ei l v<l.length
   ·have hs:=Ade (l:=l) (v:=v) hk (by
     intro hlt
     have key:∀(l:List Int) (h:Ei l v<l.length),¬l[Ei l v]<v:=by
      intro l
      induction l with
      | nil=>intro h;simp at h
      | cons x r ih=>
       intro h
       by_cases hx:x<v
       ·have e:Ei (x::r) v=Ei r v+1:=by simp[Ei,hx]
        have h':Ei r v<r.length:=by rw[e]at h;simpa using h
        have:=ih h'
        simp only[e,List.getElem_cons_succ]
        exact this
       ·have e:Ei (x::r) v=0:=by simp[Ei,hx]
        simp only[e,List.getElem_cons_zero]
        exact hx
     exact key l hk hlt)
    have key:∀(l:List Int) (h:Ei l v<l.length),¬l[Ei l v]<v:=by
     intro l
     induction l with
     | nil=>intro h;simp at h
     | cons x r ih=>
      intro h
      by_cases hx:x<v
      ·have e:Ei (x::r) v=Ei r v+1:=by simp[Ei,hx]
       have h':Ei r v<r.length:=by rw[e]at h;simpa using h
       have:=ih h'
       simp only[e,List.getElem_cons_succ]
       exact this
      ·have e:Ei (x::r) v=0:=by simp[Ei,hx]
       simp only[e,List.getElem_cons_zero]
       exact hx
    have h1:=key l hk
    have h2:l[Ei l v]≠v:=by
     intro e;apply hne;rw[List.getElem?_eq_getElem hk,e]
    rw[List.drop_eq_getElem_cons hk]at hy
    have hp:(l[Ei l v]::l.drop (Ei l v+1)).Pairwise (· < ·):=by rw[<-List.drop_eq_getElem_cons hk];exact hl.drop
    rw[List.pairwise_cons]at hp
    rcases List.mem_cons.1 hy with rfl | hy
    ·omega
    ·have:=hp.1 y hy;omega
   ·rw[List.drop_eq_nil_of_le (by omega)]at hy;simp at hy
  refine⟨hl.take,⟨hafter,hl.drop⟩,fun a ha b hb'=> ?_⟩
  have h1:=hb a ha
  rcases List.mem_cons.1 hb' with rfl | hb'
  ·exact h1
  ·have:=hafter b hb';omega
def AxH (l:List Int) (xs:List Int):List Int:=xs.foldl El l
theorem AFc:∀ {xs l:List Int},Up l->Up (AxH l xs)
 | [],_,h=>h
 | x::xs,l,h=>AFc (xs:=xs) (AeM x h)
theorem AzL:∀(xs l:List Int) (x:Int),x∈AxH l xs↔x∈l∨x∈xs
 | [],l,x=>by simp[AxH]
 | y::xs,l,x=>by
  have:=AzL xs (El l y) x
  unfold AxH at *
  rw[List.foldl_cons,this,IQ,List.mem_cons]
  constructor
  ·rintro ((h | h) | h)
   ·exact .inl h
   ·exact .inr (.inl h)
   ·exact .inr (.inr h)
  ·rintro (h | h | h)
   ·exact .inl (.inl h)
   ·exact .inl (.inr h)
   ·exact .inr h
theorem AGC (zs:List Int) (x:Int):x∈compact zs↔x∈zs:=by
 have hget:∀i,i<zs.length->zs.toArray[i]! =zs[i]! :=fun i _=>by simp
 unfold compact compactUpTo
 simp only[List.mem_map,List.mem_filter,List.mem_range]
 constructor
 ·rintro ⟨i,⟨hi,_⟩,rfl⟩
  rw[hget i hi,getElem!_pos zs i hi]
  exact List.getElem_mem hi
 ·intro hx
  have key:∀n,(h:n<zs.length)->zs[n]=x->∃i,(i<zs.length/\keeps zs.toArray i=true)/\zs.toArray[i]! =x:=by
   intro n
   induction n with
   | zero=>intro h e;exact⟨0,⟨h,by simp[keeps]⟩,by rw[hget 0 h,getElem!_pos zs 0 h,e]⟩
   | succ n ih=>
    intro h e
    by_cases hk:zs[n]=x
    ·exact ih (by omega) hk
    ·refine⟨n+1,⟨h,?_⟩,by rw[hget _ h,getElem!_pos zs _ h,e]⟩
     unfold keeps
     rw[show n+1-1=n by omega,hget _ h,hget n (by omega),getElem!_pos zs _ h,getElem!_pos zs n (by omega),e]
     simp
     exact fun h=>hk h.symm
  obtain⟨n,hn,e⟩:=List.getElem_of_mem hx
  exact key n hn e
theorem AH2 (zs:List Int) (h:zs.Pairwise (·<=·)):Up (compact zs):=by
 have hget:∀i,i<zs.length->zs.toArray[i]! =zs[i]! :=fun i _=>by simp
 unfold compact compactUpTo Up
 rw[List.pairwise_map]
 have hr:((List.range zs.length).filter (keeps zs.toArray)).Pairwise (· < ·):=List.Pairwise.filter _ List.pairwise_lt_range
 refine hr.imp_of_mem ?_
 intro i j hi hj hij
 simp only[List.mem_filter,List.mem_range]at hi hj
 have hk:=hj.2
 unfold keeps at hk
 have h0:¬j=0:=by omega
 simp only[h0,false_or,decide_eq_true_eq]at hk
 rw[hget j hj.1,hget (j-1) (by omega),getElem!_pos zs j hj.1,getElem!_pos zs (j-1) (by omega)]at hk
 rw[hget i hi.1,hget j hj.1,getElem!_pos zs i hi.1,getElem!_pos zs j hj.1]
 rw[List.pairwise_iff_getElem]at h
 have h1:=h (j-1) j (by omega) hj.1 (by omega)
 have h2:zs[i]<=zs[j-1]:=by
  by_cases e:i=j-1
  ·simp[e]
  ·exact h i (j-1) hi.1 (by omega) (by omega)
 omega
def Azk (l:List Int):List Int:=l.mergeSort fun x y=>decide (x<=y)
theorem AyK (l:List Int):(Azk l).length=l.length:=by simp[Azk]
theorem AJa (l:List Int) (x:Int):x∈Azk l↔x∈l:=by simp[Azk]
theorem AHA (l:List Int):(Azk l).Pairwise (·<=·):=by
 have:=List.pairwise_mergeSort (le:=fun x y:Int=>decide (x<=y)) (fun a b c h1 h2=>by simp at *;omega) (fun a b=>by simp;omega) l
 exact this.imp fun h=>by simpa using h
theorem AGd (l:List Int):compact (Azk l)=AxH [] l:=by
 refine AKb (AH2 _ (AHA l)) (AFc List.Pairwise.nil) fun x=> ?_
 rw[AGC,AJa,AzL]
 simp
abbrev AIN:Prop:=∀l:List Int,l.length<=4194304->R [.arr 0] [.arr 1 0 l.length (ints l)] (.tup []) [.arr 1 0 l.length (ints (Azk l))]
abbrev CompactS:Prop:=∀l:List Int,l.length<=4194304->R [.arr 0] [.arr 1 0 l.length (ints l)] (.sl 0 1 (compact l).length (ints (compact l))) [.dead]
def Auy (w:World) (xs:List Eo):List Int:=(xs.filter (Avc w)).map (·.fin)
def Ata (w:World):List Int:=AxH [] (Auy w w.log)
theorem AHX {w:World} {xs:List Eo} {j:Nat} (h:j<xs.length):Auy w (xs.take (j+1))=Auy w (xs.take j)++(if Avc w xs[j]then [xs[j].fin]else []):=by
 unfold Auy
 rw[AaH h]
 by_cases hp:Avc w xs[j]=true<;>simp[hp]
theorem AIY {w:World} {xs:List Eo} {j:Nat} (h:xs.length<=j):Auy w (xs.take j)=Auy w xs:=by rw[List.take_of_length_le h]
theorem AE6 {w:World} {xs:List Eo} {j:Nat}:(Auy w (xs.take j)).length<=j:=by
 unfold Auy
 rw[List.length_map]
 exact Adw
theorem ADg:∀(xs l:List Int),(AxH l xs).length<=l.length+xs.length
 | [],l=>by simp[AxH]
 | x::xs,l=>by
  have h1:=ADg xs (El l x)
  have h2:=Rm l x
  unfold AxH at *
  simp only[List.foldl_cons,List.length_cons]
  omega
abbrev Axh:Prop:=∀w:World,Af w<=4194304->R [arg (Bu w)] [] (.sl 0 1 (Ata w).length (ints (Ata w))) []
theorem AHi (hB:AGT (D 196)) (hS:AIN (D 197)) (hC:CompactS (D 198)):Axh (Body D Avt):=by
 intro w hsz
 have hl:=Akl hsz
 have hres:Ata w=compact (Azk (Auy w w.log)):=(AGd _).symm
 rw[hres]
 simp -implicitDefEqProofs
 refine Ag (fun k s=>∃j v4 o2 o3 o4,j+k=w.log.length/\s=⟨[.undef,.ptr 0 0,.undef,.arr 6,v4,.sl 1 8 w.log.length (w.log.flatMap Az),I w.log.length,I j,.undef,.undef],[.var ((Bu w).map (AO 1)),.free,o2,o3,o4,.free,.arr 1 0 (Auy w (w.log.take j)).length (ints (Auy w (w.log.take j)))]⟩) ?_ (w.log.length) _ ⟨0,.undef,.free,.free,.free,by simp,by simp[Auy]⟩
 intro k s ⟨j,v4,o2,o3,o4,hj,hs⟩
 subst hs
 by_cases hjn:j<w.log.length
 ·have hw:=Cv (j:=j) (by omega)
  have hst:=AHX (w:=w) hjn
  have hfl:=AE6 (w:=w) (xs:=w.log) (j:=j)
  have hbd:((Auy w (w.log.take j)).length+1)*8<=1099511627776:=by omega
  simp -implicitDefEqProofs [hjn]
  refine Aa (hB w w.log[j] (AG4 hsz hjn)) ?_
  by_cases h1:Avc w w.log[j]=true
  ·rw[if_pos h1]at hst
   simp -implicitDefEqProofs [h1,hjn,hbd]
   exact⟨k-1,by omega,j+1,by omega,by simp[hw],by rw[hst];simp,by rw[hst]⟩
  ·rw[if_neg h1,List.append_nil]at hst
   simp -implicitDefEqProofs [h1]
   exact⟨k-1,by omega,j+1,by omega,by simp[hw],by rw[hst],by rw[hst]⟩
 ·have hx:=AIY (w:=w) (xs:=w.log) (j:=j) (by omega)
  have hfl:=AE6 (w:=w) (xs:=w.log) (j:=w.log.length)
  rw[List.take_length]at hfl
  simp -implicitDefEqProofs [hjn,hx]
  refine Aa (hS _ (by omega)) ?_
  simp -implicitDefEqProofs [AyK]
  have hc:=hC (Azk (Auy w w.log)) (by rw[AyK];omega)
  rw[AyK]at hc
  refine Aa (hc) ?_
  simp -implicitDefEqProofs
def AGu (r:AX) (i:Nat):AX:=⟨r.version,r.stages,i,r.off⟩
def AvY (r:AX) (n:Int):Nat->Int
 | 0=>0
 | k+1=>max (AvY r n k) (countIn (AGu r k) n)
def Avb (r:AX) (n s:Int):Int:=if AP r=true/\NJ s 1 r.stages.length then AvY r n s.toNat else 0
abbrev AyY:Prop:=∀(r:AX) (n s:Int),r.stages.length<=4194304->R [arg (Dj r),I n,I s] [] (I (Avb r n s)) []
theorem AGL (hR:FX (D 176)) (hI:Vf (D 114)) (hC:V3 (D 263)):AyY (Body D Awc):=by
 intro r n st hl
 simp -implicitDefEqProofs
 refine Aa (hR r hl) ?_
 by_cases h1:AP r=true
 rotate_left
 ·have e:Avb r n st=0:=by unfold Avb;rw[if_neg (by simp[h1])]
  simp -implicitDefEqProofs [h1,e]
 simp -implicitDefEqProofs [h1]
 refine Aa (hI _ _ _) ?_
 by_cases h2:NJ st 1 r.stages.length
 rotate_left
 ·have e:Avb r n st=0:=by unfold Avb;rw[if_neg (fun h=>h2 h.2)]
  simp -implicitDefEqProofs [h2,e]
 obtain⟨m,rfl⟩:∃m:Nat,st=m:=⟨st.toNat,by have:=h2.1;omega⟩
 have hm:m<=r.stages.length:=by have:=h2.2;omega
 have e:Avb r n m=AvY r n m:=by unfold Avb;rw[if_pos ⟨h1,h2⟩];simp
 rw[e]
 simp -implicitDefEqProofs [h2]
 refine Ag (fun k s=>∃j at0,j+k=m/\s=⟨[.undef,I n,.undef,.ptr 0 0,.undef,I (AvY r n j),.undef,.undef,I m,I j,.undef],[.var [.sc (.int .i64 r.version),.sl 1 1 r.stages.length (ints r.stages),.sc (.int .i64 at0),.sc (.bool r.off)]]⟩) ?_ (m) _ ⟨0,r.pos,by simp,by simp[AvY]⟩
 intro k s ⟨j,at0,hj,hs⟩
 subst hs
 by_cases hjn:j<m
 ·have hw:=Cv (j:=j) (by omega)
  simp -implicitDefEqProofs [hjn]
  refine Aa (hC (AGu r j) n hl) ?_
  by_cases hmx:AvY r n j<countIn (AGu r j) n
  ·have em:AvY r n (j+1)=countIn (AGu r j) n:=by simp only[AvY];omega
   simp -implicitDefEqProofs [hmx]
   exact⟨k-1,by omega,j+1,by omega,by rw[em],by simp[hw]⟩
  ·have em:AvY r n (j+1)=AvY r n j:=by simp only[AvY];omega
   simp -implicitDefEqProofs [hmx]
   exact⟨k-1,by omega,j+1,by omega,by rw[em],by simp[hw]⟩
 ·obtain rfl:j=m:=by omega
  simp -implicitDefEqProofs
def AJV (r:AX):AX:=⟨r.version,r.stages,r.pos,false⟩
def AyU (w:World):Bool:=decide (((Ata w).length:Int)<=Avb (AJV w.rollout) w.ends.length w.reached)
abbrev AxJ:Prop:=∀w:World,Af w<=4194304->R [arg (Bu w)] [] (B (AyU w)) []
theorem AF7 (hH:Axh (D 131)) (hM:AyY (D 245)):AxJ (Body D AvH):=by
 intro w hsz
 simp -implicitDefEqProofs
 refine Aa (hH w hsz) ?_
 simp -implicitDefEqProofs
 refine Aa (hM (AJV w.rollout) _ _ (OU hsz)) ?_
 simp -implicitDefEqProofs [AyU]
end Go.Eng.T
namespace Go.Eng.T
set_option maxRecDepth 20000
variable (D:Dn)
theorem AHs (hA:AsS (D 233)) (hI:Vf (D 114)):RH (Body D Awe):=by
 intro g b l p
 simp -implicitDefEqProofs
 refine Aa (hA [g,b,l] 0 10000 (by unfold maxLen;simp)) ?_
 by_cases h1:allIn [g,b,l] 0 10000=true
 rotate_left
 ·have e:J6 g b l p=0:=by
   unfold J6
   rw[if_pos]
   simp[allIn]at h1
   by_cases a:M6 g 0 10000
   ·by_cases c:M6 b 0 10000
    ·right;right;left;intro h;have:=h1 a.1 a.2 c.1 c.2 (by omega);omega
    ·exact .inr (.inl c)
   ·exact .inl a
  simp -implicitDefEqProofs [h1,e]
 have h1':M6 g 0 10000/\M6 b 0 10000/\M6 l 0 10000:=by simpa[allIn]using h1
 by_cases h2:l=0
 ·have e:J6 g b l p=0:=by unfold J6;rw[if_pos (by right;right;left;omega)]
  subst h2
  simp -implicitDefEqProofs [h1,e]
 simp -implicitDefEqProofs [h1,h2]
 refine Aa (hI _ _ _) ?_
 by_cases h4:M6 p 0 100
 rotate_left
 ·simp -implicitDefEqProofs [h2,h4,J6]
 have w1:IntKind.i64.wrap (100*b)=100*b:=Ad (by omega) (by omega)
 have w2:=AdN h4.1 h4.2 (x:=l) (by omega) (by omega)
 have w3:=AdN h4.1 h4.2 (x:=g+b) (by omega) (by omega)
 have w4:IntKind.i64.wrap (g+b)=g+b:=Ad (by omega) (by omega)
 have e:J6 g b l p=if 100*b>p*l/\100*b>p*(g+b)then 2 else if g+b<l then 0 else if 100*b<=p*(g+b)then 1 else 2:=by unfold J6;rw[if_neg (by omega)]
 rw[e]
 clear e
 by_cases c1:p*l<100*b
 ·by_cases c2:p*(g+b)<100*b
  ·simp -implicitDefEqProofs [h2,h4,w1,w2,w3,w4,c1,c2]
  ·have c3:100*b<=p*(g+b):=by omega
   by_cases c4:g+b<l
   ·simp -implicitDefEqProofs [h2,h4,w1,w2,w3,w4,c1,c2,c3,c4]
   ·simp -implicitDefEqProofs [h2,h4,w1,w2,w3,w4,c1,c2,c3,c4]
 ·by_cases c4:g+b<l
  ·simp -implicitDefEqProofs [h2,h4,w1,w2,w3,w4,c1,c4]
  ·by_cases c3:100*b<=p*(g+b)
   ·simp -implicitDefEqProofs [h2,h4,w1,w2,w3,w4,c1,c3,c4]
   ·simp -implicitDefEqProofs [h2,h4,w1,w2,w3,w4,c1,c3,c4]
theorem AGD (hB:PN (D 229)):NV (Body D Av0):=by
 intro xs v hl hu
 unfold maxLen at hl
 simp -implicitDefEqProofs
 refine Ag (fun k s=>∃j o,j+k=xs.length/\s=⟨[.undef,.sc (.int .i64 v),.undef,.undef,.sc (.int .i64 (cntF (goodD v) (xs.take j))),.sc (.int .i64 (cntF (Lj v) (xs.take j))),.undef,.sl 1 5 xs.length (xs.flatMap AB),.sc (.int .i64 xs.length),.sc (.int .i64 j),.undef,.undef,.undef],[o]⟩) ?_ xs.length _ ⟨0,.free,by simp,by simp[cntF]⟩
 intro k s ⟨j,o0,hj,hs⟩
 subst hs
 by_cases hjn:j<xs.length
 ·have hw:=Cv (j:=j) (by omega)
  have hc:=AaP (f:=goodD v) hjn
  have hb:=AaP (f:=Lj v) hjn
  have hcl:=Afa (f:=goodD v) (xs:=xs) (j:=j) (by omega)
  have hbl:=Afa (f:=Lj v) (xs:=xs) (j:=j) (by omega)
  have hw2:IntKind.i64.wrap ((cntF (goodD v) (xs.take j):Int)+1)=(cntF (goodD v) (xs.take j)+1:Nat):=by rw[Ad (by omega) (by omega)];simp
  have hw3:IntKind.i64.wrap ((cntF (Lj v) (xs.take j):Int)+1)=(cntF (Lj v) (xs.take j)+1:Nat):=by rw[Ad (by omega) (by omega)];simp
  simp -implicitDefEqProofs [hjn]
  refine Aa (hB xs[j] v (hu j hjn)) ?_
  by_cases hbd:Lj v xs[j]=true
  ·simp -implicitDefEqProofs [hbd]
   exact⟨k-1,by omega,j+1,by omega,by rw[hc];simp[goodD,hbd],by rw[hb,hw3];simp[hbd],by simp[hw]⟩
  ·by_cases h4:v<=xs[j].deal.version
   ·simp -implicitDefEqProofs [hbd,h4]
    exact⟨k-1,by omega,j+1,by omega,by rw[hc,hw2];simp[goodD,hbd,h4],by rw[hb];simp[hbd],by simp[hw]⟩
   ·simp -implicitDefEqProofs [hbd,h4]
    exact⟨k-1,by omega,j+1,by omega,by rw[hc];simp[goodD,hbd,h4],by rw[hb];simp[hbd],by simp[hw]⟩
 ·have hx:=Afj (f:=goodD v) (xs:=xs) (j:=j) (by omega)
  have hy:=Afj (f:=Lj v) (xs:=xs) (j:=j) (by omega)
  simp -implicitDefEqProofs [hjn,hx,hy]
theorem Ah3 {w:World} (h:Af w<=4194304):∀(j:Nat) (hj:j<w.stage.length),w.stage[j].up.length<=maxLen:=by
 intro j hj
 have:=size_at (f:=Cb) hj
 unfold Af at h
 have e:Cb w.stage[j]=ND w.stage[j].deal+w.stage[j].up.length:=rfl
 unfold maxLen;omega
def LB (w:World):Int:=J6 (cntF (goodD w.rollout.version) w.stage) (cntF (Lj w.rollout.version) w.stage) w.least w.percent
variable (R:Rel)
abbrev Pq:Prop:=∀w:World,Af w<=4194304->R [arg (Bu w)] [] (I (LB w)) []
theorem Aem (hM:NV (D 155)) (hS:RH (D 156)):Pq (Body D KW):=by
 intro w h
 simp -implicitDefEqProofs
 refine Aa (hM w.stage _ (by have:=XY h;unfold maxLen;omega) (Ah3 h)) ?_
 simp -implicitDefEqProofs
 refine Aa (hS _ _ _ _) ?_
 simp -implicitDefEqProofs [LB]
theorem AGo (hM:NV (D 193)) (hS:RH (D 194)):Pq (Body D Avf):=by
 intro w h
 simp -implicitDefEqProofs
 refine Aa (hM w.stage _ (by have:=XY h;unfold maxLen;omega) (Ah3 h)) ?_
 simp -implicitDefEqProofs
 refine Aa (hS _ _ _ _) ?_
 simp -implicitDefEqProofs [LB]
set_option maxHeartbeats 2000000
def RO (r:AX):Bool:=AP r&&(!r.off&& !decide (r.pos=(r.stages.length:Int)-1))
def Bp (r:AX):AX×Bool:=if RO r=true then(⟨r.version,r.stages,r.pos+1,r.off⟩,true)else(r,false)
abbrev PX:Prop:=∀r:AX,Db r<=4194304->R [arg (Dj r)] [] (.tup [.agg (Dj (Bp r).1),B (Bp r).2]) []
theorem Afn (hC:Je (D 66)) (hR:FX (D 145)):PX (Body D Ky):=by
 intro r h
 have hl:r.stages.length<=4194304:=h
 have hw1:IntKind.i64.wrap ((r.stages.length:Int)-1)=(r.stages.length:Int)-1:=Ad (by omega) (by omega)
 simp -implicitDefEqProofs
 refine Aa (hC r h) ?_
 simp -implicitDefEqProofs
 refine Aa (hR r hl) ?_
 by_cases h1:AP r=true
 rotate_left
 ·have e:Bp r=(r,false):=by unfold Bp RO;rw[if_neg (by simp[h1])]
  simp -implicitDefEqProofs [h1,e]
 by_cases h2:r.off=true
 ·have e:Bp r=(r,false):=by unfold Bp RO;rw[if_neg (by simp[h2])]
  simp -implicitDefEqProofs [h1,h2,e]
 have h2':r.off=false:=by simpa using h2
 have hp:=Abf h1
 have hwp:IntKind.i64.wrap (r.pos+1)=r.pos+1:=Ad (by omega) (by omega)
 obtain⟨ver,stg,pos,off⟩:=r
 dsimp only at *
 subst h2'
 by_cases h3:pos=(stg.length:Int)-1
 ·have e:Bp ⟨ver,stg,pos,false⟩=(⟨ver,stg,pos,false⟩,false):=by unfold Bp RO;rw[if_neg (by simp[h3])]
  subst h3
  simp -implicitDefEqProofs [h1,hw1,e]
 have e:Bp ⟨ver,stg,pos,false⟩=(⟨ver,stg,pos+1,false⟩,true):=by unfold Bp RO;rw[if_pos (by simp[h1,h3])]
 simp -implicitDefEqProofs [h1,hw1,h3,hwp,e]
theorem AGe (hC:Je (D 101)) (hR:FX (D 176)):PX (Body D AvI):=by
 intro r h
 have hl:r.stages.length<=4194304:=h
 have hw1:IntKind.i64.wrap ((r.stages.length:Int)-1)=(r.stages.length:Int)-1:=Ad (by omega) (by omega)
 simp -implicitDefEqProofs
 refine Aa (hC r h) ?_
 simp -implicitDefEqProofs
 refine Aa (hR r hl) ?_
 by_cases h1:AP r=true
 rotate_left
 ·have e:Bp r=(r,false):=by unfold Bp RO;rw[if_neg (by simp[h1])]
  simp -implicitDefEqProofs [h1,e]
 by_cases h2:r.off=true
 ·have e:Bp r=(r,false):=by unfold Bp RO;rw[if_neg (by simp[h2])]
  simp -implicitDefEqProofs [h1,h2,e]
 have h2':r.off=false:=by simpa using h2
 have hp:=Abf h1
 have hwp:IntKind.i64.wrap (r.pos+1)=r.pos+1:=Ad (by omega) (by omega)
 obtain⟨ver,stg,pos,off⟩:=r
 dsimp only at *
 subst h2'
 by_cases h3:pos=(stg.length:Int)-1
 ·have e:Bp ⟨ver,stg,pos,false⟩=(⟨ver,stg,pos,false⟩,false):=by unfold Bp RO;rw[if_neg (by simp[h3])]
  subst h3
  simp -implicitDefEqProofs [h1,hw1,e]
 have e:Bp ⟨ver,stg,pos,false⟩=(⟨ver,stg,pos+1,false⟩,true):=by unfold Bp RO;rw[if_pos (by simp[h1,h3])]
 simp -implicitDefEqProofs [h1,hw1,h3,hwp,e]
def VD (r:AX):Bool:=AP r&& !r.off
def BI (r:AX):AX×Bool:=if VD r=true then(⟨r.version,r.stages,0,true⟩,true)else(r,false)
abbrev Pj:Prop:=∀r:AX,Db r<=4194304->R [arg (Dj r)] [] (.tup [.agg (Dj (BI r).1),B (BI r).2]) []
theorem AeV (hC:Je (D 66)) (hR:FX (D 145)):Pj (Body D KV):=by
 intro r h
 have hl:r.stages.length<=4194304:=h
 simp -implicitDefEqProofs
 refine Aa (hC r h) ?_
 simp -implicitDefEqProofs
 refine Aa (hR r hl) ?_
 by_cases h1:AP r=true
 rotate_left
 ·have e:BI r=(r,false):=by unfold BI VD;rw[if_neg (by simp[h1])]
  simp -implicitDefEqProofs [h1,e]
 by_cases h2:r.off=true
 ·have e:BI r=(r,false):=by unfold BI VD;rw[if_neg (by simp[h2])]
  simp -implicitDefEqProofs [h1,h2,e]
 have e:BI r=(⟨r.version,r.stages,0,true⟩,true):=by unfold BI VD;rw[if_pos (by simp[h1,h2])]
 simp -implicitDefEqProofs [h1,h2,e]
theorem AFQ (hC:Je (D 101)) (hR:FX (D 176)):Pj (Body D AvF):=by
 intro r h
 have hl:r.stages.length<=4194304:=h
 simp -implicitDefEqProofs
 refine Aa (hC r h) ?_
 simp -implicitDefEqProofs
 refine Aa (hR r hl) ?_
 by_cases h1:AP r=true
 rotate_left
 ·have e:BI r=(r,false):=by unfold BI VD;rw[if_neg (by simp[h1])]
  simp -implicitDefEqProofs [h1,e]
 by_cases h2:r.off=true
 ·have e:BI r=(r,false):=by unfold BI VD;rw[if_neg (by simp[h2])]
  simp -implicitDefEqProofs [h1,h2,e]
 have e:BI r=(⟨r.version,r.stages,0,true⟩,true):=by unfold BI VD;rw[if_pos (by simp[h1,h2])]
 simp -implicitDefEqProofs [h1,h2,e]
def Tn (l:List Int) (v:Int):Bool:=AQ l&&(decide (InV v 1 9)&& !decide (v∈l))
def KT (l:List Int) (v:Int):List Int×Bool:=if Tn l v=true then(El l v,true)else(l,false)
abbrev MH:Prop:=∀(l:List Int) (v:Int),l.length<=4194304->R [.sl 1 1 l.length (ints l),I v] [] (.tup [.sl 0 1 (KT l v).1.length (ints (KT l v).1),B (KT l v).2]) []
theorem Ac5 (hA:Dr (D 208)) (hI:Vf (D 71)) (hH:UQ (D 166)) (hP:Mf (D 159)):MH (Body D I9):=by
 intro l v hl
 have hl8:l.length*8<=1099511627776:=by omega
 have hl9:(l.length+1)*8<=1099511627776:=by omega
 simp -implicitDefEqProofs [hl8]
 refine Aa (hA l (by unfold maxLen;omega)) ?_
 by_cases h1:AQ l=true
 rotate_left
 ·have e:KT l v=(l,false):=by unfold KT Tn;rw[if_neg (by simp[h1])]
  simp -implicitDefEqProofs [h1,e,hl8]
 simp -implicitDefEqProofs [h1]
 refine Aa (hI _ _ _) ?_
 by_cases h2:InV v 1 9
 rotate_left
 ·have e:KT l v=(l,false):=by unfold KT Tn;rw[if_neg (by simp[h2])]
  simp -implicitDefEqProofs [h2,e,hl8]
 simp -implicitDefEqProofs [h2]
 refine Aa (hH l v (by unfold maxLen;omega)) ?_
 by_cases h3:v∈l
 ·have e:KT l v=(l,false):=by unfold KT Tn;rw[if_neg (by simp[h3])]
  simp -implicitDefEqProofs [h3,e,hl8]
 have e:KT l v=(El l v,true):=by unfold KT Tn;rw[if_pos (by simp[h1,h2,h3])]
 simp -implicitDefEqProofs [h3]
 refine Aa (hP l v hl) ?_
 simp -implicitDefEqProofs [e]
theorem up9:∀ {l:List Int} {a:Int},Up l->(∀x,x∈l->a<x/\x<=9)->(l.length:Int)<=9-a∨l=[]
 | [],_,_,_=> .inr rfl
 | x::r,a,h,hb=>by
  rw[Up,List.pairwise_cons]at h
  have h0:=hb x (by simp)
  have:=up9 (l:=r) (a:=x) h.2 (fun y hy=>⟨h.1 y hy,(hb y (by simp[hy])).2⟩)
  left
  rcases this with h1 | rfl
  ·simp only[List.length_cons];omega
  ·simp;omega
theorem AgB {l:List Int} (h:AQ l=true):l.length<=9:=by
 have:=up9 (l:=l) (a:=0) (Ru h) (fun x hx=>by have:=RF h x hx;exact⟨by omega,by omega⟩)
 rcases this with h1 | rfl
 ·omega
 ·simp
theorem ALn {l:List Int} (h:Up l):l.Pairwise (·<=·):=List.Pairwise.imp (fun h=>by omega) h
theorem ALa:∀ {a b:List Int},a.Pairwise (·<=·)->b.Pairwise (·<=·)->a.Perm b->a=b:=fun ha hb h=>List.Perm.eq_of_pairwise (le:=fun x y:Int=>x<=y) (fun a b _ _ h1 h2=>by omega) ha hb h
theorem AKc {l:List Int} {v:Int} (h:AQ l=true) (hv:¬v∈l):Azk (l++ [v])=El l v:=by
 have hup:Up l:=Ru h
 refine ALa (AHA _) (ALn (AeM v hup)) ?_
 refine(List.mergeSort_perm _ _).trans ?_
 unfold El
 rw[if_neg (fun e=>hv (List.mem_of_getElem? e))]
 unfold Ua
 have e:l=l.take (Ei l v)++l.drop (Ei l v):=(List.take_append_drop _ _).symm
 conv=>lhs;rw[e]
 rw[List.append_assoc]
 exact List.Perm.append_left _ (List.perm_append_comm (l₁:=l.drop (Ei l v)) (l₂:=[v]))
theorem AEw (hA:Dr (D 232)) (hI:Vf (D 114)) (hH:UQ (D 188)) (hS:AIN (D 197)):MH (Body D Aup):=by
 intro l v hl
 have hl8:l.length*8<=1099511627776:=by omega
 have hl9:(l.length+1)*8<=1099511627776:=by omega
 simp -implicitDefEqProofs [hl8]
 refine Aa (hA l (by unfold maxLen;omega)) ?_
 by_cases h1:AQ l=true
 rotate_left
 ·have e:KT l v=(l,false):=by unfold KT Tn;rw[if_neg (by simp[h1])]
  simp -implicitDefEqProofs [h1,e,hl8]
 simp -implicitDefEqProofs [h1]
 refine Aa (hI _ _ _) ?_
 by_cases h2:InV v 1 9
 rotate_left
 ·have e:KT l v=(l,false):=by unfold KT Tn;rw[if_neg (by simp[h2])]
  simp -implicitDefEqProofs [h2,e,hl8]
 simp -implicitDefEqProofs [h2]
 refine Aa (hH l v (by unfold maxLen;omega)) ?_
 by_cases h3:v∈l
 ·have e:KT l v=(l,false):=by unfold KT Tn;rw[if_neg (by simp[h3])]
  simp -implicitDefEqProofs [h3,e,hl8]
 have e:KT l v=(El l v,true):=by unfold KT Tn;rw[if_pos (by simp[h1,h2,h3])]
 have hs:=AKc h1 h3
 have hsl:=AyK (l++ [v])
 rw[List.length_append]at hsl
 have hpl:(El l v).length=l.length+1:=by rw[<-hs,hsl];rfl
 simp -implicitDefEqProofs [h3,hl9]
 have hss:=hS (l++ [v]) (by have:=AgB h1;simp;omega)
 simp -implicitDefEqProofs [hs]at hss
 refine Aa (hss) ?_
 simp -implicitDefEqProofs [hpl,e]
def EC (w:World) (v:Int):World×Bool:=({w with server:=(KT w.server v).1},(KT w.server v).2)
abbrev MI:Prop:=∀(w:World) (v:Int),Af w<=4194304->R [arg (Bu w),I v] [] (.tup [.agg (Bu (EC w v).1),B (EC w v).2]) []
theorem AoI {l:List Int} {v:Int} (h:(KT l v).2=false):(KT l v).1=l:=by
 unfold KT at *
 split at h
 ·cases h
 ·rename_i hc;rw[if_neg hc]
theorem Ac0 (hC:EF (D 22)) (hA:MH (D 151)):MI (Body D Jb):=by
 intro w v hsz
 simp -implicitDefEqProofs
 refine Aa (hC w hsz) ?_
 simp -implicitDefEqProofs
 refine Aa (hA w.server v (Od hsz).1) ?_
 have hno:=AoI (l:=w.server) (v:=v)
 have e:EC w v=({w with server:=(KT w.server v).1},(KT w.server v).2):=rfl
 rw[e]
 generalize KT w.server v=r at hno
 by_cases h1:r.2=true
 ·simp -implicitDefEqProofs [h1]
 ·have:=hno (by simpa using h1)
  simp -implicitDefEqProofs [h1,this]
theorem AEL (hC:EF (D 38)) (hA:MH (D 182)):MI (Body D Auz):=by
 intro w v hsz
 simp -implicitDefEqProofs
 refine Aa (hC w hsz) ?_
 simp -implicitDefEqProofs
 refine Aa (hA w.server v (Od hsz).1) ?_
 have e:EC w v=({w with server:=(KT w.server v).1},(KT w.server v).2):=rfl
 rw[e]
 generalize KT w.server v=r
 simp -implicitDefEqProofs
theorem AnJ (l:List Int) (v:Int):(KT l v).1.length<=l.length+1:=by
 unfold KT
 split
 ·exact Rm l v
 ·dsimp only;omega
theorem Ac7 (w:World) (v:Int):Af (EC w v).1<=Af w+1:=by
 have:=AnJ w.server v
 simp only[EC,Af]
 omega
set_option maxHeartbeats 1000000
theorem AKl {D:Dn} {c:Cf} {a:SC} {Q:Out->St->Prop} {s:St} (h:swp D c a (fun o s'=>match o with | .normal=>False | o=>Q o s') s):swp D c (.loop a) Q s:=⟨1,h⟩
def inB (t:Int):Bool:=decide (M6 t 0 255)
def Abb (b:List Int) (t:Int):Bool:= !decide (t∈b)&&inB t
def JN (h x:Hello):List Int:=leftOf h.versions x.versions++((Ba h.exts).filter (Abb (Ba x.exts))).map (fun t=>1000+t)
theorem AJD (a b:List Int):(leftOf a b).filter inB=a.filter (Abb b):=by
 unfold leftOf
 rw[List.filter_filter]
 congr 1
 funext t
 unfold Abb
 cases inB t<;>cases decide (t∈b)<;>rfl
abbrev UC:Prop:=∀h x:Hello,hB h->hB x->R [arg (Ck h),arg (Ck x)] [] (.sl 0 1 (JN h x).length (ints (JN h x))) []
theorem Alm {p:Int->Bool} {a l:List Int} {j:Nat} (h:j<l.length):
 a++((l.take (j+1)).filter p).map (fun t=>1000+t)=(a++((l.take j).filter p).map (fun t=>1000+t))++(if p l[j]then [1000+l[j]]else []):=by
 rw[LD h,List.map_append,List.append_assoc]
 split<;>simp
theorem Al1 {p:Int->Bool} {a l:List Int} {j:Nat}:(a++((l.take j).filter p).map (fun t=>1000+t)).length<=a.length+j:=by
 have:=Oa (p:=p) (xs:=l) (j:=j)
 simp only[List.length_append,List.length_map];omega
theorem AiW (hL:AfF (D 223)) (hX:Rj (D 309)) (hI:Vf (D 71)):UC (Body D Nb):=by
 intro h x hh hx
 have hxl:=hx.2.1
 have hhl:=hh.2.1
 have hvl:=hh.1
 simp -implicitDefEqProofs
 refine Aa (hL h.versions x.versions hh.1 hx.1) ?_
 have hal:=PE h.versions x.versions
 have e:JN h x=leftOf h.versions x.versions++((Ba h.exts).filter (Abb (Ba x.exts))).map (fun t=>1000+t):=rfl
 rw[e]
 have hpd:∀t,Abb (Ba x.exts) t=(!decide (t∈Ba x.exts)&&inB t):=fun t=>rfl
 generalize leftOf h.versions x.versions=a at hal
 generalize Abb (Ba x.exts)=p at hpd
 have htl:(Ba h.exts).length=h.exts.length:=QA _
 have hte:∀j (hj:j<h.exts.length),(Ba h.exts)[j]'(by omega)=h.exts[j].tag:=fun j hj=>by simp[Ba]
 obtain⟨l,hl⟩:∃l,l=Ba h.exts:=⟨_,rfl⟩
 rw[<-hl]at htl⊢
 simp -implicitDefEqProofs
 refine Ag (fun k s=>∃j o3 o4,j+k=h.exts.length/\s=⟨[.undef,.undef,.ptr 0 0,.ptr 1 0,.undef,.arr 5,I j,.undef,.undef],[.var ((Ck h).map (AO 1)),.var ((Ck x).map (AO 1)),.free,o3,o4,.arr 1 0 (a++((l.take j).filter p).map (fun t=>1000+t)).length (ints (a++((l.take j).filter p).map (fun t=>1000+t)))]⟩) ?_ (h.exts.length) _ ⟨0,.free,.free,by simp,by simp⟩
 intro k s ⟨j,o3,o4,hj,hs⟩
 subst hs
 by_cases hjn:j<h.exts.length
 ·have hw:=Cv (j:=j) (by omega)
  have hjl:j<l.length:=by omega
  have hlt:l[j]=h.exts[j].tag:=by subst hl;exact hte j hjn
  have hst:=Alm (p:=p) (a:=a) hjl
  have hfl:=Al1 (p:=p) (a:=a) (l:=l) (j:=j)
  have hb1:((a++((l.take j).filter p).map (fun t=>1000+t)).length+1)*8<=1099511627776:=by omega
  have hpt:=hpd l[j]
  rw[hlt]at hst hpt
  generalize a++((l.take j).filter p).map (fun t=>1000+t)=r at hst hfl hb1
  simp -implicitDefEqProofs [hjn]
  refine Aa (hX x.exts h.exts[j].tag (by unfold maxLen;omega)) ?_
  by_cases h1:h.exts[j].tag∈Ba x.exts
  ·have h3:¬p h.exts[j].tag=true:=by rw[hpt];simp[h1]
   have h1':¬K7 x.exts h.exts[j].tag<0:=by rw[LA];simpa using h1
   rw[if_neg h3,List.append_nil]at hst
   simp -implicitDefEqProofs [h1']
   have hsl:=congrArg List.length hst
   simp only[List.length_append,List.length_map]at hsl
   exact⟨k-1,by omega,j+1,by omega,by simp[hw],by omega,by rw[hst]⟩
  have h1':K7 x.exts h.exts[j].tag<0:=by rw[LA];exact h1
  simp -implicitDefEqProofs [h1',hjn]
  refine Aa (hI _ _ _) ?_
  by_cases h2:M6 h.exts[j].tag 0 255
  ·have h3:p h.exts[j].tag=true:=by rw[hpt];simp[h1,inB,h2]
   rw[if_pos h3]at hst
   have hw2:IntKind.i64.wrap (1000+h.exts[j].tag)=1000+h.exts[j].tag:=Ad (by have:=h2.1;omega) (by have:=h2.2;omega)
   simp -implicitDefEqProofs [h2,hjn,hb1,hw2]
   have hsl:=congrArg List.length hst
   simp only[List.length_append,List.length_map,List.length_cons,List.length_nil]at hsl
   exact⟨k-1,by omega,j+1,by omega,by simp[hw],by omega,by rw[hst]⟩
  ·have h3:¬p h.exts[j].tag=true:=by rw[hpt];simp[h1,inB,h2]
   rw[if_neg h3,List.append_nil]at hst
   simp -implicitDefEqProofs [h2]
   have hsl:=congrArg List.length hst
   simp only[List.length_append,List.length_map]at hsl
   exact⟨k-1,by omega,j+1,by omega,by simp[hw],by omega,by rw[hst]⟩
 ·have e2:=N7 (p:=p) (xs:=l) (j:=j) (by omega)
  simp -implicitDefEqProofs [hjn,e2]
theorem AHJ (hL:AfF (D 189)) (hT:UX (D 317)) (hI:Vf (D 114)):UC (Body D AwP):=by
 intro h x hh hx
 have hxl:=hx.2.1
 have hhl:=hh.2.1
 have hvl:=hh.1
 simp -implicitDefEqProofs
 refine Aa (hL h.versions x.versions hh.1 hx.1) ?_
 have hal:=PE h.versions x.versions
 have e:JN h x=leftOf h.versions x.versions++((Ba h.exts).filter (Abb (Ba x.exts))).map (fun t=>1000+t):=rfl
 rw[e,<-AJD]
 generalize leftOf h.versions x.versions=a at hal
 simp -implicitDefEqProofs
 refine Aa (hT h.exts hh.2.1) ?_
 simp -implicitDefEqProofs
 refine Aa (hT x.exts hx.2.1) ?_
 simp -implicitDefEqProofs
 refine Aa (hL (Ba h.exts) (Ba x.exts) (by rw[QA];omega) (by rw[QA];omega)) ?_
 have hll:=PE (Ba h.exts) (Ba x.exts)
 rw[QA]at hll
 generalize leftOf (Ba h.exts) (Ba x.exts)=l at hll
 generalize hpd:inB=p
 simp -implicitDefEqProofs
 refine Ag (fun k s=>∃j v6 o6 o7,j+k=l.length/\s=⟨[.undef,.undef,.undef,.undef,.undef,.arr 8,v6,.arr 5,I l.length,I j,.undef,.undef],[.var ((Ck h).map (AO 1)),.var ((Ck x).map (AO 1)),.free,.arr 1 0 (Ba h.exts).length (ints (Ba h.exts)),.arr 1 0 (Ba x.exts).length (ints (Ba x.exts)),.arr 1 0 l.length (ints l),o6,o7,.arr 1 0 (a++((l.take j).filter p).map (fun t=>1000+t)).length (ints (a++((l.take j).filter p).map (fun t=>1000+t)))]⟩) ?_ (l.length) _ ⟨0,.undef,.free,.free,by simp,by simp⟩
 intro k s ⟨j,v6,o6,o7,hj,hs⟩
 subst hs
 by_cases hjn:j<l.length
 ·have hw:=Cv (j:=j) (by omega)
  have hst:=Alm (p:=p) (a:=a) hjn
  have hfl:=Al1 (p:=p) (a:=a) (l:=l) (j:=j)
  have hb1:((a++((l.take j).filter p).map (fun t=>1000+t)).length+1)*8<=1099511627776:=by omega
  have hpt:p l[j]=inB l[j]:=by rw[hpd]
  generalize a++((l.take j).filter p).map (fun t=>1000+t)=r at hst hfl hb1
  simp -implicitDefEqProofs [hjn]
  refine Aa (hI _ _ _) ?_
  by_cases h2:M6 l[j] 0 255
  ·have h3:p l[j]=true:=by rw[hpt];simp[inB,h2]
   rw[if_pos h3]at hst
   have hw2:IntKind.i64.wrap (1000+l[j])=1000+l[j]:=Ad (by have:=h2.1;omega) (by have:=h2.2;omega)
   simp -implicitDefEqProofs [h2,hjn,hb1,hw2]
   have hsl:=congrArg List.length hst
   simp only[List.length_append,List.length_map,List.length_cons,List.length_nil]at hsl
   exact⟨k-1,by omega,j+1,by omega,by simp[hw],by omega,by rw[hst]⟩
  ·have h3:¬p l[j]=true:=by rw[hpt];simp[inB,h2]
   rw[if_neg h3,List.append_nil]at hst
   simp -implicitDefEqProofs [h2]
   have hsl:=congrArg List.length hst
   simp only[List.length_append,List.length_map]at hsl
   exact⟨k-1,by omega,j+1,by omega,by simp[hw],by omega,by rw[hst]⟩
 ·have e2:=N7 (p:=p) (xs:=l) (j:=j) (by omega)
  simp -implicitDefEqProofs [hjn,e2]
def E9:Aaf:=⟨false,0,[]⟩
def O1 (h seen:Hello) (vs tags:List Int) (key:Int):Aaf:=
 if(Bb vs tags seen).2&&(Fu h (Bb vs tags seen).1&&(!decide (G6 key [Du h,Ci (Bb vs tags seen).1] 1=0)&&
  decide (G6 key [Du h,Ci (Bb vs tags seen).1] 1=G6 key [Du seen,Ci (Bb vs tags seen).1] 1)))
 then⟨true,(Bb vs tags seen).1.version,Ba (Bb vs tags seen).1.exts⟩else E9
theorem Ahx (h:Hello):(Du h).length<=47:=by
 unfold Du
 have:=MW h.exts
 split
 ·rename_i hc
  have:=AgB (Adj hc)
  simp only[List.length_append,List.length_cons];omega
 ·simp
theorem Aml (h:Hello) (a:Nw):GR [Du h,Ci a]<=4194304:=by
 have h1:=Ahx h
 have h2:=YK a
 simp[GR,Cr]
 omega
theorem AhS {vs tags:List Int} {h:Hello} (hh:hB h):OD (Bb vs tags h).1.exts:=by
 unfold Bb
 split
 ·exact QV (QV hh.2 (fun t=>decide (t∈tags))) (fun t=> !BH t)
 ·exact Afg
def Hl (h:Hello) (path:List EG) (vs tags:List Int) (key:Int):Aaf:=if(Bd path h).2=true then O1 h (Bd path h).1 vs tags key else E9
abbrev RY:Prop:=∀(h:Hello) (path:List EG) (vs tags:List Int) (key:Int),hB h->lnS Kh path->vs.length<=4194304->tags.length<=4194304->
 R [arg (Ck h),.sl 1 4 path.length (path.flatMap DT),.sl 1 1 vs.length (ints vs),.sl 1 1 tags.length (ints tags),I key] [] (.agg (AfJ (Hl h path vs tags key))) []
theorem AgV (hP:Jj (D 286)) (hC:Zx (D 303)) (hFi:PY (D 304)) (hHB:MV (D 305)) (hAB:Lb (D 306))
 (hF:ZE (D 307)) (hT:UX (D 308)):RY (Body D LM):=by
 intro h path vs tags key hh hb hv ht
 simp -implicitDefEqProofs
 refine Aa (hP path h hb hh) ?_
 have hr:=QY (path:=path) hh
 unfold Hl
 generalize Bd path h=r at hr
 by_cases g1:r.2=true
 rotate_left
 ·simp -implicitDefEqProofs [g1,E9]
 obtain⟨seen,ok⟩:=r
 obtain rfl:ok=true:=g1
 dsimp only at hr⊢
 simp -implicitDefEqProofs
 refine Aa (hC vs tags seen hv ht hr) ?_
 have ha:=AhS (vs:=vs) (tags:=tags) hr
 unfold O1
 generalize Bb vs tags seen=q at ha
 obtain⟨a,fine⟩:=q
 dsimp only at ha⊢
 by_cases g2:fine=true
 rotate_left
 ·simp -implicitDefEqProofs [g2,E9]
 simp -implicitDefEqProofs [g2]
 refine Aa (hFi h a hh ha) ?_
 by_cases g3:Fu h a=true
 rotate_left
 ·simp -implicitDefEqProofs [g3,E9]
 simp -implicitDefEqProofs [g3]
 refine Aa (hHB h hh) ?_
 simp -implicitDefEqProofs
 refine Aa (hAB a ha) ?_
 simp -implicitDefEqProofs
 have hf:=hF key [Du h,Ci a] 1 (Aml h a)
 simp -implicitDefEqProofs [KZ,I8]at hf
 refine Aa (hf) ?_
 generalize G6 key [Du h,Ci a] 1=m
 by_cases g4:m=0
 ·simp -implicitDefEqProofs [g4,E9]
 simp -implicitDefEqProofs [g4]
 refine Aa (hHB seen hr) ?_
 simp -implicitDefEqProofs [g4]
 refine Aa (hAB a ha) ?_
 simp -implicitDefEqProofs [g4]
 have hf2:=hF key [Du seen,Ci a] 1 (Aml seen a)
 simp -implicitDefEqProofs [KZ,I8]at hf2
 refine Aa (hf2) ?_
 generalize G6 key [Du seen,Ci a] 1=m2
 by_cases g5:m=m2
 rotate_left
 ·simp -implicitDefEqProofs [g4,g5,E9]
 subst g5
 simp -implicitDefEqProofs [g4]
 refine Aa (hT a.exts ha.1) ?_
 simp -implicitDefEqProofs [g4]
abbrev AFu:Prop:=∀(h seen:Hello) (vs tags:List Int) (key:Int),hB h->hB seen->vs.length<=4194304->tags.length<=4194304->
 R [arg (Ck h),arg (Ck seen),.sl 1 1 vs.length (ints vs),.sl 1 1 tags.length (ints tags),I key,.sl 1 2 0 []] [] (.agg (AfJ (O1 h seen vs tags key))) []
theorem AKL (hC:Zx (D 343)) (hFi:PY (D 348)) (hHB:MV (D 345)) (hAB:Lb (D 346))
 (hF:ZE (D 347)) (hK:AxF (D 349)) (hT:UX (D 317)):AFu (Body D AxB):=by
 intro h seen vs tags key hh hr hv ht
 simp -implicitDefEqProofs
 refine Aa (hC vs tags seen hv ht hr) ?_
 have ha:=AhS (vs:=vs) (tags:=tags) hr
 unfold O1
 generalize Bb vs tags seen=q at ha
 obtain⟨a,fine⟩:=q
 dsimp only at ha⊢
 have e:(!decide (G6 key [Du h,Ci a] 1=0)&&decide (G6 key [Du h,Ci a] 1=G6 key [Du seen,Ci a] 1))=
  AvW key [Du h,Ci a] 1 (G6 key [Du seen,Ci a] 1):=by
  unfold AvW
  by_cases e1:G6 key [Du h,Ci a] 1=G6 key [Du seen,Ci a] 1
  ·rw[e1]
  ·have e2:¬G6 key [Du seen,Ci a] 1=G6 key [Du h,Ci a] 1:=fun h=>e1 h.symm
   simp[e1,e2]
 rw[e]
 by_cases g2:fine=true
 rotate_left
 ·simp -implicitDefEqProofs [g2,E9]
 simp -implicitDefEqProofs [g2]
 refine AKl ?_
 simp -implicitDefEqProofs
 refine Aa (hHB seen hr) ?_
 simp -implicitDefEqProofs
 refine Aa (hAB a ha) ?_
 simp -implicitDefEqProofs
 have hf2:=hF key [Du seen,Ci a] 1 (Aml seen a)
 simp -implicitDefEqProofs [KZ,I8]at hf2
 refine Aa (hf2) ?_
 generalize G6 key [Du seen,Ci a] 1=m2
 simp -implicitDefEqProofs
 refine Aa (hFi h a hh ha) ?_
 by_cases g3:Fu h a=true
 rotate_left
 ·simp -implicitDefEqProofs [g3,E9]
 simp -implicitDefEqProofs [g3]
 refine Aa (hHB h hh) ?_
 simp -implicitDefEqProofs
 refine Aa (hAB a ha) ?_
 simp -implicitDefEqProofs
 have hk:=hK key [Du h,Ci a] 1 m2 (Aml h a)
 simp -implicitDefEqProofs [KZ,I8]at hk
 refine Aa (hk) ?_
 generalize AvW key [Du h,Ci a] 1 m2=c
 by_cases g5:c=true
 rotate_left
 ·simp -implicitDefEqProofs [g5,E9]
 simp -implicitDefEqProofs [g5]
 refine Aa (hT a.exts ha.1) ?_
 simp -implicitDefEqProofs
theorem AGS (hP:Jj (D 274)) (hD:AFu (D 316)):RY (Body D Awl):=by
 intro h path vs tags key hh hb hv ht
 simp -implicitDefEqProofs
 refine Aa (hP path h hb hh) ?_
 have hr:=QY (path:=path) hh
 unfold Hl
 generalize Bd path h=r at hr
 by_cases g1:r.2=true
 rotate_left
 ·simp -implicitDefEqProofs [g1,E9]
 simp -implicitDefEqProofs [g1]
 refine Aa (hD h r.1 vs tags key hh hr hv ht) ?_
 simp -implicitDefEqProofs
def Xh (h:Hello) (path:List EG) (vs tags:List Int) (key:Int):BP:=
 if(Bg h path).2.2=true then⟨Hl (Bg h path).1 path vs tags key,(Bg h path).2.1,JN h (Bg h path).1⟩else⟨E9,(Bg h path).2.1,[]⟩
abbrev AfC:Prop:=∀(h:Hello) (path:List EG) (vs tags:List Int) (key:Int),hB h->lnS Kh path->vs.length<=4194304->tags.length<=4194304->
 R [arg (Ck h),.sl 1 4 path.length (path.flatMap DT),.sl 1 1 vs.length (ints vs),.sl 1 1 tags.length (ints tags),I key] [] (.agg (AB (Xh h path vs tags key))) []
theorem AoD (hH:Rs (D 280)) (hO:RY (D 281)) (hG:UC (D 282)):AfC (Body D TQ):=by
 intro h path vs tags key hh hb hv ht
 simp -implicitDefEqProofs
 refine Aa (hH h path hh hb) ?_
 have hr:=An3 (path:=path) hh
 unfold Xh
 generalize Bg h path=r at hr
 obtain⟨x,n,ok⟩:=r
 dsimp only at hr⊢
 by_cases g1:ok=true
 rotate_left
 ·simp -implicitDefEqProofs [g1,E9]
 simp -implicitDefEqProofs [g1]
 refine Aa (hO x path vs tags key hr hb hv ht) ?_
 simp -implicitDefEqProofs
 refine Aa (hG h x hh hr) ?_
 simp -implicitDefEqProofs [g1]
theorem AKF (hH:Rs (D 287)) (hO:RY (D 288)) (hG:UC (D 289)):AfC (Body D Azx):=by
 intro h path vs tags key hh hb hv ht
 simp -implicitDefEqProofs
 refine Aa (hH h path hh hb) ?_
 have hr:=An3 (path:=path) hh
 unfold Xh
 generalize Bg h path=r at hr
 obtain⟨x,n,ok⟩:=r
 dsimp only at hr⊢
 by_cases g1:ok=true
 rotate_left
 ·simp -implicitDefEqProofs [g1,E9]
 simp -implicitDefEqProofs [g1]
 refine Aa (hO x path vs tags key hr hb hv ht) ?_
 simp -implicitDefEqProofs
 refine Aa (hG h x hh hr) ?_
 simp -implicitDefEqProofs [g1]
set_option maxHeartbeats 1000000
theorem AfD {l:List Ext} {k:Nat} (h:k<=l.length):part (GL (l.flatMap Cc) 2 0 k) 2 k (l.length-k)=(l.drop k).flatMap Cc:=by
 have h0:(l.flatMap Cc).length=l.length*2:=LF l
 have e1:l.flatMap Cc=(l.take k).flatMap Cc++(l.drop k).flatMap Cc:=by rw[<-List.flatMap_append,List.take_append_drop]
 have h1:((l.take k).flatMap Cc).length=k*2:=by rw[LF];simp;omega
 have h2:((l.drop k).flatMap Cc).length=(l.length-k)*2:=by rw[LF];simp
 unfold part GL
 rw[e1]
 simp only[Nat.zero_mul,List.take_zero,List.nil_append,Nat.zero_add]
 rw[List.drop_left' h1,List.drop_left' (by simp),List.take_of_length_le (by omega)]
theorem Akd {l:List Ext} {k:Nat} (h:k<=l.length):part (l.flatMap Cc) 2 0 k=(l.take k).flatMap Cc:=by
 have e1:l.flatMap Cc=(l.take k).flatMap Cc++(l.drop k).flatMap Cc:=by rw[<-List.flatMap_append,List.take_append_drop]
 have h1:((l.take k).flatMap Cc).length=k*2:=by rw[LF];simp;omega
 unfold part
 rw[e1,Nat.zero_mul,List.drop_zero,List.take_left' h1]
def Ag6 (seed:Int):List Int:=List.replicate (pick seed 2 3).toNat (pick seed 3 256)
def AiL (l:List Ext) (seed:Int):Nat:=(pick seed 1 (l.length+1)).toNat
def Ew (l:List Ext) (seed:Int):List Ext:=
 if Ej l&&(decide (l.length<6)&& !decide (Oh seed∈Ba l))then l.take (AiL l seed)++⟨Oh seed,Ag6 seed⟩::l.drop (AiL l seed)else l
theorem AoS (l:List Ext) (seed:Int) (h:l.length<=6):AiL l seed<=l.length:=by
 have:=UK seed 1 (n:=l.length+1) ⟨by omega,by omega⟩
 unfold AiL;omega
theorem AhF (seed:Int):(Ag6 seed).length<=2:=by
 have:=UK seed 2 (n:=3) ⟨by omega,by omega⟩
 unfold Ag6;simp;omega
abbrev O8:Prop:=∀(l:List Ext) (seed:Int),OD l->R [.sl 1 2 l.length (l.flatMap Cc),I seed] [] (.sl 0 2 (Ew l seed).length ((Ew l seed).flatMap Cc)) []
theorem Ad4 (hG:O4 (D 310)) (hC:U5 (D 311)) (hA:JX (D 312)) (hX:Rj (D 309)) (hP:Ahf (D 313)):O8 (Body D KR):=by
 intro l seed hl
 have hll:=hl.1
 simp -implicitDefEqProofs
 refine Aa (hG seed) ?_
 obtain⟨t,ht⟩:∃t,t=Oh seed:=⟨_,rfl⟩
 rw[<-ht]
 simp -implicitDefEqProofs
 refine Aa (hC l hl) ?_
 simp -implicitDefEqProofs
 refine Aa (hA l hl) ?_
 by_cases h1:Ej l=true
 rotate_left
 ·simp -implicitDefEqProofs [h1,Ew]
 by_cases h2:l.length<6
 rotate_left
 ·have h2':(6:Int)<=l.length:=by omega
  simp -implicitDefEqProofs [h1,h2,h2',Ew]
 have h2':¬(6:Int)<=l.length:=by omega
 simp -implicitDefEqProofs [h1,h2']
 refine Aa (hX l t (by unfold maxLen;omega)) ?_
 by_cases h3:t∈Ba l
 ·have h3':0<=K7 l t:=by
   by_cases h:K7 l t<0
   ·rw[LA]at h;exact absurd h3 h
   ·omega
  simp -implicitDefEqProofs [h1,h2,h3',h3,Ew,<-ht]
 have h3':¬0<=K7 l t:=by
  have:K7 l t<0:=by rw[LA];exact h3
  omega
 have e:Ew l seed=l.take (AiL l seed)++⟨t,Ag6 seed⟩::l.drop (AiL l seed):=by
  unfold Ew
  rw[if_pos]
  ·rw[ht]
  ·simp[h1,h2,<-ht,h3]
 have hgp:=AoS l seed (by omega)
 have hgb:=AhF seed
 rw[e]
 simp -implicitDefEqProofs [h3']
 refine Aa (hP seed 2 3) ?_
 have hp2:=UK seed 2 (n:=3) ⟨by omega,by omega⟩
 have eb:Ag6 seed=List.replicate (pick seed 2 3).toNat (pick seed 3 256):=rfl
 obtain⟨n,hn⟩:∃n:Nat,pick seed 2 3=n:=⟨(pick seed 2 3).toNat,by omega⟩
 rw[hn]at eb hp2⊢
 rw[Int.toNat_natCast]at eb
 rw[eb]at hgb⊢
 generalize hv:pick seed 3 256=v at *
 simp -implicitDefEqProofs
 refine Ag (fun k s=>∃j o2 o3,j+k=n/\s=⟨[.sl 1 2 l.length (l.flatMap Cc),I seed,.undef,.undef,.arr 0,.ptr 1 0,I k,.undef,.undef,.undef],[.arr 2 0 l.length (l.flatMap Cc),.var [I t,.arr 9],o2,o3,.free,.free,.free,.free,.free,.arr 1 0 j (ints (List.replicate j v))]⟩) ?_ (n) _ ⟨0,.free,.free,by simp,by simp[ints]⟩
 intro k s ⟨j,o2,o3,hj,hs⟩
 subst hs
 by_cases hjn:j<n
 ·have hk0:0<k:=by omega
  have hb1:(j+1)*8<=1099511627776:=by omega
  have hwk:IntKind.i64.wrap ((k:Int)-1)=(k-1:Nat):=by rw[Ad (by omega) (by omega)];omega
  simp -implicitDefEqProofs [hk0]
  refine Aa (hP seed 3 256) ?_
  rw[hv]
  simp -implicitDefEqProofs [hb1]
  exact⟨k-1,by omega,j+1,by omega,by simp[hwk],by simp[ints,List.replicate_succ']⟩
 have hk0:k=0:=by omega
 obtain rfl:j=n:=by omega
 subst hk0
 have hwl:IntKind.i64.wrap ((l.length:Int)+1)=(l.length:Int)+1:=Ad (by omega) (by omega)
 simp -implicitDefEqProofs [hwl]
 refine Aa (hP seed 1 (l.length+1)) ?_
 have hp1:=UK seed 1 (n:=(l.length:Int)+1) ⟨by omega,by omega⟩
 have eg:AiL l seed=(pick seed 1 (l.length+1)).toNat:=rfl
 generalize pick seed 1 (l.length+1)=k1 at hp1 eg
 obtain⟨kk,rfl⟩:∃kk:Nat,k1=kk:=⟨k1.toNat,by omega⟩
 rw[Int.toNat_natCast]at eg
 rw[eg]at hgp⊢
 have hk1:(kk:Int)<=l.length:=by omega
 have hb2:kk*32<=1099511627776:=by omega
 have hb3:(kk+1)*32<=1099511627776:=by omega
 have hb4:(kk+1+(l.length-kk))*32<=1099511627776:=by omega
 simp -implicitDefEqProofs [hk1,hgp,hb2,hb3,hb4,AfD hgp,Akd hgp]
 all_goals omega
theorem Aig {l:List Ext} (hl:OD l) (h6:l.length<=4194303) (seed:Int):OD (Ew l seed):=by
 unfold Ew
 split
 ·refine⟨?_,?_⟩
  ·simp;omega
  ·intro x hx
   rcases List.mem_append.1 hx with h | h
   ·exact hl.2 x (List.mem_of_mem_take h)
   ·rcases List.mem_cons.1 h with h | h
    ·subst h;have:=AhF seed;dsimp only;omega
    ·exact hl.2 x (List.mem_of_mem_drop h)
 ·exact hl
def bare (ts:List Int):List Ext:=ts.map fun t=>⟨t,[]⟩
theorem Om (ts:List Int):(bare ts).length=ts.length:=by simp[bare]
theorem Af4 {ts:List Int} (h:ts.length<=4194304):OD (bare ts):=⟨by rw[Om];exact h,fun x hx=>by
 obtain⟨t,_,rfl⟩:=List.mem_map.1 hx;simp⟩
theorem Aly {ts:List Int} {j:Nat} (h:j<ts.length):(bare (ts.take j)).flatMap Cc++ [.sc (.int .i64 ts[j]),.sl 0 1 0 []]=(bare (ts.take (j+1))).flatMap Cc:=by
 have e:ts.take (j+1)=ts.take j++ [ts[j]]:=by simp
 rw[e]
 unfold bare
 rw[List.map_append,List.flatMap_append]
 rfl
def Ho (e:Ai) (seed:Int):Hello:=if Au e=true then⟨e.versions,Ew (bare e.tags) seed⟩else AU
abbrev U7:Prop:=∀(e:Ai) (seed:Int),Am e<=4194304->R [arg (Ah e),I seed] [] (.agg (Ck (Ho e seed))) []
theorem Uh {e:Ai} (h:Au e=true):e.tags.length<=5:=by
 unfold Au at h
 simp only[Bool.and_eq_true,decide_eq_true_eq]at h
 exact h.2.1
theorem Air {e:Ai} (hsz:Am e<=4194304) (seed:Int):hB (Ho e seed):=by
 unfold Ho
 split
 ·rename_i h
  have:=Uh h
  exact⟨Adq hsz,Aig (Af4 (by omega)) (by rw[Om];omega) seed⟩
 ·exact Aba
theorem AhY (hE:Ij (D 207)) (hG:O8 (D 283)):U7 (Body D NF):=by
 intro e seed hsz
 have hl:=AhO hsz
 have hv:=Adq hsz
 simp -implicitDefEqProofs
 refine Aa (hE e hl) ?_
 by_cases h1:Au e=true
 rotate_left
 ·simp -implicitDefEqProofs [h1,Ho,AU]
 have h5:=Uh h1
 have he:Ho e seed=⟨e.versions,Ew (bare e.tags) seed⟩:=by unfold Ho;rw[if_pos h1]
 rw[he]
 have hb2:e.versions.length*8<=1099511627776:=by omega
 simp -implicitDefEqProofs [h1]
 refine Ag (fun k s=>∃j o3 o4,j+k=e.tags.length/\s=⟨[.undef,I seed,.ptr 0 0,.ptr 1 0,.arr 8,I j,.undef,.undef],[.var ((Ah e).map (AO 1)),.var [.nil 1,.nil 2],.free,o3,o4,.free,.free,.free,.arr 2 0 j ((bare (e.tags.take j)).flatMap Cc)]⟩) ?_ (e.tags.length) _ ⟨0,.free,.free,by simp,by simp[bare]⟩
 intro k s ⟨j,o3,o4,hj,hs⟩
 subst hs
 by_cases hjn:j<e.tags.length
 ·have hw:=Cv (j:=j) (by omega)
  have hst:=Aly hjn
  have hb1:(j+1)*32<=1099511627776:=by omega
  have hlen:(bare (e.tags.take j)).length=j:=by rw[Om];simp;omega
  have hlen2:(bare (e.tags.take (j+1))).length=j+1:=by rw[Om];simp;omega
  simp -implicitDefEqProofs [hjn,hb1]
  exact⟨k-1,by omega,j+1,by omega,by simp[hw],by rw[<-hst];exact⟨rfl,rfl⟩⟩
 have e2:e.tags.take j=e.tags:=List.take_of_length_le (by omega)
 obtain rfl:j=e.tags.length:=by omega
 simp -implicitDefEqProofs [hjn,e2,hb2]
 have hq:=hG (bare e.tags) seed (Af4 (by omega))
 rw[Om]at hq
 refine Aa (hq) ?_
 simp -implicitDefEqProofs
theorem AH6 (hE:Ij (D 239)) (hG:O8 (D 290)):U7 (Body D Aw2):=by
 intro e seed hsz
 have hl:=AhO hsz
 have hv:=Adq hsz
 simp -implicitDefEqProofs
 refine Aa (hE e hl) ?_
 by_cases h1:Au e=true
 rotate_left
 ·simp -implicitDefEqProofs [h1,Ho,AU]
 have h5:=Uh h1
 have he:Ho e seed=⟨e.versions,Ew (bare e.tags) seed⟩:=by unfold Ho;rw[if_pos h1]
 rw[he]
 have hb2:e.versions.length*8<=1099511627776:=by omega
 simp -implicitDefEqProofs [h1]
 refine Ag (fun k s=>∃j o3 o4,j+k=e.tags.length/\s=⟨[.undef,I seed,.ptr 0 0,.ptr 1 0,.arr 8,.undef,.undef,.sl 1 1 e.tags.length (ints e.tags),I e.tags.length,I j,.undef],[.var ((Ah e).map (AO 1)),.var [.nil 1,.nil 2],.free,o3,o4,.free,.free,.free,.arr 2 0 j ((bare (e.tags.take j)).flatMap Cc)]⟩) ?_ (e.tags.length) _ ⟨0,.free,.free,by simp,by simp[bare]⟩
 intro k s ⟨j,o3,o4,hj,hs⟩
 subst hs
 by_cases hjn:j<e.tags.length
 ·have hw:=Cv (j:=j) (by omega)
  have hst:=Aly hjn
  have hb1:(j+1)*32<=1099511627776:=by omega
  have hlen:(bare (e.tags.take j)).length=j:=by rw[Om];simp;omega
  have hlen2:(bare (e.tags.take (j+1))).length=j+1:=by rw[Om];simp;omega
  simp -implicitDefEqProofs [hjn,hb1]
  exact⟨k-1,by omega,j+1,by omega,by simp[hw],by rw[<-hst];exact⟨rfl,rfl⟩⟩
 have e2:e.tags.take j=e.tags:=List.take_of_length_le (by omega)
 obtain rfl:j=e.tags.length:=by omega
 simp -implicitDefEqProofs [hjn,e2,hb2]
 have hq:=hG (bare e.tags) seed (Af4 (by omega))
 rw[Om]at hq
 refine Aa (hq) ?_
 simp -implicitDefEqProofs
def Md:BP:=⟨E9,0,[]⟩
def MO (e:Ai) (vs tags:List Int) (key seed:Int):BP:=if Au e=true then Xh (Ho e seed) e.path vs tags key else Md
abbrev Uj:Prop:=∀(e:Ai) (vs tags:List Int) (key seed:Int),Am e<=4194304->vs.length<=4194304->tags.length<=4194304->
 R [arg (Ah e),.sl 1 1 vs.length (ints vs),.sl 1 1 tags.length (ints tags),I key,I seed] [] (.agg (AB (MO e vs tags key seed))) []
theorem AiM (hE:Ij (D 207)) (hH:U7 (D 251)) (hD:AfC (D 252)):Uj (Body D NH):=by
 intro e vs tags key seed hsz hv ht
 have hl:=AhO hsz
 simp -implicitDefEqProofs
 refine Aa (hE e hl) ?_
 by_cases h1:Au e=true
 rotate_left
 ·simp -implicitDefEqProofs [h1,MO,Md,E9]
 simp -implicitDefEqProofs [h1]
 refine Aa (hH e seed hsz) ?_
 have hh:=Air hsz seed
 have he:MO e vs tags key seed=Xh (Ho e seed) e.path vs tags key:=by unfold MO;rw[if_pos h1]
 rw[he]
 generalize Ho e seed=h at hh
 simp -implicitDefEqProofs
 refine Aa (hD h e.path vs tags key hh hl.2.2 hv ht) ?_
 simp -implicitDefEqProofs
theorem AIb (hE:Ij (D 239)) (hH:U7 (D 261)) (hD:AfC (D 262)):Uj (Body D AwE):=by
 intro e vs tags key seed hsz hv ht
 have hl:=AhO hsz
 simp -implicitDefEqProofs
 refine Aa (hE e hl) ?_
 by_cases h1:Au e=true
 rotate_left
 ·simp -implicitDefEqProofs [h1,MO,Md,E9]
 simp -implicitDefEqProofs [h1]
 refine Aa (hH e seed hsz) ?_
 have hh:=Air hsz seed
 have he:MO e vs tags key seed=Xh (Ho e seed) e.path vs tags key:=by unfold MO;rw[if_pos h1]
 rw[he]
 generalize Ho e seed=h at hh
 simp -implicitDefEqProofs
 refine Aa (hD h e.path vs tags key hh hl.2.2 hv ht) ?_
 simp -implicitDefEqProofs
def clip (n:Int):Int:=max (-100000) (min 100000 n)
abbrev AjP:Prop:=∀n:Int,R [I n] [] (I (clip n)) []
theorem Akx (hM:Afz (D 215)) (hN:Ajq (D 253)):AjP (Body D Ny):=by
 intro n
 simp -implicitDefEqProofs
 refine Aa (hN _ _) ?_
 simp -implicitDefEqProofs
 refine Aa (hM _ _) ?_
 simp -implicitDefEqProofs [clip]
def KI (w:World) (i:Int):BP:=if NJ i 0 ((w.ends.length:Int)-1)then(match w.ends[i.toNat]? with | some e=>MO e w.server w.tags w.key (16*clip w.now+i) | none=>Md)else Md
abbrev ZL:Prop:=∀(w:World) (i:Int),Af w<=4194304->R [arg (Bu w),I i] [] (.agg (AB (KI w i))) []
theorem An9 (n:Int):-100000<=clip n/\clip n<=100000:=by unfold clip;omega
theorem Akz (hI:Vf (D 71)) (hC:AjP (D 212)) (hB:Uj (D 213)):ZL (Body D OE):=by
 intro w i hsz
 have he:=FE hsz
 have hw:IntKind.i64.wrap ((w.ends.length:Int)-1)=(w.ends.length:Int)-1:=Ad (by omega) (by omega)
 simp -implicitDefEqProofs [hw]
 refine Aa (hI _ _ _) ?_
 by_cases h1:NJ i 0 ((w.ends.length:Int)-1)
 rotate_left
 ·simp -implicitDefEqProofs [h1,KI,Md,E9]
 obtain⟨n,rfl⟩:∃n:Nat,i=n:=⟨i.toNat,by have:=h1.1;omega⟩
 have hn:n<w.ends.length:=by have:=h1.2;omega
 have hb:=Od hsz
 have hes:=AdH hsz hn
 have e:KI w n=MO w.ends[n] w.server w.tags w.key (16*clip w.now+n):=by unfold KI;rw[if_pos h1];simp[hn]
 rw[e]
 simp -implicitDefEqProofs [h1,hn]
 refine Aa (hC w.now) ?_
 have hcl:=An9 w.now
 generalize clip w.now=c at hcl
 have hw1:IntKind.i64.wrap (16*c)=16*c:=Ad (by omega) (by omega)
 have hw2:IntKind.i64.wrap (16*c+n)=16*c+n:=Ad (by omega) (by omega)
 simp -implicitDefEqProofs [hw1,hw2]
 refine Aa (hB w.ends[n] w.server w.tags w.key _ hes hb.1 hb.2.1) ?_
 simp -implicitDefEqProofs
theorem AJE (hI:Au5 (D 117)) (hB:Uj (D 227)):ZL (Body D AxC):=by
 intro w i hsz
 have he:=FE hsz
 simp -implicitDefEqProofs
 refine Aa (hI w i he) ?_
 by_cases h1:NJ i 0 ((w.ends.length:Int)-1)
 rotate_left
 ·simp -implicitDefEqProofs [h1,KI,Md,E9]
 obtain⟨n,rfl⟩:∃n:Nat,i=n:=⟨i.toNat,by have:=h1.1;omega⟩
 have hn:n<w.ends.length:=by have:=h1.2;omega
 have hb:=Od hsz
 have hes:=AdH hsz hn
 have e:KI w n=MO w.ends[n] w.server w.tags w.key (16*clip w.now+n):=by unfold KI;rw[if_pos h1];simp[hn]
 rw[e]
 simp -implicitDefEqProofs [h1,hn]
 have hc:(if(if 100000<w.now then 100000 else w.now)< -100000 then -100000 else if 100000<w.now then 100000 else w.now)=clip w.now:=by
  unfold clip
  split<;>split<;>omega
 rw[hc]
 have hcl:=An9 w.now
 generalize clip w.now=c at hcl
 have hw1:IntKind.i64.wrap (16*c)=16*c:=Ad (by omega) (by omega)
 have hw2:IntKind.i64.wrap (16*c+n)=16*c+n:=Ad (by omega) (by omega)
 rw[hw1,hw2]
 refine Aa (hB w.ends[n] w.server w.tags w.key _ hes hb.1 hb.2.1) ?_
 simp -implicitDefEqProofs
end Go.Eng.T
