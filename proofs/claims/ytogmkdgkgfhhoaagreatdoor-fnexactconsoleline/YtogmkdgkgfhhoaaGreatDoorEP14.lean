/- Own work: part 14 of the proof of FnExactConsoleLine. -/
import Derived.Test.YtogmkdgkgfhhoaaGreatDoorEEngAL
import Derived.Test.YtogmkdgkgfhhoaaGreatDoorEP11
import Derived.Test.YtogmkdgkgfhhoaaGreatDoorEP12
import Derived.Test.YtogmkdgkgfhhoaaGreatDoorEP13
set_option linter.unusedSimpArgs false
set_option linter.unusedVariables false
namespace Go.Eng.T
open Go.Lib
set_option maxRecDepth 20000
set_option maxHeartbeats 2000000
theorem APP (a b c:Int):Hf [a,b,c] [32]=itoa a++32::(itoa b++32::itoa c):=by
 unfold Hf
 simp[join_cons,joinTail]
def VE (w:World):List UInt8:=itoa w.now++ [32]++Hf w.server [44]++ [32]++FD w.rollout++ [32]++Hf [(w.ends.length:Int),(w.log.length:Int),w.hurt] [32]
abbrev K9 (R:Rel):Prop:=∀w:World,w.server.length<=4194304->DK w.server->w.rollout.stages.length<=4194304->Py w.rollout.version->DK w.rollout.stages->Py w.rollout.pos->w.ends.length<=4194304->w.log.length<=4194304->Py w.now->Py w.hurt->R [arg (Bu w)] [] (Sb (VE w)) []
theorem ANV (D:Dn) (hF:EB (D 93)) (hJ:MJ (D 154)) (hR:Gy (D 160)):K9 (Body D AJw):=by
 intro w hs hrs hst hv hrst hp he hlg hn hh
 have n1:Py (w.ends.length:Int):=by unfold Py;omega
 have n2:Py (w.log.length:Int):=by unfold Py;omega
 have l1:=E5 hn
 have l2:=F9 (sep:=[44]) hrs (by simp)
 have l3:=QZ hv hrst hp
 have l4:=E5 n1
 have l5:=E5 n2
 have l6:=E5 hh
 simp -implicitDefEqProofs
 refine Aa (hF w.now hn) ?_
 simp -implicitDefEqProofs (disch:=first | omega | simp) [ifS,ifL]
 refine Aa (hJ w.server [44] hs hrs (by simp)) ?_
 simp -implicitDefEqProofs (disch:=first | omega | simp) [ifS,ifL]
 refine Aa (hR w.rollout hst hv hrst hp) ?_
 simp -implicitDefEqProofs (disch:=first | omega | simp) [ifS,ifL]
 refine Aa (hF (w.ends.length:Int) n1) ?_
 simp -implicitDefEqProofs (disch:=first | omega | simp) [ifS,ifL]
 refine Aa (hF (w.log.length:Int) n2) ?_
 simp -implicitDefEqProofs (disch:=first | omega | simp) [ifS,ifL]
 refine Aa (hF w.hurt hh) ?_
 simp -implicitDefEqProofs (disch:=first | omega | simp) [ifS,ifL,VE,APP]
theorem Abo (D:Dn) (hF:EB (D 120)) (hJ:MJ (D 187)) (hR:Gy (D 199)):K9 (Body D IA):=by
 intro w hs hrs hst hv hrst hp he hlg hn hh
 have n1:Py (w.ends.length:Int):=by unfold Py;omega
 have n2:Py (w.log.length:Int):=by unfold Py;omega
 have n3:DK [(w.ends.length:Int),(w.log.length:Int),w.hurt]:=by
  intro x hx
  simp only[List.mem_cons,List.not_mem_nil,or_false]at hx
  rcases hx with rfl | rfl | rfl
  ·exact n1
  ·exact n2
  ·exact hh
 have l1:=E5 hn
 have l2:=F9 (sep:=[44]) hrs (by simp)
 have l3:=QZ hv hrst hp
 have l4:=E5 n1
 have l5:=E5 n2
 have l6:=E5 hh
 have hj:=hJ [(w.ends.length:Int),(w.log.length:Int),w.hurt] [32] (by simp) n3 (by simp)
 have l7:=F9 (sep:=[32]) n3 (by simp)
 generalize hjj:Hf [(w.ends.length:Int),(w.log.length:Int),w.hurt] [32]=jj at hj l7
 simp at l7
 simp -implicitDefEqProofs
 refine Aa (hF w.now hn) ?_
 simp -implicitDefEqProofs (disch:=first | omega | simp) [ifS,ifL]
 refine Aa (hJ w.server [44] hs hrs (by simp)) ?_
 simp -implicitDefEqProofs (disch:=first | omega | simp) [ifS,ifL]
 refine Aa (hR w.rollout hst hv hrst hp) ?_
 simp -implicitDefEqProofs (disch:=first | omega | simp) [ifS,ifL]
 refine Aa hj ?_
 simp -implicitDefEqProofs (disch:=first | omega | simp) [ifS,ifL,VE,hjj]
end Go.Eng.T
namespace Go.Eng.T
set_option maxRecDepth 20000
variable (R:Rel)
abbrev Je:Prop:=∀r:AX,Db r<=4194304->R [arg (Dj r)] [] (.agg (Dj r)) []
variable (D:Dn)
theorem Alw:Je (Body D NA):=by
 intro r h
 have hb:r.stages.length*8<=1099511627776:=by unfold Db at h;omega
 simp -implicitDefEqProofs [hb]
theorem AEp:Je (Body D Aui):=by
 intro r h
 have hb:r.stages.length*8<=1099511627776:=by unfold Db at h;omega
 simp -implicitDefEqProofs [hb]
abbrev NY:Prop:=∀d:BP,Cb d<=4194304->R [arg (AB d)] [] (.agg (AB d)) []
theorem Af8:NY (Body D KY):=by
 intro d h
 unfold Cb ND at h
 have h1:d.deal.tags.length*8<=1099511627776:=by omega
 have h2:d.up.length*8<=1099511627776:=by omega
 simp -implicitDefEqProofs [h1,h2]
theorem AGn:NY (Body D AuL):=by
 intro d h
 unfold Cb ND at h
 have h1:d.deal.tags.length*8<=1099511627776:=by omega
 have h2:d.up.length*8<=1099511627776:=by omega
 simp -implicitDefEqProofs [h1,h2]
theorem R3 {α:Type} {f:α->List V} {xs:List α} {j:Nat} (h:j<xs.length):(xs.take j).flatMap f++f xs[j]=(xs.take (j+1)).flatMap f:=by
 have e:xs.take (j+1)=xs.take j++ [xs[j]]:=by simp
 rw[e,List.flatMap_append];simp
abbrev AAf:Prop:=∀xs:List EG,Cr Gm xs<=4194304->R [.sl 1 4 xs.length (xs.flatMap DT)] [] (.sl 0 4 xs.length (xs.flatMap DT)) []
theorem AHH:AAf (Body D Awh):=by
 intro xs h
 have hlen:=J9 (f:=Gm) (xs:=xs)
 simp -implicitDefEqProofs
 refine Ag (fun k s=>∃j o1 o2 o3 o4 o5 o6 o7,j+k=xs.length/\s=⟨[.undef,.undef,.arr 8,.undef,.sl 1 4 xs.length (xs.flatMap DT),.sc (.int .i64 xs.length),.sc (.int .i64 j),.undef],[.free,o1,o2,o3,o4,o5,o6,o7,.arr 4 0 j ((xs.take j).flatMap DT)]⟩) ?_ xs.length _ ⟨0,.free,.free,.free,.free,.free,.free,.free,by simp,by simp⟩
 intro k s ⟨j,o1,o2,o3,o4,o5,o6,o7,hj,hs⟩
 subst hs
 by_cases hjn:j<xs.length
 ·have hw:=Cv (j:=j) (by omega)
  have hsz:=size_at (f:=Gm) hjn
  have e:Gm xs[j]=xs[j].drops.length+xs[j].strips.length:=rfl
  have h1:xs[j].drops.length*8<=1099511627776:=by omega
  have h2:xs[j].strips.length*8<=1099511627776:=by omega
  have h3:(j+1)*64<=1099511627776:=by omega
  have hst:=R3 (f:=DT) hjn
  simp -implicitDefEqProofs [hjn,h1,h2,h3]
  exact⟨k-1,by omega,j+1,by omega,by simp[hw],rfl,by rw[<-hst];rfl⟩
 ·obtain rfl:j=xs.length:=by omega
  simp -implicitDefEqProofs
abbrev MF:Prop:=∀x:Ai,Am x<=4194304->R [arg (Ah x)] [] (.agg (Ah x)) []
theorem ADP (hP:AAf (D 172)):MF (Body D AtZ):=by
 intro x h
 unfold Am at h
 have h1:x.versions.length*8<=1099511627776:=by omega
 have h2:x.tags.length*8<=1099511627776:=by omega
 simp -implicitDefEqProofs [h1,h2]
 refine Aa (hP x.path (by omega)) ?_
 simp -implicitDefEqProofs
theorem Anh:MF (Body D OM):=by
 intro x h
 unfold Am at h
 have h1:x.versions.length*8<=1099511627776:=by omega
 have h2:x.tags.length*8<=1099511627776:=by omega
 have hlen:=J9 (f:=Gm) (xs:=x.path)
 simp -implicitDefEqProofs [h1,h2]
 refine Ag (fun k s=>∃j o7 o8 o9 o10 o11 o12 o13,j+k=x.path.length/\s=⟨[.undef,.ptr 0 0,.ptr 1 0,.ptr 6 0,.sc (.int .i64 j),.undef,.undef],[.var ((Ah x).map (AO 1)),.var [.nil 1,.nil 1,.nil 4,.sc (.int .i64 0)],.dead,.arr 1 0 x.versions.length (ints x.versions),.dead,.arr 1 0 x.tags.length (ints x.tags),.var [.arr 3,.arr 5,.arr 14,.sc (.int .i64 x.cls)],o7,o8,o9,o10,o11,o12,o13,.arr 4 0 j ((x.path.take j).flatMap DT)]⟩) ?_ x.path.length _ ⟨0,.free,.free,.free,.free,.free,.free,.free,by simp,by simp⟩
 intro k s ⟨j,o7,o8,o9,o10,o11,o12,o13,hj,hs⟩
 subst hs
 by_cases hjn:j<x.path.length
 ·have hw:=Cv (j:=j) (by omega)
  have hsz:=size_at (f:=Gm) hjn
  have e:Gm x.path[j]=x.path[j].drops.length+x.path[j].strips.length:=rfl
  have h1:x.path[j].drops.length*8<=1099511627776:=by omega
  have h2:x.path[j].strips.length*8<=1099511627776:=by omega
  have h3:(j+1)*64<=1099511627776:=by omega
  have hst:=R3 (f:=DT) hjn
  simp -implicitDefEqProofs [hjn,h1,h2,h3]
  exact⟨k-1,by omega,j+1,by omega,by simp[hw],rfl,by rw[<-hst];rfl⟩
 ·obtain rfl:j=x.path.length:=by omega
  simp -implicitDefEqProofs
theorem XH {w:World} (h:Af w<=4194304):Db w.rollout<=4194304:=by unfold Af at h;omega
theorem Od {w:World} (h:Af w<=4194304):w.server.length<=4194304/\w.tags.length<=4194304/\Cr Am w.ends<=4194304/\Cr Cb w.stage<=4194304/\Cr Ip w.log<=4194304:=by unfold Af at h;omega
abbrev EF:Prop:=∀w:World,Af w<=4194304->R [arg (Bu w)] [] (.agg (Bu w)) []
theorem Aka (hE:MF (D 65)) (hR:Je (D 66)) (hD:NY (D 67)):EF (Body D Na):=by
 intro w h
 have hl:=Akl h
 have he:=FE h
 have hs:=XY h
 have hr:=XH h
 have z:=Od h
 have b1:w.server.length*8<=1099511627776:=by omega
 have b2:w.tags.length*8<=1099511627776:=by omega
 simp -implicitDefEqProofs [b1,b2]
 refine Ag (fun k s=>∃j o8 o9 o10 o11 o12,j+k=w.ends.length/\s=⟨[.undef,.ptr 0 0,.ptr 1 0,.ptr 2 0,.sc (.int .i64 j),.undef,.undef,.undef,.undef,.undef],[.var ((Bu w).map (AO 1)),.var [.nil 1,.nil 1,.sc (.int .i64 0),.nil 4,.sc (.int .i64 0),.nil 1,.sc (.int .i64 0),.sc (.bool false),.sc (.int .i64 0),.sc (.int .i64 0),.nil 5,.nil 8,.sc (.int .i64 0),.sc (.int .i64 0),.sc (.int .i64 0)],.var [.arr 4,.arr 6,.sc (.int .i64 w.key),.arr 24,.sc (.int .i64 w.rollout.version),.sl 1 1 w.rollout.stages.length (ints w.rollout.stages),.sc (.int .i64 w.rollout.pos),.sc (.bool w.rollout.off),.sc (.int .i64 w.least),.sc (.int .i64 w.percent),.sl 1 5 w.stage.length (w.stage.flatMap AB),.sl 1 8 w.log.length (w.log.flatMap Az),.sc (.int .i64 w.now),.sc (.int .i64 w.hurt),.sc (.int .i64 w.reached)],.dead,.arr 1 0 w.server.length (ints w.server),.dead,.arr 1 0 w.tags.length (ints w.tags),.free,o8,o9,o10,o11,o12,.free,.free,.free,.free,.free,.free,.free,.free,.free,.free,.free,.arr 4 0 j ((w.ends.take j).flatMap Ah),.free,.free]⟩) ?_ w.ends.length _ ⟨0,by simp⟩
 intro k s ⟨j,o8,o9,o10,o11,o12,hj,hs'⟩
 subst hs'
 by_cases hjn:j<w.ends.length
 ·have hw:=Cv (j:=j) (by omega)
  have hsz:=size_at (f:=Am) hjn
  have h3:(j+1)*80<=1099511627776:=by omega
  have hst:=R3 (f:=Ah) hjn
  simp -implicitDefEqProofs [hjn]
  refine Aa (hE w.ends[j] (by first | omega | (simp only[Ip]at hsz;omega))) ?_
  simp -implicitDefEqProofs [hjn,h3]
  exact⟨k-1,by omega,j+1,by omega,by simp[hw],rfl,by rw[<-hst];rfl⟩
 obtain rfl:j=w.ends.length:=by omega
 simp -implicitDefEqProofs
 refine Aa (hR w.rollout hr) ?_
 simp -implicitDefEqProofs
 refine Ag (fun k s=>∃j o8 o9 o10 o11 o12 o15 o16 o17 o18,j+k=w.stage.length/\s=⟨[.undef,.ptr 0 0,.ptr 1 0,.ptr 2 0,.undef,.sc (.int .i64 j),.undef,.undef,.undef,.undef],[.var ((Bu w).map (AO 1)),.var [.nil 1,.nil 1,.sc (.int .i64 0),.nil 4,.sc (.int .i64 0),.nil 1,.sc (.int .i64 0),.sc (.bool false),.sc (.int .i64 0),.sc (.int .i64 0),.nil 5,.nil 8,.sc (.int .i64 0),.sc (.int .i64 0),.sc (.int .i64 0)],.var [.arr 4,.arr 6,.sc (.int .i64 w.key),.arr 24,.sc (.int .i64 w.rollout.version),.arr 13,.sc (.int .i64 w.rollout.pos),.sc (.bool w.rollout.off),.sc (.int .i64 w.least),.sc (.int .i64 w.percent),.arr 25,.sl 1 8 w.log.length (w.log.flatMap Az),.sc (.int .i64 w.now),.sc (.int .i64 w.hurt),.sc (.int .i64 w.reached)],.dead,.arr 1 0 w.server.length (ints w.server),.dead,.arr 1 0 w.tags.length (ints w.tags),.free,o8,o9,o10,o11,o12,.arr 1 0 w.rollout.stages.length (ints w.rollout.stages),.free,o15,o16,o17,o18,.free,.free,.free,.free,.free,.arr 4 0 w.ends.length (w.ends.flatMap Ah),.arr 5 0 j ((w.stage.take j).flatMap AB),.free]⟩) ?_ w.stage.length _ ⟨0,by simp⟩
 intro k s ⟨j,o8,o9,o10,o11,o12,o15,o16,o17,o18,hj,hs'⟩
 subst hs'
 by_cases hjn:j<w.stage.length
 ·have hw:=Cv (j:=j) (by omega)
  have hsz:=size_at (f:=Cb) hjn
  have h3:(j+1)*72<=1099511627776:=by omega
  have hst:=R3 (f:=AB) hjn
  simp -implicitDefEqProofs [hjn]
  refine Aa (hD w.stage[j] (by first | omega | (simp only[Ip]at hsz;omega))) ?_
  simp -implicitDefEqProofs [hjn,h3]
  exact⟨k-1,by omega,j+1,by omega,by simp[hw],rfl,by rw[<-hst];rfl⟩
 obtain rfl:j=w.stage.length:=by omega
 simp -implicitDefEqProofs
 refine Ag (fun k s=>∃j o8 o9 o10 o11 o12 o15 o16 o17 o18 o20 o21 o22 o23,j+k=w.log.length/\s=⟨[.undef,.ptr 0 0,.ptr 1 0,.ptr 2 0,.undef,.undef,.sc (.int .i64 j),.undef,.undef,.undef],[.var ((Bu w).map (AO 1)),.var [.nil 1,.nil 1,.sc (.int .i64 0),.nil 4,.sc (.int .i64 0),.nil 1,.sc (.int .i64 0),.sc (.bool false),.sc (.int .i64 0),.sc (.int .i64 0),.nil 5,.nil 8,.sc (.int .i64 0),.sc (.int .i64 0),.sc (.int .i64 0)],.var [.arr 4,.arr 6,.sc (.int .i64 w.key),.arr 24,.sc (.int .i64 w.rollout.version),.arr 13,.sc (.int .i64 w.rollout.pos),.sc (.bool w.rollout.off),.sc (.int .i64 w.least),.sc (.int .i64 w.percent),.arr 25,.arr 26,.sc (.int .i64 w.now),.sc (.int .i64 w.hurt),.sc (.int .i64 w.reached)],.dead,.arr 1 0 w.server.length (ints w.server),.dead,.arr 1 0 w.tags.length (ints w.tags),.free,o8,o9,o10,o11,o12,.arr 1 0 w.rollout.stages.length (ints w.rollout.stages),.free,o15,o16,o17,o18,.free,o20,o21,o22,o23,.arr 4 0 w.ends.length (w.ends.flatMap Ah),.arr 5 0 w.stage.length (w.stage.flatMap AB),.arr 8 0 j ((w.log.take j).flatMap Az)]⟩) ?_ w.log.length _ ⟨0,by simp⟩
 intro k s ⟨j,o8,o9,o10,o11,o12,o15,o16,o17,o18,o20,o21,o22,o23,hj,hs'⟩
 subst hs'
 by_cases hjn:j<w.log.length
 ·have hw:=Cv (j:=j) (by omega)
  have hsz:=size_at (f:=Ip) hjn
  have h3:(j+1)*96<=1099511627776:=by omega
  have hst:=R3 (f:=Az) hjn
  simp -implicitDefEqProofs [hjn]
  refine Aa (hD w.log[j].dialed (by first | omega | (simp only[Ip]at hsz;omega))) ?_
  simp -implicitDefEqProofs [hjn,h3]
  exact⟨k-1,by omega,j+1,by omega,by simp[hw],rfl,by rw[<-hst];rfl⟩
 obtain rfl:j=w.log.length:=by omega
 simp -implicitDefEqProofs
theorem AHd (hE:MF (D 102)) (hR:Je (D 101)) (hD:NY (D 103)):EF (Body D Avi):=by
 intro w h
 have hl:=Akl h
 have he:=FE h
 have hs:=XY h
 have hr:=XH h
 have z:=Od h
 have b1:w.server.length*8<=1099511627776:=by omega
 have b2:w.tags.length*8<=1099511627776:=by omega
 simp -implicitDefEqProofs [b1,b2]
 refine Aa (hR w.rollout hr) ?_
 simp -implicitDefEqProofs
 refine Ag (fun k s=>∃j o8 o9 o10 o11 o12 o13,j+k=w.ends.length/\s=⟨[.undef,.ptr 0 0,.ptr 1 0,.ptr 2 0,.undef,.undef,.undef,.sl 1 4 w.ends.length (w.ends.flatMap Ah),.sc (.int .i64 w.ends.length),.sc (.int .i64 j),.undef,.undef,.undef,.undef,.undef,.undef,.undef,.undef,.undef],[.var ((Bu w).map (AO 1)),.var [.nil 1,.nil 1,.sc (.int .i64 0),.nil 4,.sc (.int .i64 0),.nil 1,.sc (.int .i64 0),.sc (.bool false),.sc (.int .i64 0),.sc (.int .i64 0),.nil 5,.nil 8,.sc (.int .i64 0),.sc (.int .i64 0),.sc (.int .i64 0)],.var [.arr 4,.arr 6,.sc (.int .i64 w.key),.arr 24,.sc (.int .i64 w.rollout.version),.arr 7,.sc (.int .i64 w.rollout.pos),.sc (.bool w.rollout.off),.sc (.int .i64 w.least),.sc (.int .i64 w.percent),.arr 25,.arr 26,.sc (.int .i64 w.now),.sc (.int .i64 w.hurt),.sc (.int .i64 w.reached)],.dead,.arr 1 0 w.server.length (ints w.server),.dead,.arr 1 0 w.tags.length (ints w.tags),.arr 1 0 w.rollout.stages.length (ints w.rollout.stages),o8,o9,o10,o11,o12,o13,.free,.free,.free,.free,.free,.free,.free,.free,.free,.free,.arr 4 0 j ((w.ends.take j).flatMap Ah),.arr 5 0 0 [],.arr 8 0 0 []]⟩) ?_ w.ends.length _ ⟨0,by simp⟩
 intro k s ⟨j,o8,o9,o10,o11,o12,o13,hj,hs'⟩
 subst hs'
 by_cases hjn:j<w.ends.length
 ·have hw:=Cv (j:=j) (by omega)
  have hsz:=size_at (f:=Am) hjn
  have h3:(j+1)*80<=1099511627776:=by omega
  have hst:=R3 (f:=Ah) hjn
  simp -implicitDefEqProofs [hjn]
  refine Aa (hE w.ends[j] (by first | omega | (simp only[Ip]at hsz;omega))) ?_
  simp -implicitDefEqProofs [hjn,h3]
  exact⟨k-1,by omega,j+1,by omega,by simp[hw],rfl,by rw[<-hst];rfl⟩
 obtain rfl:j=w.ends.length:=by omega
 simp -implicitDefEqProofs
 refine Ag (fun k s=>∃j o8 o9 o10 o11 o12 o13 o14 o15 o16 o17 o18,j+k=w.stage.length/\s=⟨[.undef,.ptr 0 0,.ptr 1 0,.ptr 2 0,.undef,.undef,.undef,.undef,.undef,.undef,.undef,.sl 1 5 w.stage.length (w.stage.flatMap AB),.sc (.int .i64 w.stage.length),.sc (.int .i64 j),.undef,.undef,.undef,.undef,.undef],[.var ((Bu w).map (AO 1)),.var [.nil 1,.nil 1,.sc (.int .i64 0),.nil 4,.sc (.int .i64 0),.nil 1,.sc (.int .i64 0),.sc (.bool false),.sc (.int .i64 0),.sc (.int .i64 0),.nil 5,.nil 8,.sc (.int .i64 0),.sc (.int .i64 0),.sc (.int .i64 0)],.var [.arr 4,.arr 6,.sc (.int .i64 w.key),.arr 24,.sc (.int .i64 w.rollout.version),.arr 7,.sc (.int .i64 w.rollout.pos),.sc (.bool w.rollout.off),.sc (.int .i64 w.least),.sc (.int .i64 w.percent),.arr 25,.arr 26,.sc (.int .i64 w.now),.sc (.int .i64 w.hurt),.sc (.int .i64 w.reached)],.dead,.arr 1 0 w.server.length (ints w.server),.dead,.arr 1 0 w.tags.length (ints w.tags),.arr 1 0 w.rollout.stages.length (ints w.rollout.stages),o8,o9,o10,o11,o12,o13,o14,o15,o16,o17,o18,.free,.free,.free,.free,.free,.arr 4 0 w.ends.length (w.ends.flatMap Ah),.arr 5 0 j ((w.stage.take j).flatMap AB),.arr 8 0 0 []]⟩) ?_ w.stage.length _ ⟨0,by simp⟩
 intro k s ⟨j,o8,o9,o10,o11,o12,o13,o14,o15,o16,o17,o18,hj,hs'⟩
 subst hs'
 by_cases hjn:j<w.stage.length
 ·have hw:=Cv (j:=j) (by omega)
  have hsz:=size_at (f:=Cb) hjn
  have h3:(j+1)*72<=1099511627776:=by omega
  have hst:=R3 (f:=AB) hjn
  simp -implicitDefEqProofs [hjn]
  refine Aa (hD w.stage[j] (by first | omega | (simp only[Ip]at hsz;omega))) ?_
  simp -implicitDefEqProofs [hjn,h3]
  exact⟨k-1,by omega,j+1,by omega,by simp[hw],rfl,by rw[<-hst];rfl⟩
 obtain rfl:j=w.stage.length:=by omega
 simp -implicitDefEqProofs
 refine Ag (fun k s=>∃j o8 o9 o10 o11 o12 o13 o14 o15 o16 o17 o18 o19 o20 o21 o22 o23,j+k=w.log.length/\s=⟨[.undef,.undef,.ptr 1 0,.ptr 2 0,.undef,.undef,.undef,.undef,.undef,.undef,.undef,.undef,.undef,.undef,.undef,.sl 1 8 w.log.length (w.log.flatMap Az),.sc (.int .i64 w.log.length),.sc (.int .i64 j),.undef],[.var ((Bu w).map (AO 1)),.var [.nil 1,.nil 1,.sc (.int .i64 0),.nil 4,.sc (.int .i64 0),.nil 1,.sc (.int .i64 0),.sc (.bool false),.sc (.int .i64 0),.sc (.int .i64 0),.nil 5,.nil 8,.sc (.int .i64 0),.sc (.int .i64 0),.sc (.int .i64 0)],.var [.arr 4,.arr 6,.sc (.int .i64 w.key),.arr 24,.sc (.int .i64 w.rollout.version),.arr 7,.sc (.int .i64 w.rollout.pos),.sc (.bool w.rollout.off),.sc (.int .i64 w.least),.sc (.int .i64 w.percent),.arr 25,.arr 26,.sc (.int .i64 w.now),.sc (.int .i64 w.hurt),.sc (.int .i64 w.reached)],.dead,.arr 1 0 w.server.length (ints w.server),.dead,.arr 1 0 w.tags.length (ints w.tags),.arr 1 0 w.rollout.stages.length (ints w.rollout.stages),o8,o9,o10,o11,o12,o13,o14,o15,o16,o17,o18,o19,o20,o21,o22,o23,.arr 4 0 w.ends.length (w.ends.flatMap Ah),.arr 5 0 w.stage.length (w.stage.flatMap AB),.arr 8 0 j ((w.log.take j).flatMap Az)]⟩) ?_ w.log.length _ ⟨0,by simp⟩
 intro k s ⟨j,o8,o9,o10,o11,o12,o13,o14,o15,o16,o17,o18,o19,o20,o21,o22,o23,hj,hs'⟩
 subst hs'
 by_cases hjn:j<w.log.length
 ·have hw:=Cv (j:=j) (by omega)
  have hsz:=size_at (f:=Ip) hjn
  have h3:(j+1)*96<=1099511627776:=by omega
  have hst:=R3 (f:=Az) hjn
  simp -implicitDefEqProofs [hjn]
  refine Aa (hD w.log[j].dialed (by first | omega | (simp only[Ip]at hsz;omega))) ?_
  simp -implicitDefEqProofs [hjn,h3]
  exact⟨k-1,by omega,j+1,by omega,by simp[hw],rfl,by rw[<-hst];rfl⟩
 obtain rfl:j=w.log.length:=by omega
 simp -implicitDefEqProofs
abbrev NJ (a b c:Int):Prop:=b<=a/\a<=c
def Ju (xs:List Int) (j:Nat):Bool:=(List.range j).all fun i=>decide (NJ (xs.getD i 0) 1 100)&&(decide (i=0)||decide (xs.getD (i-1) 0<xs.getD i 0))
theorem XR (xs:List Int) (j:Nat):Ju xs (j+1)=(Ju xs j&&(decide (NJ (xs.getD j 0) 1 100)&&(decide (j=0)||decide (xs.getD (j-1) 0<xs.getD j 0)))):=by
 unfold Ju
 rw[List.range_succ,List.all_append]
 simp
theorem AgA {xs:List Int} {j:Nat} (h:j<xs.length) (hn:Ju xs (j+1)=false):Ju xs xs.length=false:=by
 have:∀n,Ju xs (j+1+n)=false:=by
  intro n
  induction n with
  | zero=>exact hn
  | succ n ih=>rw[show j+1+(n+1)=(j+1+n)+1 by omega,XR,ih];rfl
 have:=this (xs.length-(j+1))
 rwa [show j+1+(xs.length-(j+1))=xs.length by omega]at this
def AP (r:AX):Bool:=
 Ju r.stages r.stages.length&&(decide (NJ r.version 1 9)&&decide (NJ r.stages.length 1 5)&&decide (r.stages.getD (r.stages.length-1) 0=100)&&decide (NJ r.pos 0 (r.stages.length-1)))
abbrev FX:Prop:=∀r:AX,r.stages.length<=4194304->R [arg (Dj r)] [] (B (AP r)) []
theorem getD_at {xs:List Int} {j:Nat} (h:j<xs.length):xs.getD j 0=xs[j]:=by simp[h]
theorem AeT (hI:Vf (D 71)):FX (Body D Kv):=by
 intro r hl
 simp -implicitDefEqProofs
 refine Ag (fun k s=>∃j,j+k=r.stages.length/\Ju r.stages j=true/\s=⟨[.undef,.ptr 0 0,.undef,.sc (.int .i64 j),.undef,.undef],[.var ((Dj r).map (AO 1))]⟩) ?_ r.stages.length _ ⟨0,by simp,by simp[Ju],by simp⟩
 intro k s ⟨j,hj,hr,hs⟩
 subst hs
 by_cases hjn:j<r.stages.length
 ·have hw:=Cv (j:=j) (by omega)
  have hst:=XR r.stages j
  rw[hr,Bool.true_and,getD_at hjn]at hst
  simp -implicitDefEqProofs [hjn]
  refine Aa (hI _ _ _) ?_
  by_cases h1:NJ r.stages[j] 1 100
  rotate_left
  ·have e:AP r=false:=by unfold AP;rw[AgA hjn (by rw[hst];simp[h1])];rfl
   simp -implicitDefEqProofs [h1,e]
  by_cases h0:j=0
  ·subst h0
   simp -implicitDefEqProofs [h1]
   exact⟨k-1,by omega,1,by omega,by rw[hst];simp[h1],by simpa using hw⟩
  ·have hp:((j-1:Nat):Int)=(j:Int)-1:=by omega
   have hw2:IntKind.i64.wrap ((j:Int)-1)=((j-1:Nat):Int):=by rw[Ad (by omega) (by omega)];omega
   have h2:(0:Int)<j:=by omega
   have h2':0<j:=by omega
   have h3:j-1<r.stages.length:=by omega
   rw[getD_at h3]at hst
   by_cases h4:r.stages[j-1]<r.stages[j]
   ·have h4':¬r.stages[j]<=r.stages[j-1]:=by omega
    simp -implicitDefEqProofs [h1,h2,h2',hw2,h3,hjn,h4']
    exact⟨k-1,by omega,j+1,by omega,by rw[hst];simp[h1,h0,h4],by simp[hw]⟩
   ·have e:AP r=false:=by unfold AP;rw[AgA hjn (by rw[hst];simp[h1,h0,h4])];rfl
    have h4':r.stages[j]<=r.stages[j-1]:=by omega
    simp -implicitDefEqProofs [h1,h2,h2',hw2,h3,hjn,h4',e]
 ·obtain rfl:j=r.stages.length:=by omega
  simp -implicitDefEqProofs
  refine Aa (hI _ _ _) ?_
  by_cases h1:NJ r.version 1 9
  rotate_left
  ·simp -implicitDefEqProofs [h1,AP]
  simp -implicitDefEqProofs [h1]
  refine Aa (hI _ _ _) ?_
  by_cases h2:NJ r.stages.length 1 5
  rotate_left
  ·simp -implicitDefEqProofs [h2,AP]
  have hw2:IntKind.i64.wrap ((r.stages.length:Int)-1)=((r.stages.length-1:Nat):Int):=by rw[Ad (by omega) (by omega)];omega
  have h3:r.stages.length-1<r.stages.length:=by omega
  have h5:0<r.stages.length:=by omega
  by_cases h4:r.stages[r.stages.length-1]=100
  rotate_left
  ·simp -implicitDefEqProofs [h2,hw2,h3,h4,h5,AP]
  simp -implicitDefEqProofs [h2,hw2,h3,h4,h5]
  refine Aa (hI _ _ _) ?_
  have hc:((r.stages.length-1:Nat):Int)=(r.stages.length:Int)-1:=by omega
  have e:AP r=decide (NJ r.pos 0 ((r.stages.length-1:Nat):Int)):=by unfold AP;rw[hr,getD_at h3,h4,hc];simp[h1,h2]
  simp -implicitDefEqProofs [e]
theorem AFU (hI:Vf (D 114)):FX (Body D Avj):=by
 intro r hl
 simp -implicitDefEqProofs
 refine Ag (fun k s=>∃j v3 v4,j+k=r.stages.length/\Ju r.stages j=true/\s=⟨[.undef,.ptr 0 0,.undef,v3,v4,.sl 1 1 r.stages.length (ints r.stages),.sc (.int .i64 r.stages.length),.sc (.int .i64 j),.undef,.undef],[.var ((Dj r).map (AO 1))]⟩) ?_ r.stages.length _ ⟨0,.undef,.undef,by simp,by simp[Ju],by simp⟩
 intro k s ⟨j,v3,v4,hj,hr,hs⟩
 subst hs
 by_cases hjn:j<r.stages.length
 ·have hw:=Cv (j:=j) (by omega)
  have hst:=XR r.stages j
  rw[hr,Bool.true_and,getD_at hjn]at hst
  simp -implicitDefEqProofs [hjn]
  refine Aa (hI _ _ _) ?_
  by_cases h1:NJ r.stages[j] 1 100
  rotate_left
  ·have e:AP r=false:=by unfold AP;rw[AgA hjn (by rw[hst];simp[h1])];rfl
   simp -implicitDefEqProofs [h1,e]
  by_cases h0:j=0
  ·subst h0
   simp -implicitDefEqProofs [h1]
   exact⟨k-1,by omega,1,by omega,by rw[hst];simp[h1],by simpa using hw⟩
  ·have hp:((j-1:Nat):Int)=(j:Int)-1:=by omega
   have hw2:IntKind.i64.wrap ((j:Int)-1)=((j-1:Nat):Int):=by rw[Ad (by omega) (by omega)];omega
   have h2:(0:Int)<j:=by omega
   have h2':0<j:=by omega
   have h3:j-1<r.stages.length:=by omega
   rw[getD_at h3]at hst
   by_cases h4:r.stages[j-1]<r.stages[j]
   ·have h4':¬r.stages[j]<=r.stages[j-1]:=by omega
    simp -implicitDefEqProofs [h1,h2,h2',hw2,h3,hjn,h4']
    exact⟨k-1,by omega,j+1,by omega,by rw[hst];simp[h1,h0,h4],by simp[hw]⟩
   ·have e:AP r=false:=by unfold AP;rw[AgA hjn (by rw[hst];simp[h1,h0,h4])];rfl
    have h4':r.stages[j]<=r.stages[j-1]:=by omega
    simp -implicitDefEqProofs [h1,h2,h2',hw2,h3,hjn,h4',e]
 ·obtain rfl:j=r.stages.length:=by omega
  simp -implicitDefEqProofs
  refine Aa (hI _ _ _) ?_
  by_cases h1:NJ r.version 1 9
  rotate_left
  ·simp -implicitDefEqProofs [h1,AP]
  simp -implicitDefEqProofs [h1]
  refine Aa (hI _ _ _) ?_
  by_cases h2:NJ r.stages.length 1 5
  rotate_left
  ·simp -implicitDefEqProofs [h2,AP]
  have hw2:IntKind.i64.wrap ((r.stages.length:Int)-1)=((r.stages.length-1:Nat):Int):=by rw[Ad (by omega) (by omega)];omega
  have h3:r.stages.length-1<r.stages.length:=by omega
  have h5:0<r.stages.length:=by omega
  by_cases h4:r.stages[r.stages.length-1]=100
  rotate_left
  ·simp -implicitDefEqProofs [h2,hw2,h3,h4,h5,AP]
  simp -implicitDefEqProofs [h2,hw2,h3,h4,h5]
  refine Aa (hI _ _ _) ?_
  have hc:((r.stages.length-1:Nat):Int)=(r.stages.length:Int)-1:=by omega
  have e:AP r=decide (NJ r.pos 0 ((r.stages.length-1:Nat):Int)):=by unfold AP;rw[hr,getD_at h3,h4,hc];simp[h1,h2]
  simp -implicitDefEqProofs [e]
def PV (a b:Int):Int:=if NJ a 0 1000000000000/\NJ b 1 1000000000000 then(a+b-1).tdiv b else 0
abbrev Ui:Prop:=∀a b:Int,R [I a,I b] [] (I (PV a b)) []
theorem AnF {a b:Int} (h1:0<=a) (h2:a<=4000000000000) (h3:1<=b):IntKind.i64.wrap (a.tdiv b)=a.tdiv b:=by
 have a1:0<=a.tdiv b:=Int.tdiv_nonneg h1 (by omega)
 have a2:a.tdiv b<=a:=Int.tdiv_le_self _ h1
 exact Ad (by omega) (by omega)
theorem Ajf (hI:Vf (D 71)):Ui (Body D M9):=by
 intro a b
 simp -implicitDefEqProofs
 refine Aa (hI _ _ _) ?_
 by_cases h1:NJ a 0 1000000000000
 rotate_left
 ·simp -implicitDefEqProofs [h1,PV]
 simp -implicitDefEqProofs [h1]
 refine Aa (hI _ _ _) ?_
 by_cases h2:NJ b 1 1000000000000
 rotate_left
 ·simp -implicitDefEqProofs [h2,PV]
 have w1:IntKind.i64.wrap (a+b)=a+b:=Ad (by omega) (by omega)
 have w2:IntKind.i64.wrap (a+b-1)=a+b-1:=Ad (by omega) (by omega)
 have w3:=AnF (a:=a+b-1) (b:=b) (by omega) (by omega) (by omega)
 have h0:¬b=0:=by omega
 have e:PV a b=(a+b-1).tdiv b:=by unfold PV;rw[if_pos ⟨h1,h2⟩]
 simp -implicitDefEqProofs [h2,w1,w2,w3,h0,e]
theorem AHF (hI:Vf (D 114)):Ui (Body D Aw3):=by
 intro a b
 simp -implicitDefEqProofs
 refine Aa (hI _ _ _) ?_
 by_cases h1:NJ a 0 1000000000000
 rotate_left
 ·simp -implicitDefEqProofs [h1,PV]
 simp -implicitDefEqProofs [h1]
 refine Aa (hI _ _ _) ?_
 by_cases h2:NJ b 1 1000000000000
 rotate_left
 ·simp -implicitDefEqProofs [h2,PV]
 have w1:IntKind.i64.wrap (a+b)=a+b:=Ad (by omega) (by omega)
 have w2:IntKind.i64.wrap (a+b-1)=a+b-1:=Ad (by omega) (by omega)
 have w3:=AnF (a:=a+b-1) (b:=b) (by omega) (by omega) (by omega)
 have h0:¬b=0:=by omega
 have e:PV a b=(a+b-1).tdiv b:=by unfold PV;rw[if_pos ⟨h1,h2⟩]
 simp -implicitDefEqProofs [h2,w1,w2,w3,h0,e]
theorem AfY {xs:List Int} {n:Nat} (h:Ju xs n=true) {i:Nat} (hi:i<n):NJ (xs.getD i 0) 1 100:=by
 unfold Ju at h
 have:=List.all_eq_true.1 h i (List.mem_range.2 hi)
 simp at this
 exact⟨this.1.1,this.1.2⟩
theorem Abf {r:AX} (h:AP r=true):0<=r.pos/\r.pos<r.stages.length/\r.stages.length<=5/\NJ (r.stages.getD r.pos.toNat 0) 1 100:=by
 unfold AP at h
 simp only[Bool.and_eq_true,decide_eq_true_eq]at h
 obtain⟨h1,⟨⟨h2,h3⟩,h4⟩,h5⟩:=h
 refine⟨h5.1,by omega,by omega,AfY h1 (by omega)⟩
def countIn (r:AX) (n:Int):Int:=if AP r=true/\r.off=false/\NJ n 0 10000 then PV (n*r.stages.getD r.pos.toNat 0) 100 else 0
abbrev V3:Prop:=∀(r:AX) (n:Int),r.stages.length<=4194304->R [arg (Dj r),I n] [] (I (countIn r n)) []
theorem AoW {n x:Int} (h1:NJ n 0 10000) (h2:NJ x 1 100):IntKind.i64.wrap (n*x)=n*x:=by
 have a1:0<=n*x:=Int.mul_nonneg h1.1 (by omega)
 have a2:n*x<=10000*100:=Int.mul_le_mul h1.2 h2.2 (by omega) (by omega)
 exact Ad (by omega) (by omega)
theorem AhR (hR:FX (D 145)) (hI:Vf (D 71)) (hC:Ui (D 284)):V3 (Body D NG):=by
 intro r n hl
 simp -implicitDefEqProofs
 refine Aa (hR r hl) ?_
 by_cases h1:AP r=true
 rotate_left
 ·simp -implicitDefEqProofs [h1,countIn]
 by_cases h2:r.off=true
 ·simp -implicitDefEqProofs [h1,h2,countIn]
 simp -implicitDefEqProofs [h1,h2]
 refine Aa (hI _ _ _) ?_
 by_cases h3:NJ n 0 10000
 rotate_left
 ·simp -implicitDefEqProofs [h3,countIn]
 obtain⟨p1,p2,p3,p4⟩:=Abf h1
 obtain⟨q,hq⟩:∃q:Nat,r.pos=q:=⟨r.pos.toNat,by omega⟩
 have hq2:q<r.stages.length:=by omega
 have e:countIn r n=PV (n*r.stages[q]) 100:=by unfold countIn;rw[if_pos ⟨h1,by simpa using h2,h3⟩,hq];simp[hq2]
 have p4':NJ r.stages[q] 1 100:=by rw[hq]at p4;simpa[hq2]using p4
 have hw:=AoW h3 p4'
 simp -implicitDefEqProofs [h3,hq,hq2,hw]
 refine Aa (hC _ _) ?_
 simp -implicitDefEqProofs [e]
theorem AHT (hR:FX (D 176)) (hI:Vf (D 114)) (hC:Ui (D 291)):V3 (Body D AwY):=by
 intro r n hl
 simp -implicitDefEqProofs
 refine Aa (hR r hl) ?_
 by_cases h1:AP r=true
 rotate_left
 ·simp -implicitDefEqProofs [h1,countIn]
 by_cases h2:r.off=true
 ·simp -implicitDefEqProofs [h1,h2,countIn]
 simp -implicitDefEqProofs [h1,h2]
 refine Aa (hI _ _ _) ?_
 by_cases h3:NJ n 0 10000
 rotate_left
 ·simp -implicitDefEqProofs [h3,countIn]
 obtain⟨p1,p2,p3,p4⟩:=Abf h1
 obtain⟨q,hq⟩:∃q:Nat,r.pos=q:=⟨r.pos.toNat,by omega⟩
 have hq2:q<r.stages.length:=by omega
 have e:countIn r n=PV (n*r.stages[q]) 100:=by unfold countIn;rw[if_pos ⟨h1,by simpa using h2,h3⟩,hq];simp[hq2]
 have p4':NJ r.stages[q] 1 100:=by rw[hq]at p4;simpa[hq2]using p4
 have hw:=AoW h3 p4'
 simp -implicitDefEqProofs [h3,hq,hq2,hw]
 refine Aa (hC _ _) ?_
 simp -implicitDefEqProofs [e]
def isIn (r:AX) (i n:Int):Bool:=decide (0<=i)&&decide (i<n)&&decide (i<countIn r n)
abbrev Af6:Prop:=∀(r:AX) (i n:Int),r.stages.length<=4194304->R [arg (Dj r),I i,I n] [] (B (isIn r i n)) []
theorem AoJ (hC:V3 (D 254)):Af6 (Body D Uf):=by
 intro r i n hl
 by_cases h1:0<=i
 ·by_cases h2:i<n
  ·simp -implicitDefEqProofs [h1,h2]
   refine Aa (hC r n hl) ?_
   simp -implicitDefEqProofs [isIn,h1,h2]
  ·simp -implicitDefEqProofs [h1,h2,isIn]
 ·simp -implicitDefEqProofs [h1,isIn]
theorem AKA (hC:V3 (D 263)):Af6 (Body D AzB):=by
 intro r i n hl
 by_cases h1:0<=i
 ·by_cases h2:i<n
  ·simp -implicitDefEqProofs [h1,h2]
   refine Aa (hC r n hl) ?_
   simp -implicitDefEqProofs [isIn,h1,h2]
  ·simp -implicitDefEqProofs [h1,h2,isIn]
 ·simp -implicitDefEqProofs [h1,isIn]
abbrev Au5:Prop:=∀(w:World) (i:Int),w.ends.length<=4194304->R [arg (Bu w),I i] [] (B (decide (NJ i 0 ((w.ends.length:Int)-1)))) []
theorem AKi (hI:Vf (D 114)):Au5 (Body D Axy):=by
 intro w i hl
 have hw:IntKind.i64.wrap ((w.ends.length:Int)-1)=(w.ends.length:Int)-1:=Ad (by omega) (by omega)
 simp -implicitDefEqProofs [hw]
 refine Aa (hI _ _ _) ?_
 simp -implicitDefEqProofs
def Pg (w:World) (i:Int):Bool:=decide (NJ i 0 ((w.ends.length:Int)-1))&&isIn w.rollout i w.ends.length&&(match w.ends[i.toNat]? with | some e=>decide (w.rollout.version∈e.versions) | none=>false)
theorem AgK {w:World} (h:Af w<=4194304) {j:Nat} (hj:j<w.ends.length):w.ends[j].versions.length<=maxLen:=by
 have:=size_at (f:=Am) hj
 have e:Am w.ends[j]=w.ends[j].versions.length+w.ends[j].tags.length+Cr Gm w.ends[j].path:=rfl
 unfold Af at h
 unfold maxLen;omega
theorem OU {w:World} (h:Af w<=4194304):w.rollout.stages.length<=4194304:=by unfold Af Db at h;omega
abbrev Vw:Prop:=∀(w:World) (i:Int),Af w<=4194304->R [arg (Bu w),I i] [] (B (Pg w i)) []
theorem AhV (hI:Vf (D 71)) (hN:Af6 (D 214)) (hH:UQ (D 166)):Vw (Body D Nk):=by
 intro w i hsz
 have hl:=FE hsz
 have hw:IntKind.i64.wrap ((w.ends.length:Int)-1)=(w.ends.length:Int)-1:=Ad (by omega) (by omega)
 simp -implicitDefEqProofs [hw]
 refine Aa (hI _ _ _) ?_
 by_cases h1:NJ i 0 ((w.ends.length:Int)-1)
 rotate_left
 ·simp -implicitDefEqProofs [h1,Pg]
 simp -implicitDefEqProofs [h1]
 refine Aa (hN w.rollout _ _ (OU hsz)) ?_
 by_cases h2:isIn w.rollout i w.ends.length=true
 rotate_left
 ·simp -implicitDefEqProofs [h2,Pg]
 obtain⟨j,rfl⟩:∃j:Nat,i=j:=⟨i.toNat,by omega⟩
 have hj:j<w.ends.length:=by omega
 simp -implicitDefEqProofs [h2,hj]
 refine Aa (hH _ _ (AgK hsz hj)) ?_
 simp -implicitDefEqProofs [Pg,h1,h2,hj]
theorem AIk (hE:Au5 (D 117)) (hN:Af6 (D 228)) (hH:UQ (D 188)):Vw (Body D AwJ):=by
 intro w i hsz
 have hl:=FE hsz
 simp -implicitDefEqProofs
 refine Aa (hE w i hl) ?_
 by_cases h1:NJ i 0 ((w.ends.length:Int)-1)
 rotate_left
 ·simp -implicitDefEqProofs [h1,Pg]
 simp -implicitDefEqProofs [h1]
 refine Aa (hN w.rollout _ _ (OU hsz)) ?_
 by_cases h2:isIn w.rollout i w.ends.length=true
 rotate_left
 ·simp -implicitDefEqProofs [h2,Pg]
 obtain⟨j,rfl⟩:∃j:Nat,i=j:=⟨i.toNat,by omega⟩
 have hj:j<w.ends.length:=by omega
 simp -implicitDefEqProofs [h2,hj]
 refine Aa (hH _ _ (AgK hsz hj)) ?_
 simp -implicitDefEqProofs [Pg,h1,h2,hj]
def ED (w:World) (n:Int):World×Bool:=if NJ n 1 100/\NJ w.now 0 (10000-n)then({w with now:=w.now+n},true)else(w,false)
abbrev RL:Prop:=∀(w:World) (n:Int),Af w<=4194304->R [arg (Bu w),I n] [] (.tup [.agg (Bu (ED w n).1),B (ED w n).2]) []
theorem AfW (hC:EF (D 22)) (hI:Vf (D 71)):RL (Body D LV):=by
 intro w n h
 simp -implicitDefEqProofs
 refine Aa (hC w h) ?_
 simp -implicitDefEqProofs
 refine Aa (hI _ _ _) ?_
 by_cases h1:NJ n 1 100
 rotate_left
 ·have e:ED w n=(w,false):=by unfold ED;rw[if_neg (by omega)]
  simp -implicitDefEqProofs [h1,e]
 have hw:IntKind.i64.wrap (10000-n)=10000-n:=Ad (by omega) (by omega)
 simp -implicitDefEqProofs [h1,hw]
 refine Aa (hI _ _ _) ?_
 by_cases h2:NJ w.now 0 (10000-n)
 rotate_left
 ·have e:ED w n=(w,false):=by unfold ED;rw[if_neg (by omega)]
  simp -implicitDefEqProofs [h2,e]
 have hw2:IntKind.i64.wrap (w.now+n)=w.now+n:=Ad (by omega) (by omega)
 have e:ED w n=({w with now:=w.now+n},true):=by unfold ED;rw[if_pos (by omega)]
 simp -implicitDefEqProofs [h2,e,hw2]
theorem AHj (hC:EF (D 38)) (hI:Vf (D 114)):RL (Body D Awo):=by
 intro w n h
 simp -implicitDefEqProofs
 refine Aa (hC w h) ?_
 simp -implicitDefEqProofs
 refine Aa (hI _ _ _) ?_
 by_cases h1:NJ n 1 100
 rotate_left
 ·have e:ED w n=(w,false):=by unfold ED;rw[if_neg (by omega)]
  simp -implicitDefEqProofs [h1,e]
 have hw:IntKind.i64.wrap (10000-n)=10000-n:=Ad (by omega) (by omega)
 by_cases h3:w.now<0
 ·have e:ED w n=(w,false):=by unfold ED;rw[if_neg (by omega)]
  simp -implicitDefEqProofs [h1,hw,h3,e]
 by_cases h2:10000-n<w.now
 ·have e:ED w n=(w,false):=by unfold ED;rw[if_neg (by omega)]
  simp -implicitDefEqProofs [h1,hw,h3,h2,e]
 have hw2:IntKind.i64.wrap (w.now+n)=w.now+n:=Ad (by omega) (by omega)
 have e:ED w n=({w with now:=w.now+n},true):=by unfold ED;rw[if_pos (by omega)]
 simp -implicitDefEqProofs [h1,hw,h3,h2,e,hw2]
def Ob (w:World) (i:Nat):World:=match w.ends[i]? with
 | some x=> {w with ends:=w.ends.set i ⟨x.versions,x.tags,[],x.cls⟩}
 | none=>w
def DX (w:World) (i:Int):World×Bool:=
 if 0<=i then(match w.ends[i.toNat]? with
  | some x=>if x.path=[]then(w,false)else(Ob w i.toNat,true)
  | none=>(w,false))else(w,false)
abbrev Pv:Prop:=∀(w:World) (i:Int),Af w<=4194304->R [arg (Bu w),I i] [] (.tup [.agg (Bu (DX w i).1),B (DX w i).2]) []
theorem Acv {w:World} {i:Int} (h:¬NJ i 0 ((w.ends.length:Int)-1)):DX w i=(w,false):=by
 unfold DX
 by_cases h0:0<=i
 ·rw[if_pos h0,List.getElem?_eq_none (by omega)]
 ·rw[if_neg h0]
theorem Aez (hC:EF (D 22)) (hI:Vf (D 71)):Pv (Body D KD):=by
 intro w i h
 have hl:=FE h
 have hw:IntKind.i64.wrap ((w.ends.length:Int)-1)=(w.ends.length:Int)-1:=Ad (by omega) (by omega)
 simp -implicitDefEqProofs
 refine Aa (hC w h) ?_
 simp -implicitDefEqProofs [hw]
 refine Aa (hI _ _ _) ?_
 by_cases h1:NJ i 0 ((w.ends.length:Int)-1)
 rotate_left
 ·simp -implicitDefEqProofs [h1,Acv h1]
 obtain⟨j,rfl⟩:∃j:Nat,i=j:=⟨i.toNat,by omega⟩
 have hj:j<w.ends.length:=by omega
 by_cases h2:w.ends[j].path=[]
 ·have e:DX w j=(w,false):=by unfold DX;rw[if_pos (by omega)];simp[hj,h2]
  simp -implicitDefEqProofs [h1,h2,hj,e]
 ·have e:DX w j=({w with ends:=w.ends.set j ⟨w.ends[j].versions,w.ends[j].tags,[],w.ends[j].cls⟩},true):=by unfold DX;rw[if_pos (by omega)];simp[hj,h2,Ob]
  have hf:j*4+2<w.ends.length*4:=by omega
  have hs:(w.ends.flatMap Ah).set (j*4+2) (.sl 0 4 0 [])=(w.ends.set j ⟨w.ends[j].versions,w.ends[j].tags,[],w.ends[j].cls⟩).flatMap Ah:=VN hj [] rfl
  simp -implicitDefEqProofs [h1,h2,hj,e,hf,hs]
theorem AFX (hC:EF (D 38)) (hE:Au5 (D 117)):Pv (Body D Avw):=by
 intro w i h
 have hl:=FE h
 simp -implicitDefEqProofs
 refine Aa (hC w h) ?_
 simp -implicitDefEqProofs
 refine Aa (hE w i hl) ?_
 by_cases h1:NJ i 0 ((w.ends.length:Int)-1)
 rotate_left
 ·simp -implicitDefEqProofs [h1,Acv h1]
 obtain⟨j,rfl⟩:∃j:Nat,i=j:=⟨i.toNat,by omega⟩
 have hj:j<w.ends.length:=by omega
 by_cases h2:w.ends[j].path=[]
 ·have e:DX w j=(w,false):=by unfold DX;rw[if_pos (by omega)];simp[hj,h2]
  simp -implicitDefEqProofs [h1,h2,hj,e]
 ·have e:DX w j=({w with ends:=w.ends.set j ⟨w.ends[j].versions,w.ends[j].tags,[],w.ends[j].cls⟩},true):=by unfold DX;rw[if_pos (by omega)];simp[hj,h2,Ob]
  have hf:j*4+2<w.ends.length*4:=by omega
  have hs:(w.ends.flatMap Ah).set (j*4+2) (.sl 0 4 0 [])=(w.ends.set j ⟨w.ends[j].versions,w.ends[j].tags,[],w.ends[j].cls⟩).flatMap Ah:=VN hj [] rfl
  simp -implicitDefEqProofs [h1,h2,hj,e,hf,hs]
theorem AjV {α:Type} {f:α->Nat}:∀ {xs:List α} {j:Nat} (h:j<xs.length) (y:α),((xs.set j y).map f).sum+f xs[j]=(xs.map f).sum+f y
 | [],j,h,_=>by simp at h
 | x::r,0,h,y=>by simp;omega
 | x::r,j+1,h,y=>by
  have:=AjV (f:=f) (xs:=r) (j:=j) (by simpa using h) y
  simp at *
  omega
theorem size_set {α:Type} {f:α->Nat} {xs:List α} {j:Nat} (h:j<xs.length) (y:α):Cr f (xs.set j y)+f xs[j]=Cr f xs+f y:=by
 have:=AjV (f:=f) h y
 unfold Cr;simp only[List.length_set];omega
theorem LU {xs:List Int} {lo hi:Int} {j:Nat} (h:j<xs.length):allIn (xs.take (j+1)) lo hi=(allIn (xs.take j) lo hi&&decide (M6 xs[j] lo hi)):=by
 have e:xs.take (j+1)=xs.take j++ [xs[j]]:=by simp
 unfold allIn
 rw[e,List.all_append];simp
theorem Ahh {xs:List Int} {lo hi:Int} {j:Nat} (h:j<xs.length) (hn:¬M6 xs[j] lo hi):allIn xs lo hi=false:=by
 unfold allIn
 rw[List.all_eq_false]
 exact⟨xs[j],List.getElem_mem h,by simp[hn]⟩
theorem Wt {xs:List Int} {lo hi:Int} {j:Nat} (h:xs.length<=j) (ha:allIn (xs.take j) lo hi=true):allIn xs lo hi=true:=by rwa [List.take_of_length_le h]at ha
abbrev RN:Prop:=∀xs:List Int,xs.length<=maxLen->R [.sl 1 1 xs.length (ints xs)] [] (B (allIn xs 0 255)) []
theorem Am2 (hI:Vf (D 71)):RN (Body D OW):=by
 intro xs hl
 unfold maxLen at hl
 simp -implicitDefEqProofs
 refine Ag (fun k s=>∃j,j+k=xs.length/\allIn (xs.take j) 0 255=true/\s=⟨[.sl 1 1 xs.length (ints xs),.undef,.sc (.int .i64 j),.undef,.undef],[]⟩) ?_ xs.length _ ⟨0,by simp,by simp[allIn],by simp⟩
 intro k s ⟨j,hj,hp,hs⟩
 subst hs
 by_cases hjn:j<xs.length
 ·have hw:=Cv (j:=j) (by omega)
  simp -implicitDefEqProofs [hjn]
  refine Aa (hI _ _ _) ?_
  by_cases h1:M6 xs[j] 0 255
  ·simp -implicitDefEqProofs [h1]
   exact⟨k-1,by omega,j+1,by omega,by rw[LU hjn,hp];simp[h1],by simp[hw]⟩
  ·simp -implicitDefEqProofs [h1,Ahh hjn h1]
 ·simp -implicitDefEqProofs [hjn,Wt (by omega) hp]
def IL (b:EG):Bool:=decide (M6 b.limit 0 9)&&decide (b.drops.length<=6)&&decide (b.strips.length<=6)&&allIn b.drops 0 255&&allIn b.strips 0 255
abbrev XD:Prop:=∀b:EG,Kh b->R [arg (DT b)] [] (B (IL b)) []
theorem AnQ (hI:Vf (D 71)) (hB:RN (D 217)):XD (Body D QE):=by
 intro b hl
 simp -implicitDefEqProofs
 refine Aa (hI _ _ _) ?_
 by_cases h1:M6 b.limit 0 9
 rotate_left
 ·simp -implicitDefEqProofs [h1,IL]
 by_cases h2:b.drops.length<=6
 rotate_left
 ·have h2':¬(b.drops.length:Int)<=6:=by omega
  simp -implicitDefEqProofs [h1,h2',h2,IL]
 have h2':(b.drops.length:Int)<=6:=by omega
 by_cases h3:b.strips.length<=6
 rotate_left
 ·have h3':¬(b.strips.length:Int)<=6:=by omega
  simp -implicitDefEqProofs [h1,h2',h3',h3,IL]
 have h3':(b.strips.length:Int)<=6:=by omega
 simp -implicitDefEqProofs [h1,h2',h3']
 refine Aa (hB _ hl.1) ?_
 by_cases h4:allIn b.drops 0 255=true
 rotate_left
 ·simp -implicitDefEqProofs [h4,IL]
 simp -implicitDefEqProofs [h4]
 refine Aa (hB _ hl.2) ?_
 simp -implicitDefEqProofs [IL,h1,h2,h3,h4]
theorem AJ4 (hI:Vf (D 114)) (hB:AsS (D 233)):XD (Body D Ayb):=by
 intro b hl
 simp -implicitDefEqProofs
 refine Aa (hI _ _ _) ?_
 by_cases h1:M6 b.limit 0 9
 rotate_left
 ·simp -implicitDefEqProofs [h1,IL]
 by_cases h2:b.drops.length<=6
 rotate_left
 ·have h2':¬(b.drops.length:Int)<=6:=by omega
  simp -implicitDefEqProofs [h1,h2',h2,IL]
 have h2':(b.drops.length:Int)<=6:=by omega
 by_cases h3:b.strips.length<=6
 rotate_left
 ·have h3':¬(b.strips.length:Int)<=6:=by omega
  simp -implicitDefEqProofs [h1,h2',h3',h3,IL]
 have h3':(b.strips.length:Int)<=6:=by omega
 simp -implicitDefEqProofs [h1,h2',h3']
 refine Aa (hB _ _ _ hl.1) ?_
 by_cases h4:allIn b.drops 0 255=true
 rotate_left
 ·simp -implicitDefEqProofs [h4,IL]
 simp -implicitDefEqProofs [h4]
 refine Aa (hB _ _ _ hl.2) ?_
 simp -implicitDefEqProofs [IL,h1,h2,h3,h4]
def Fg (w:World) (i:Int) (b:EG):World×Bool:=
 if 0<=i then(match w.ends[i.toNat]? with
  | some x=>if IL b=true/\x.path.length<4 then({w with ends:=w.ends.set i.toNat ⟨x.versions,x.tags,x.path++ [b],x.cls⟩},true)else(w,false)
  | none=>(w,false))else(w,false)
abbrev UJ:Prop:=∀(w:World) (i:Int) (b:EG),Af w<=4194304->Gm b<=4194304->R [arg (Bu w),I i,arg (DT b)] [] (.tup [.agg (Bu (Fg w i b).1),B (Fg w i b).2]) []
theorem Ahl {w:World} {i:Int} {b:EG} (h:¬NJ i 0 ((w.ends.length:Int)-1)):Fg w i b=(w,false):=by
 unfold Fg
 by_cases h0:0<=i
 ·rw[if_pos h0,List.getElem?_eq_none (by omega)]
 ·rw[if_neg h0]
theorem AmP {b:EG} (h:Gm b<=4194304):Kh b:=by unfold Gm at h;unfold Kh Nr maxLen;omega
theorem AiB (hC:EF (D 22)) (hI:Vf (D 71)) (hB:XD (D 152)):UJ (Body D Ni):=by
 intro w i b h hb
 have hl:=FE h
 have hw:IntKind.i64.wrap ((w.ends.length:Int)-1)=(w.ends.length:Int)-1:=Ad (by omega) (by omega)
 simp -implicitDefEqProofs
 refine Aa (hC w h) ?_
 simp -implicitDefEqProofs [hw]
 refine Aa (hI _ _ _) ?_
 by_cases h1:NJ i 0 ((w.ends.length:Int)-1)
 rotate_left
 ·simp -implicitDefEqProofs [h1,Ahl h1]
 obtain⟨j,rfl⟩:∃j:Nat,i=j:=⟨i.toNat,by omega⟩
 have hj:j<w.ends.length:=by omega
 simp -implicitDefEqProofs [h1]
 refine Aa (hB b (AmP hb)) ?_
 by_cases h2:IL b=true
 rotate_left
 ·have e:Fg w j b=(w,false):=by unfold Fg;rw[if_pos (by omega)];simp[hj,h2]
  simp -implicitDefEqProofs [h2,e]
 by_cases h3:w.ends[j].path.length<4
 rotate_left
 ·have e:Fg w j b=(w,false):=by unfold Fg;rw[if_pos (by omega)];simp[hj,h3]
  have h3':(4:Int)<=w.ends[j].path.length:=by omega
  simp -implicitDefEqProofs [h2,hj,h3',e]
 have e:Fg w j b=({w with ends:=w.ends.set j ⟨w.ends[j].versions,w.ends[j].tags,w.ends[j].path++ [b],w.ends[j].cls⟩},true):=by unfold Fg;rw[if_pos (by omega)];simp[hj,h2,h3]
 have h3':¬(4:Int)<=w.ends[j].path.length:=by omega
 have hz:Gm b=b.drops.length+b.strips.length:=rfl
 have b1:b.drops.length*8<=1099511627776:=by omega
 have b2:b.strips.length*8<=1099511627776:=by omega
 have b3:(w.ends[j].path.length+1)*64<=1099511627776:=by omega
 have hf:j*4+2<w.ends.length*4:=by omega
 simp -implicitDefEqProofs [h2,hj,h3',e,hf,b1,b2,b3]
 have hs:=VN hj (w.ends[j].path++ [b]) (n:=w.ends[j].path.length+1) (by simp)
 simpa[List.flatMap_append]using hs
theorem AHZ (hC:EF (D 38)) (hE:Au5 (D 117)) (hB:XD (D 183)) (hP:AAf (D 172)):UJ (Body D Aw0):=by
 intro w i b h hb
 have hl:=FE h
 simp -implicitDefEqProofs
 refine Aa (hC w h) ?_
 simp -implicitDefEqProofs
 refine Aa (hE w i hl) ?_
 by_cases h1:NJ i 0 ((w.ends.length:Int)-1)
 rotate_left
 ·simp -implicitDefEqProofs [h1,Ahl h1]
 obtain⟨j,rfl⟩:∃j:Nat,i=j:=⟨i.toNat,by omega⟩
 have hj:j<w.ends.length:=by omega
 simp -implicitDefEqProofs [h1]
 refine Aa (hB b (AmP hb)) ?_
 by_cases h2:IL b=true
 rotate_left
 ·have e:Fg w j b=(w,false):=by unfold Fg;rw[if_pos (by omega)];simp[hj,h2]
  simp -implicitDefEqProofs [h2,e]
 by_cases h3:w.ends[j].path.length<4
 rotate_left
 ·have e:Fg w j b=(w,false):=by unfold Fg;rw[if_pos (by omega)];simp[hj,h3]
  have h3':(4:Int)<=w.ends[j].path.length:=by omega
  simp -implicitDefEqProofs [h2,hj,h3',e]
 have e:Fg w j b=({w with ends:=w.ends.set j ⟨w.ends[j].versions,w.ends[j].tags,w.ends[j].path++ [b],w.ends[j].cls⟩},true):=by unfold Fg;rw[if_pos (by omega)];simp[hj,h2,h3]
 have h3':¬(4:Int)<=w.ends[j].path.length:=by omega
 have hz:Gm b=b.drops.length+b.strips.length:=rfl
 have b3:(w.ends[j].path.length+1)*64<=1099511627776:=by omega
 have hf:j*4+2<w.ends.length*4:=by omega
 simp -implicitDefEqProofs [h2,hj,h3',e,hf]
 have hb6:Gm b<=12:=by
  have:=h2
  simp only[IL,Bool.and_eq_true,decide_eq_true_eq]at this
  unfold Gm;omega
 refine Aa (hP [b] (by unfold Cr;simp;omega)) ?_
 simp -implicitDefEqProofs [h2,hj,h3',e,hf,b3]
 have hs:=VN hj (w.ends[j].path++ [b]) (n:=w.ends[j].path.length+1) (by simp)
 simpa[List.flatMap_append]using hs
abbrev As8 (D:Dn) (R:Rel):Prop:=∀(xs:List Ai) (g:Nat) (caps:List V) (p:Ai->Bool),xs.length<=maxLen->Atz caps->(∀(j:Nat) (h:j<xs.length),D g (arg (Ah xs[j])::caps) [] (B (p xs[j])) [])->R [.sl 1 4 xs.length (xs.flatMap Ah),.fn g caps] [] (I (Rc p xs 0)) []
theorem Azb:As8 D (Body D Aft):=by
 intro xs g caps p hl hc hp
 unfold maxLen at hl
 simp -implicitDefEqProofs
 refine Ag (fun k s=>∃j,j+k=xs.length/\Rc p xs 0=Rc p (xs.drop j) j/\s=⟨[.sl 1 4 xs.length (xs.flatMap Ah),.fn g caps,.undef,.undef,.sc (.int .i64 xs.length),.sc (.int .i64 j),.undef,.undef],[]⟩) ?_ xs.length _ ⟨0,by simp,by simp,by simp⟩
 intro k s ⟨j,hj,hi,hs⟩
 subst hs
 by_cases hjn:j<xs.length
 ·have hw:=Cv (j:=j) (by omega)
  rw[AkE hjn]at hi
  simp -implicitDefEqProofs [hjn,hc.1,hc.2.1]
  refine Aa (hp j hjn) ?_
  by_cases he:p xs[j]=true
  ·rw[if_pos he]at hi
   simp -implicitDefEqProofs [he,hi]
  ·rw[if_neg he]at hi
   simp -implicitDefEqProofs [he]
   exact⟨k-1,by omega,j+1,by omega,by simpa using hi,by simp[hw]⟩
 ·rw[Am6 (by omega)]at hi
  simp -implicitDefEqProofs [hjn,hi]
abbrev AsI (D:Dn) (R:Rel):Prop:=∀(xs:List Ai) (g:Nat) (caps:List V) (p:Ai->Bool),xs.length<=maxLen->Atz caps->(∀(j:Nat) (h:j<xs.length),D g (arg (Ah xs[j])::caps) [] (B (p xs[j])) [])->R [.sl 1 4 xs.length (xs.flatMap Ah),.fn g caps] [] (B (xs.any p)) []
theorem AxD (hI:As8 D (D 393)):AsI D (Body D Afs):=by
 intro xs g caps p hl hc hp
 simp -implicitDefEqProofs [hc.2.2]
 refine Aa (hI xs g caps p hl hc hp) ?_
 have e:decide (0<=Rc p xs 0)=xs.any p:=by rw[Bool.eq_iff_iff];simp only[decide_eq_true_eq];rw[AjA (by omega)]
 simp -implicitDefEqProofs [e]
abbrev Att (D:Dn) (R:Rel):Prop:=∀(xs:List Eo) (g:Nat) (caps:List V) (p:Eo->Bool),xs.length<=maxLen->Atz caps->(∀(j:Nat) (h:j<xs.length),D g (arg (Az xs[j])::caps) [] (B (p xs[j])) [])->R [.sl 1 8 xs.length (xs.flatMap Az),.fn g caps] [] (I (Rc p xs 0)) []
theorem AAt:Att D (Body D Ajb):=by
 intro xs g caps p hl hc hp
 unfold maxLen at hl
 simp -implicitDefEqProofs
 refine Ag (fun k s=>∃j,j+k=xs.length/\Rc p xs 0=Rc p (xs.drop j) j/\s=⟨[.sl 1 8 xs.length (xs.flatMap Az),.fn g caps,.undef,.undef,.sc (.int .i64 xs.length),.sc (.int .i64 j),.undef,.undef],[]⟩) ?_ xs.length _ ⟨0,by simp,by simp,by simp⟩
 intro k s ⟨j,hj,hi,hs⟩
 subst hs
 by_cases hjn:j<xs.length
 ·have hw:=Cv (j:=j) (by omega)
  rw[AkE hjn]at hi
  simp -implicitDefEqProofs [hjn,hc.1,hc.2.1]
  refine Aa (hp j hjn) ?_
  by_cases he:p xs[j]=true
  ·rw[if_pos he]at hi
   simp -implicitDefEqProofs [he,hi]
  ·rw[if_neg he]at hi
   simp -implicitDefEqProofs [he]
   exact⟨k-1,by omega,j+1,by omega,by simpa using hi,by simp[hw]⟩
 ·rw[Am6 (by omega)]at hi
  simp -implicitDefEqProofs [hjn,hi]
abbrev As0 (D:Dn) (R:Rel):Prop:=∀(xs:List Eo) (g:Nat) (caps:List V) (p:Eo->Bool),xs.length<=maxLen->Atz caps->(∀(j:Nat) (h:j<xs.length),D g (arg (Az xs[j])::caps) [] (B (p xs[j])) [])->R [.sl 1 8 xs.length (xs.flatMap Az),.fn g caps] [] (B (xs.any p)) []
theorem Ayd (hI:Att D (D 403)):As0 D (Body D Afv):=by
 intro xs g caps p hl hc hp
 simp -implicitDefEqProofs [hc.2.2]
 refine Aa (hI xs g caps p hl hc hp) ?_
 have e:decide (0<=Rc p xs 0)=xs.any p:=by rw[Bool.eq_iff_iff];simp only[decide_eq_true_eq];rw[AjA (by omega)]
 simp -implicitDefEqProofs [e]
abbrev Au4 (D:Dn) (R:Rel):Prop:=∀(xs:List EG) (g:Nat) (caps:List V) (p:EG->Bool),xs.length<=maxLen->Atz caps->(∀(j:Nat) (h:j<xs.length),D g (arg (DT xs[j])::caps) [] (B (p xs[j])) [])->R [.sl 1 4 xs.length (xs.flatMap DT),.fn g caps] [] (I (Rc p xs 0)) []
theorem ADz:Au4 D (Body D AlU):=by
 intro xs g caps p hl hc hp
 unfold maxLen at hl
 simp -implicitDefEqProofs
 refine Ag (fun k s=>∃j,j+k=xs.length/\Rc p xs 0=Rc p (xs.drop j) j/\s=⟨[.sl 1 4 xs.length (xs.flatMap DT),.fn g caps,.undef,.undef,.sc (.int .i64 xs.length),.sc (.int .i64 j),.undef,.undef],[]⟩) ?_ xs.length _ ⟨0,by simp,by simp,by simp⟩
 intro k s ⟨j,hj,hi,hs⟩
 subst hs
 by_cases hjn:j<xs.length
 ·have hw:=Cv (j:=j) (by omega)
  rw[AkE hjn]at hi
  simp -implicitDefEqProofs [hjn,hc.1,hc.2.1]
  refine Aa (hp j hjn) ?_
  by_cases he:p xs[j]=true
  ·rw[if_pos he]at hi
   simp -implicitDefEqProofs [he,hi]
  ·rw[if_neg he]at hi
   simp -implicitDefEqProofs [he]
   exact⟨k-1,by omega,j+1,by omega,by simpa using hi,by simp[hw]⟩
 ·rw[Am6 (by omega)]at hi
  simp -implicitDefEqProofs [hjn,hi]
abbrev As3 (D:Dn) (R:Rel):Prop:=∀(xs:List EG) (g:Nat) (caps:List V) (p:EG->Bool),xs.length<=maxLen->Atz caps->(∀(j:Nat) (h:j<xs.length),D g (arg (DT xs[j])::caps) [] (B (p xs[j])) [])->R [.sl 1 4 xs.length (xs.flatMap DT),.fn g caps] [] (B (xs.any p)) []
theorem AAs (hI:Au4 D (D 406)):As3 D (Body D AjG):=by
 intro xs g caps p hl hc hp
 simp -implicitDefEqProofs [hc.2.2]
 refine Aa (hI xs g caps p hl hc hp) ?_
 have e:decide (0<=Rc p xs 0)=xs.any p:=by rw[Bool.eq_iff_iff];simp only[decide_eq_true_eq];rw[AjA (by omega)]
 simp -implicitDefEqProofs [e]
theorem ALp {xs:List Eo} {j:Nat} (h:j<xs.length):xs[j].dialed.up.length<=Cr Ip xs:=by
 have:=size_at (f:=Ip) h
 simp only[Ip,Cb]at this⊢
 omega
theorem AG4 {w:World} (h:Af w<=4194304) {j:Nat} (hj:j<w.log.length):w.log[j].dialed.up.length<=maxLen:=by
 have:=ALp hj
 unfold Af at h
 unfold maxLen;omega
def Avc (w:World) (l:Eo):Bool:=l.on&&Lj w.rollout.version l.dialed
abbrev AGT:Prop:=∀(w:World) (l:Eo),l.dialed.up.length<=maxLen->R [arg (Bu w),arg (Az l)] [] (B (Avc w l)) []
theorem APr (hB:PN (D 144)):AGT (Body D AMj):=by
 intro w l hl
 by_cases h:l.on=true
 ·simp -implicitDefEqProofs [h]
  refine Aa (hB l.dialed _ hl) ?_
  simp -implicitDefEqProofs [Avc,h]
 ·simp -implicitDefEqProofs [h,Avc]
theorem AJI (hB:PN (D 175)):AGT (Body D Axw):=by
 intro w l hl
 by_cases h:l.on=true
 ·simp -implicitDefEqProofs [h]
  refine Aa (hB l.dialed _ hl) ?_
  simp -implicitDefEqProofs [Avc,h]
 ·simp -implicitDefEqProofs [h,Avc]
abbrev AxG:Prop:=∀(w:World),Af w<=4194304->R [arg (Bu w)] [] (B (decide (w.hurt=cntF (Avc w) w.log))) []
theorem AOv (hB:AGT (D 158)):AxG (Body D ALD):=by
 intro w hsz
 have hl:=Akl hsz
 simp -implicitDefEqProofs
 refine Ag (fun k s=>∃j,j+k=w.log.length/\s=⟨[.undef,.ptr 0 0,.undef,.sc (.int .i64 (cntF (Avc w) (w.log.take j))),.sc (.int .i64 j),.undef,.undef],[.var ((Bu w).map (AO 1))]⟩) ?_ w.log.length _ ⟨0,by simp,by simp[cntF]⟩
 intro k s ⟨j,hj,hs⟩
 subst hs
 by_cases hjn:j<w.log.length
 ·have hw:=Cv (j:=j) (by omega)
  have hc:=AaP (f:=Avc w) hjn
  have hcl:=Afa (f:=Avc w) (xs:=w.log) (j:=j) (by omega)
  have hw2:IntKind.i64.wrap ((cntF (Avc w) (w.log.take j):Int)+1)=(cntF (Avc w) (w.log.take j)+1:Nat):=by rw[Ad (by omega) (by omega)];simp
  simp -implicitDefEqProofs [hjn]
  refine Aa (hB w w.log[j] (AG4 hsz hjn)) ?_
  by_cases he:Avc w w.log[j]=true
  ·simp -implicitDefEqProofs [he]
   exact⟨k-1,by omega,j+1,by omega,by rw[hc,hw2];simp[he],by simp[hw]⟩
  ·simp -implicitDefEqProofs [he]
   exact⟨k-1,by omega,j+1,by omega,by rw[hc];simp[he],by simp[hw]⟩
 ·have hx:=Afj (f:=Avc w) (xs:=w.log) (j:=j) (by omega)
  simp -implicitDefEqProofs [hjn,hx]
  exact decide_eq_decide.2 eq_comm
theorem AGi (hB:AGT (D 196)):AxG (Body D Avz):=by
 intro w hsz
 have hl:=Akl hsz
 simp -implicitDefEqProofs
 refine Ag (fun k s=>∃j o,j+k=w.log.length/\s=⟨[.undef,.ptr 0 0,.undef,.sc (.int .i64 (cntF (Avc w) (w.log.take j))),.undef,.sl 1 8 w.log.length (w.log.flatMap Az),.sc (.int .i64 w.log.length),.sc (.int .i64 j),.undef,.undef],[.var ((Bu w).map (AO 1)),o]⟩) ?_ w.log.length _ ⟨0,.free,by simp,by simp[cntF]⟩
 intro k s ⟨j,o,hj,hs⟩
 subst hs
 by_cases hjn:j<w.log.length
 ·have hw:=Cv (j:=j) (by omega)
  have hc:=AaP (f:=Avc w) hjn
  have hcl:=Afa (f:=Avc w) (xs:=w.log) (j:=j) (by omega)
  have hw2:IntKind.i64.wrap ((cntF (Avc w) (w.log.take j):Int)+1)=(cntF (Avc w) (w.log.take j)+1:Nat):=by rw[Ad (by omega) (by omega)];simp
  simp -implicitDefEqProofs [hjn]
  refine Aa (hB w w.log[j] (AG4 hsz hjn)) ?_
  by_cases he:Avc w w.log[j]=true
  ·simp -implicitDefEqProofs [he]
   exact⟨k-1,by omega,j+1,by omega,by rw[hc,hw2];simp[he],by simp[hw]⟩
  ·simp -implicitDefEqProofs [he]
   exact⟨k-1,by omega,j+1,by omega,by rw[hc];simp[he],by simp[hw]⟩
 ·have hx:=Afj (f:=Avc w) (xs:=w.log) (j:=j) (by omega)
  simp -implicitDefEqProofs [hjn,hx,Aqs]
def BH (t:Int):Bool:=decide (M6 t 0 255)&&decide (t.tmod 16=10)
abbrev Ib:Prop:=∀t:Int,R [I t] [] (B (BH t)) []
theorem Ach (hI:Vf (D 71)):Ib (Body D Jh):=by
 intro t
 simp -implicitDefEqProofs
 refine Aa (hI _ _ _) ?_
 by_cases h:M6 t 0 255
 ·simp -implicitDefEqProofs [h,BH,Aqs]
 ·simp -implicitDefEqProofs [h,BH]
theorem AEB (hI:Vf (D 114)):Ib (Body D AuA):=by
 intro t
 simp -implicitDefEqProofs
 refine Aa (hI _ _ _) ?_
 by_cases h:M6 t 0 255
 ·simp -implicitDefEqProofs [h,BH,Aqs]
 ·simp -implicitDefEqProofs [h,BH]
abbrev At7:Prop:=∀xs:List Int,xs.length<=maxLen->R [.sl 1 1 xs.length (ints xs)] [] (B (xs.any BH)) []
theorem QR {α:Type} {p:α->Bool} {xs:List α} {j:Nat} (h:j<xs.length) (hp:p xs[j]=true):xs.any p=true:=List.any_eq_true.2 ⟨_,List.getElem_mem h,hp⟩
theorem Abh {α:Type} {p:α->Bool} {xs:List α} {j:Nat} (h:j<xs.length):(xs.take (j+1)).any p=((xs.take j).any p||p xs[j]):=by
 have e:xs.take (j+1)=xs.take j++ [xs[j]]:=by simp
 rw[e,List.any_append];simp
theorem any_none {α:Type} {p:α->Bool} {xs:List α} {j:Nat} (h:xs.length<=j) (ha:(xs.take j).any p=false):xs.any p=false:=by rwa [List.take_of_length_le h]at ha
theorem AN1 (hR:Ib (D 250)):At7 (Body D AKg):=by
 intro xs hl
 unfold maxLen at hl
 simp -implicitDefEqProofs
 refine Ag (fun k s=>∃j,j+k=xs.length/\(xs.take j).any BH=false/\s=⟨[.sl 1 1 xs.length (ints xs),.undef,.sc (.int .i64 j),.undef,.undef],[]⟩) ?_ xs.length _ ⟨0,by simp,by simp,by simp⟩
 intro k s ⟨j,hj,hp,hs⟩
 subst hs
 by_cases hjn:j<xs.length
 ·have hw:=Cv (j:=j) (by omega)
  simp -implicitDefEqProofs [hjn]
  refine Aa (hR _) ?_
  by_cases h1:BH xs[j]=true
  ·have e:=QR hjn h1
   generalize xs.any BH=b at e
   subst e
   simp -implicitDefEqProofs [h1]
  ·simp -implicitDefEqProofs [h1]
   exact⟨k-1,by omega,j+1,by omega,by have:=Abh (p:=BH) hjn;rw[hp]at this;simpa[h1]using this,by simp[hw]⟩
 ·have e:=any_none (by omega) hp
  generalize xs.any BH=b at e
  subst e
  simp -implicitDefEqProofs [hjn]
theorem AES (hR:Ib (D 279)) (hC:Ate D (D 267)):At7 (Body D AuF):=by
 intro xs hl
 simp -implicitDefEqProofs
 refine Aa (hC xs 279 _ BH hl Api (fun x=>hR x)) ?_
 generalize xs.any BH=b
 simp -implicitDefEqProofs
def Ayi (l:Eo):Bool:=l.dialed.deal.ok&&(l.dialed.deal.tags.any BH|| !decide (M6 l.dialed.deal.version 1 9))
abbrev AAr:Prop:=∀w:World,Af w<=4194304->R [arg (Bu w)] [] (B (!w.log.any Ayi)) []
theorem AG9 {w:World} (h:Af w<=4194304) {j:Nat} (hj:j<w.log.length):w.log[j].dialed.deal.tags.length<=maxLen:=by
 have:=size_at (f:=Ip) hj
 have e:Ip w.log[j]=w.log[j].dialed.deal.tags.length+w.log[j].dialed.up.length:=rfl
 unfold Af at h
 unfold maxLen;omega
theorem AO3 (hH:At7 (D 221)) (hI:Vf (D 71)):AAr (Body D AMb):=by
 intro w hsz
 have hl:=Akl hsz
 simp -implicitDefEqProofs
 refine Ag (fun k s=>∃j o1,j+k=w.log.length/\(w.log.take j).any Ayi=false/\s=⟨[.undef,.ptr 0 0,.undef,.sc (.int .i64 j),.undef,.undef,.undef],[.var ((Bu w).map (AO 1)),o1]⟩) ?_ w.log.length _ ⟨0,.free,by simp,by simp,by simp⟩
 intro k s ⟨j,o1,hj,hp,hs⟩
 subst hs
 by_cases hjn:j<w.log.length
 ·have hw:=Cv (j:=j) (by omega)
  have hst:=Abh (p:=Ayi) hjn
  rw[hp,Bool.false_or]at hst
  by_cases h1:w.log[j].dialed.deal.ok=true
  rotate_left
  ·simp -implicitDefEqProofs [hjn,h1]
   exact⟨k-1,by omega,j+1,by omega,by simpa[Ayi,h1]using hst,by simp[hw]⟩
  simp -implicitDefEqProofs [hjn,h1]
  refine Aa (hH _ (AG9 hsz hjn)) ?_
  by_cases h2:w.log[j].dialed.deal.tags.any BH=true
  ·have e:=QR (p:=Ayi) hjn (by unfold Ayi;rw[h1,h2];rfl)
   generalize w.log.any Ayi=b at e
   generalize w.log[j].dialed.deal.tags.any BH=c at h2
   subst e;subst h2
   simp -implicitDefEqProofs
  have h2':w.log[j].dialed.deal.tags.any BH=false:=by simpa only[Bool.not_eq_true]using h2
  have hd:Ayi w.log[j]= !decide (M6 w.log[j].dialed.deal.version 1 9):=by unfold Ayi;rw[h1,h2'];rfl
  generalize w.log[j].dialed.deal.tags.any BH=c at h2'
  subst h2'
  simp -implicitDefEqProofs
  refine Aa (hI _ _ _) ?_
  by_cases h3:M6 w.log[j].dialed.deal.version 1 9
  ·simp -implicitDefEqProofs [h3]
   exact⟨k-1,by omega,j+1,by omega,by have:=hst;rw[hd]at this;simpa[h3]using this,by simp[hw]⟩
  ·have e:=QR (p:=Ayi) hjn (by rw[hd];simp[h3])
   generalize w.log.any Ayi=b at e
   subst e
   simp -implicitDefEqProofs [h3]
 ·have e:=any_none (by omega) hp
  generalize w.log.any Ayi=b at e
  subst e
  simp -implicitDefEqProofs [hjn]
abbrev AyV:Prop:=∀l:Eo,l.dialed.deal.tags.length<=maxLen->R [arg (Az l)] [] (B (Ayi l)) []
theorem AId (hH:At7 (D 270)) (hI:Vf (D 114)):AyV (Body D Avr):=by
 intro l hl
 by_cases h1:l.dialed.deal.ok=true
 rotate_left
 ·simp -implicitDefEqProofs [h1,Ayi]
 simp -implicitDefEqProofs [h1]
 refine Aa (hH _ hl) ?_
 unfold Ayi
 rw[h1]
 generalize l.dialed.deal.tags.any BH=c
 cases c
 rotate_left
 ·simp -implicitDefEqProofs
 simp -implicitDefEqProofs
 refine Aa (hI _ _ _) ?_
 simp -implicitDefEqProofs
theorem AIu (h1:AyV (D 247)) (hC:As0 D (D 248)):AAr (Body D AwX):=by
 intro w hsz
 simp -implicitDefEqProofs
 refine Aa (hC w.log 247 _ Ayi (by have:=Akl hsz;unfold maxLen;omega) Api (fun j hj=>h1 _ (AG9 hsz hj))) ?_
 generalize w.log.any Ayi=b
 simp -implicitDefEqProofs
set_option maxRecDepth 100000
def Aup:=mk 0xc208000402218 0xc020202ec03420110101 [0x188400002804480802,0x3204400200042423c08000201b020,0x100031a105a1c422443014825080bc8621910086040e006039824cd0106404a108120180e50cc9101000404000040e8860203546,0x2044000861108280001040c62,0x84002102300200021231e4084221a441041482,634167071344800,0x102000861108380001040cc2]
def Aze:=dT 69932027928
def Aun:=mk 0x7b4485a40004312d 0x601010702920101218815c948405006022ec03820110101 [0x40008801100000000852880000100088008200088443d22c0818802,0xa420c41290b4950c2840c4242d21410807a625212908004400409564242120000000214a20000040022002080022110f485600110404004089798a4188c731483118e629062300049918004227a22121,0x18c1140e6093300265904a4001010000102c21a0c05c44,0x4184600000084f4cc4f44862,0x30851c40020101c0058c4b080,0x4a4e2429c84a0,5211685150525632,0x50a480802000607243603a00b18968820c058e0,0xa1005a528014c105a53061686a10c0000c42820440420a2d2941694a0a4852084a039a1809484a0400041296c105b04702da0000c0504094204140051000848c02003189400a20010900040063129e90b,0x4212000102214044128,0x21e409000004242d2145021086000e58948485a428a258086000a58940080421b8004098008025220080088250008002001c9129494b,0x61000000427a6627a2416a]
def Ay3:=dT 0x384240b484210802d
def Avt:=mk 8864812538921 0x30080838129008090c40ae4242028030110101 [0x1004000021089000818802,0xc11100461000000211a822,0xce2304a30010080e0025a44b040,0x8498789c8460,0x41110210404262200088002200000850b00422e344855082,0x412900400080c4870484444f44ca0,0x204c41120c45184800600042483d01084634804104ac418c2,0x270800040b88088e0,0x1cc509000000012062c3620410a,0xc200084108028401206343620612a]
def AAH:=dT 0x284211882108029
def At1:=mk 35459388416408 0xc02ec0342011021815e0402280310101 [4573968443376642,208306439200,0x5b020a2920270928421c9848830f00e1c1408ac2c4184080c004000e4101c0406203144,0x43084004080008c40c60,0x5b420a292027092842149848830f00e1c1408ac2c4184080c004000e4101c0406203184,0x1840300022080000408a2,0x6100c002882400208c24002c108868084211a440c400418c2]
def Ayz:=dT 491275030552
attribute [simp] Aup Aun Avt At1
abbrev AtN (D:Dn) (R:Rel):Prop:=∀(xs:List Ext) (g:Nat) (caps:List V) (p:Ext->Bool),xs.length<=maxLen->Atz caps->(∀(j:Nat) (h:j<xs.length),D g (arg (Cc xs[j])::caps) [] (B (p xs[j])) [])->R [.sl 1 2 xs.length (xs.flatMap Cc),.fn g caps] [] (I (Rc p xs 0)) []
theorem AD7:AtN D (Body D AlL):=by
 intro xs g caps p hl hc hp
 unfold maxLen at hl
 simp -implicitDefEqProofs
 refine Ag (fun k s=>∃j,j+k=xs.length/\Rc p xs 0=Rc p (xs.drop j) j/\s=⟨[.sl 1 2 xs.length (xs.flatMap Cc),.fn g caps,.undef,.undef,.sc (.int .i64 xs.length),.sc (.int .i64 j),.undef,.undef],[]⟩) ?_ xs.length _ ⟨0,by simp,by simp,by simp⟩
 intro k s ⟨j,hj,hi,hs⟩
 subst hs
 by_cases hjn:j<xs.length
 ·have hw:=Cv (j:=j) (by omega)
  rw[AkE hjn]at hi
  simp -implicitDefEqProofs [hjn,hc.1,hc.2.1]
  refine Aa (hp j hjn) ?_
  by_cases he:p xs[j]=true
  ·rw[if_pos he]at hi
   simp -implicitDefEqProofs [he,hi]
  ·rw[if_neg he]at hi
   simp -implicitDefEqProofs [he]
   exact⟨k-1,by omega,j+1,by omega,by simpa using hi,by simp[hw]⟩
 ·rw[Am6 (by omega)]at hi
  simp -implicitDefEqProofs [hjn,hi]
abbrev Atu (D:Dn) (R:Rel):Prop:=∀(xs:List Ext) (g:Nat) (caps:List V) (p:Ext->Bool),xs.length<=maxLen->Atz caps->(∀(j:Nat) (h:j<xs.length),D g (arg (Cc xs[j])::caps) [] (B (p xs[j])) [])->R [.sl 1 2 xs.length (xs.flatMap Cc),.fn g caps] [] (B (xs.any p)) []
theorem AAJ (hI:AtN D (D 352)):Atu D (Body D Ajk):=by
 intro xs g caps p hl hc hp
 simp -implicitDefEqProofs [hc.2.2]
 refine Aa (hI xs g caps p hl hc hp) ?_
 have e:decide (0<=Rc p xs 0)=xs.any p:=by rw[Bool.eq_iff_iff];simp only[decide_eq_true_eq];rw[AjA (by omega)]
 simp -implicitDefEqProofs [e]
def Gq (t:Int) (x:Ext):Bool:=decide (x.tag=t)
def K7 (l:List Ext) (t:Int):Int:=Rc (Gq t) l 0
abbrev Rj:Prop:=∀(l:List Ext) (t:Int),l.length<=maxLen->R [.sl 1 2 l.length (l.flatMap Cc),I t] [] (I (K7 l t)) []
theorem Amt:Rj (Body D Qt):=by
 intro l t hl
 unfold maxLen at hl
 have hres:K7 l t=Rc (Gq t) l 0:=rfl
 rw[hres]
 simp -implicitDefEqProofs
 refine Ag (fun k s=>∃j,j+k=l.length/\Rc (Gq t) l 0=Rc (Gq t) (l.drop j) j/\s=⟨[.sl 1 2 l.length (l.flatMap Cc),I t,.undef,I j,.undef,.undef],[]⟩) ?_ (l.length) _ ⟨0,by simp,by simp,by simp⟩
 intro k s ⟨j,hj,hi,hs⟩
 subst hs
 by_cases hjn:j<l.length
 ·have hw:=Cv (j:=j) (by omega)
  rw[AkE hjn]at hi
  by_cases he:l[j].tag=t
  ·rw[if_pos (by simp[Gq,he])]at hi
   simp -implicitDefEqProofs [hjn,he,hi]
  ·rw[if_neg (by simp[Gq,he])]at hi
   simp -implicitDefEqProofs [hjn,he]
   exact⟨k-1,by omega,j+1,by omega,by simpa using hi,by simp[hw]⟩
 ·rw[Am6 (by omega)]at hi
  simp -implicitDefEqProofs [hjn,hi]
abbrev AC5:Prop:=∀(x:Ext) (t:Int),R [arg (Cc x),.rptr 1 [I t] 0] [] (B (Gq t x)) []
theorem AJW:AC5 (Body D AwN):=by
 intro x t
 simp -implicitDefEqProofs [Gq,Aqs]
theorem AKa (h1:AC5 (D 351)) (hX:AtN D (D 352)):Rj (Body D AyJ):=by
 intro l t hl
 have hres:K7 l t=Rc (Gq t) l 0:=rfl
 rw[hres]
 simp -implicitDefEqProofs
 refine Aa (hX l 351 _ (Gq t) hl (ABB Api) (fun j h=>h1 l[j] t)) ?_
 simp -implicitDefEqProofs
def SY (x:Ext):Bool:=decide (M6 x.tag 0 255)&&(decide (x.body.length<=4)&&allIn x.body 0 255)
def Qo (l:List Ext) (i:Nat):Bool:=match l[i]? with
 | some x=>SY x&& !(l.take i).any (Gq x.tag)
 | none=>true
theorem Oo {l:List Ext} {i:Nat} (h:i<l.length):Qo l i=(SY l[i]&& !(l.take i).any (Gq l[i].tag)):=by
 unfold Qo
 rw[List.getElem?_eq_getElem h]
def Ej (l:List Ext):Bool:=Oj (Qo l) l.length&&decide (l.length<=6)
theorem AjL {α:Type} {p:α->Bool}:∀ {xs:List α} {i:Int} {j:Nat},0<=i->(h:j<xs.length)->p xs[j]=true->(Rc p xs i<i+j↔(xs.take j).any p=true)
 | x::r,i,0,hi,h,hp=>by
  have:p x=true:=hp
  simp[Rc,this]
 | x::r,i,j+1,hi,h,hp=>by
  by_cases hx:p x=true
  ·simp[Rc,hx];omega
  ·have:=AjL (p:=p) (xs:=r) (i:=i+1) (j:=j) (by omega) (by simpa using h) (by simpa using hp)
   simp only[Rc,hx,List.take_succ_cons,List.any_cons,Bool.false_or]
   rw[<-this]
   simp
   omega
theorem Af9 {l:List Ext} {j:Nat} (h:j<l.length):(K7 l l[j].tag<(j:Int))=((l.take j).any (Gq l[j].tag)=true):=by
 have:=AjL (p:=Gq l[j].tag) (i:=0) (by omega) h (by simp[Gq])
 rw[Int.zero_add]at this
 exact propext this
theorem ADT {l:List Ext} {j:Nat} {t:Int}:(0<=K7 (l.take j) t)=((l.take j).any (Gq t)=true):=AjA (by omega)
theorem PZ {l:List Ext} {j:Nat} (h:j<l.length) (hn:Qo l j=false):Ej l=false:=by
 unfold Ej
 rw[AhE h hn];rfl
abbrev JX:Prop:=∀l:List Ext,OD l->R [.sl 1 2 l.length (l.flatMap Cc)] [] (B (Ej l)) []
theorem Ai0 (hI:Vf (D 71)) (hB:RN (D 217)) (hX:Rj (D 309)):JX (Body D Nu):=by
 intro l hl
 have hll:=hl.1
 simp -implicitDefEqProofs
 refine Ag (fun k s=>∃j,j+k=l.length/\Oj (Qo l) j=true/\s=⟨[.sl 1 2 l.length (l.flatMap Cc),.undef,I j,.undef,.undef],[]⟩) ?_ (l.length) _ ⟨0,by simp,by simp,by simp⟩
 intro k s ⟨j,hj,hr,hs⟩
 subst hs
 by_cases hjn:j<l.length
 ·have hw:=Cv (j:=j) (by omega)
  have hst:=LY (Qo l) j
  have hq:=Oo hjn
  have hb:=P5 hl hjn
  rw[hr,Bool.true_and]at hst
  simp -implicitDefEqProofs [hjn]
  refine Aa (hI _ _ _) ?_
  by_cases h1:M6 l[j].tag 0 255
  rotate_left
  ·have e:=PZ hjn (by rw[hq];simp[SY,h1])
   simp -implicitDefEqProofs [h1,e]
  by_cases h2:l[j].body.length<=4
  rotate_left
  ·have e:=PZ hjn (by rw[hq];simp[SY,h2])
   have h2':(4:Int)<l[j].body.length:=by omega
   simp -implicitDefEqProofs [hjn,h1,h2',e]
  have h2':¬(4:Int)<l[j].body.length:=by omega
  simp -implicitDefEqProofs [hjn,h1,h2']
  refine Aa (hB _ (by unfold maxLen;omega)) ?_
  by_cases h3:allIn l[j].body 0 255=true
  rotate_left
  ·have e:=PZ hjn (by rw[hq];simp[SY,h3])
   simp -implicitDefEqProofs [hjn,h3,e]
  simp -implicitDefEqProofs [hjn,h3]
  refine Aa (hX l _ (by unfold maxLen;omega)) ?_
  by_cases h4:(l.take j).any (Gq l[j].tag)=true
  ·have e:=PZ hjn (by rw[hq];simp only[h4];simp)
   have h4':K7 l l[j].tag<(j:Int):=by rw[Af9 hjn];exact h4
   simp -implicitDefEqProofs [hjn,h4',e]
  ·have h4':¬K7 l l[j].tag<(j:Int):=by rw[Af9 hjn];exact h4
   have h4f:(l.take j).any (Gq l[j].tag)=false:=by simpa using h4
   simp -implicitDefEqProofs [hjn,h4']
   exact⟨k-1,by omega,j+1,by omega,by rw[hst,hq,h4f];simp[SY,h1,h2,h3],by simp[hw]⟩
 ·obtain rfl:j=l.length:=by omega
  have e:Ej l=decide (l.length<=6):=by unfold Ej;rw[hr];rfl
  by_cases h5:l.length<=6
  ·have h5':(l.length:Int)<=6:=by omega
   simp -implicitDefEqProofs [e,h5,h5']
  ·have h5':¬(l.length:Int)<=6:=by omega
   simp -implicitDefEqProofs [e,h5,h5']
theorem AHW (hI:Vf (D 114)) (hX:Rj (D 321)) (hN:AsS (D 233)):JX (Body D AwF):=by
 intro l hl
 have hll:=hl.1
 simp -implicitDefEqProofs
 refine Ag (fun k s=>∃j o0,j+k=l.length/\Oj (Qo l) j=true/\s=⟨[.sl 1 2 l.length (l.flatMap Cc),.undef,.undef,.undef,.sl 1 2 l.length (l.flatMap Cc),I l.length,I j,.undef,.undef],[o0]⟩) ?_ (l.length) _ ⟨0,.free,by simp,by simp,by simp⟩
 intro k s ⟨j,o0,hj,hr,hs⟩
 subst hs
 by_cases hjn:j<l.length
 ·have hw:=Cv (j:=j) (by omega)
  have hst:=LY (Qo l) j
  have hq:=Oo hjn
  have hb:=P5 hl hjn
  rw[hr,Bool.true_and]at hst
  simp -implicitDefEqProofs [hjn]
  refine Aa (hI _ _ _) ?_
  by_cases h1:M6 l[j].tag 0 255
  rotate_left
  ·have e:=PZ hjn (by rw[hq];simp[SY,h1])
   simp -implicitDefEqProofs [h1,e]
  have hjl:j<=l.length:=by omega
  have hmin:min j l.length=j:=by omega
  simp -implicitDefEqProofs [hjn,hjl,hmin,h1]
  have hxx:=hX (l.take j) l[j].tag (by simp;unfold maxLen;omega)
  rw[List.length_take,hmin]at hxx
  refine Aa (hxx) ?_
  by_cases h4:(l.take j).any (Gq l[j].tag)=true
  ·have e:=PZ hjn (by rw[hq];simp only[h4];simp)
   have h4':0<=K7 (l.take j) l[j].tag:=by rw[ADT];exact h4
   simp -implicitDefEqProofs [hjn,h4',e]
  have h4':¬0<=K7 (l.take j) l[j].tag:=by rw[ADT];exact h4
  have h4f:(l.take j).any (Gq l[j].tag)=false:=by simpa using h4
  by_cases h2:l[j].body.length<=4
  rotate_left
  ·have e:=PZ hjn (by rw[hq];simp[SY,h2])
   have h2':(4:Int)<l[j].body.length:=by omega
   simp -implicitDefEqProofs [hjn,h4',h2',e]
  have h2':¬(4:Int)<l[j].body.length:=by omega
  simp -implicitDefEqProofs [hjn,h4',h2']
  refine Aa (hN _ _ _ (by unfold maxLen;omega)) ?_
  by_cases h3:allIn l[j].body 0 255=true
  rotate_left
  ·have e:=PZ hjn (by rw[hq];simp[SY,h3])
   simp -implicitDefEqProofs [hjn,h3,e]
  simp -implicitDefEqProofs [hjn,h3]
  exact⟨k-1,by omega,j+1,by omega,by rw[hst,hq,h4f];simp[SY,h1,h2,h3],by simp[hw]⟩
 ·obtain rfl:j=l.length:=by omega
  have e:Ej l=decide (l.length<=6):=by unfold Ej;rw[hr];rfl
  by_cases h5:l.length<=6
  ·have h5':(l.length:Int)<=6:=by omega
   simp -implicitDefEqProofs [e,h5,h5']
  ·have h5':¬(l.length:Int)<=6:=by omega
   simp -implicitDefEqProofs [e,h5,h5']
def Ba (l:List Ext):List Int:=l.map (·.tag)
theorem Ale {l:List Ext} {j:Nat} (h:j<l.length):Ba (l.take (j+1))=Ba (l.take j)++ [l[j].tag]:=by
 have e:l.take (j+1)=l.take j++ [l[j]]:=by simp
 unfold Ba
 rw[e,List.map_append];rfl
abbrev UX:Prop:=∀l:List Ext,l.length<=4194304->R [.sl 1 2 l.length (l.flatMap Cc)] [] (.sl 0 1 (Ba l).length (ints (Ba l))) []
theorem AkD:UX (Body D PD):=by
 intro l hl
 simp -implicitDefEqProofs
 refine Ag (fun k s=>∃j o1 o2,j+k=l.length/\s=⟨[.sl 1 2 l.length (l.flatMap Cc),.undef,.arr 3,I j,.undef],[.free,o1,o2,.arr 1 0 (Ba (l.take j)).length (ints (Ba (l.take j)))]⟩) ?_ (l.length) _ ⟨0,.free,.free,by simp,by simp[Ba]⟩
 intro k s ⟨j,o1,o2,hj,hs⟩
 subst hs
 by_cases hjn:j<l.length
 ·have hw:=Cv (j:=j) (by omega)
  have hst:=Ale hjn
  have hlen:(Ba (l.take j)).length=j:=by simp[Ba];omega
  have hb:(j+1)*8<=1099511627776:=by omega
  simp -implicitDefEqProofs [hjn,hlen,hb]
  exact⟨k-1,by omega,j+1,by omega,by simp[hw],by rw[hst];simp[hlen],by rw[hst]⟩
 ·have e:l.take j=l:=List.take_of_length_le (by omega)
  simp -implicitDefEqProofs [hjn,e]
theorem AJg:UX (Body D AxM):=by
 intro l hl
 simp -implicitDefEqProofs
 refine Ag (fun k s=>∃j v3 o1 o2 o3,j+k=l.length/\s=⟨[.undef,.undef,.arr 4,v3,.sl 1 2 l.length (l.flatMap Cc),I l.length,I j,.undef],[.free,o1,o2,o3,.arr 1 0 (Ba (l.take j)).length (ints (Ba (l.take j)))]⟩) ?_ (l.length) _ ⟨0,.undef,.free,.free,.free,by simp,by simp[Ba]⟩
 intro k s ⟨j,v3,o1,o2,o3,hj,hs⟩
 subst hs
 by_cases hjn:j<l.length
 ·have hw:=Cv (j:=j) (by omega)
  have hst:=Ale hjn
  have hlen:(Ba (l.take j)).length=j:=by simp[Ba];omega
  have hb:(j+1)*8<=1099511627776:=by omega
  simp -implicitDefEqProofs [hjn,hlen,hb]
  exact⟨k-1,by omega,j+1,by omega,by simp[hw],by rw[hst];simp[hlen],by rw[hst]⟩
 ·have e:l.take j=l:=List.take_of_length_le (by omega)
  simp -implicitDefEqProofs [hjn,e]
def kept (p:Int->Bool) (l:List Ext):List Ext:=l.filter fun x=>p x.tag
theorem R9 {p:Int->Bool} {l:List Ext} {j:Nat} (h:j<l.length):kept p (l.take (j+1))=kept p (l.take j)++(if p l[j].tag then [l[j]]else []):=AaH (p:=fun x:Ext=>p x.tag) h
theorem Rq {p:Int->Bool} {l:List Ext} {j:Nat} (h:l.length<=j):kept p (l.take j)=kept p l:=AdG h
theorem Rl {p:Int->Bool} {l:List Ext} {j:Nat}:(kept p (l.take j)).length<=j:=Adw
theorem QV {l:List Ext} (h:OD l) (p:Int->Bool):OD (kept p l):=Aia h _
theorem NZ {p:Int->Bool} {l:List Ext} {j:Nat} (h:j<l.length) (hp:p l[j].tag=true):
 (kept p (l.take j)).flatMap Cc++ [.sc (.int .i64 l[j].tag),.sl 0 1 l[j].body.length (ints l[j].body)]=(kept p (l.take (j+1))).flatMap Cc:=by
 rw[R9 h,if_pos hp,List.flatMap_append];simp
theorem G7 {p:Int->Bool} {l:List Ext} {j:Nat} (h:j<l.length) (hp:p l[j].tag=true):(kept p (l.take (j+1))).length=(kept p (l.take j)).length+1:=by
 rw[R9 h,if_pos hp];simp
theorem RG {p:Int->Bool} {l:List Ext} {j:Nat} (h:j<l.length) (hp:¬p l[j].tag=true):kept p (l.take (j+1))=kept p (l.take j):=by
 rw[R9 h,if_neg hp,List.append_nil]
def AE7 (caps:List V):Prop:=∀k,caps.any (m1 k)=false
theorem Atd:AE7 []:=fun _=>rfl
theorem AzJ {fl:Nat} {cs:List V} {o:Nat} {r:List V} (h:AE7 r):AE7 (.rptr fl cs o::r):=fun k=>by
 have:=h k
 simp only[List.any_cons,this,m1,Bool.or_self]
theorem Atc {k g:Nat} {caps:List V} (h:AE7 caps):OB k (.fn g caps)= .fn g caps:=by
 have:=h k
 simp only[OB,m3,m2,this]
 rfl
theorem Aye {a b g:Nat} {caps:List V} (h:AE7 caps):Y0 a b (.fn g caps)= .fn g caps:=by
 have:=h a
 simp only[Y0,m3,m2,this]
 rfl
abbrev At9 (D:Dn) (R:Rel):Prop:=∀(l:List Ext) (g:Nat) (caps:List V) (p:Int->Bool),OD l->Atz caps->AE7 caps->(∀t:Int,D g (I t::caps) [] (B (p t)) [])->
 R [.sl 1 2 l.length (l.flatMap Cc),.fn g caps] [] (.sl 0 2 (kept p l).length ((kept p l).flatMap Cc)) []
theorem AIf:At9 D (Body D Awm):=by
 intro l g caps p hl hc hno hp
 have hll:=hl.1
 simp -implicitDefEqProofs [↓Atc hno,↓Aye hno]
 refine Ag (fun k s=>∃j v4 o1 o2 o3 o4 o5,j+k=l.length/\s=⟨[.undef,.fn g caps,.undef,.arr 6,v4,.sl 1 2 l.length (l.flatMap Cc),I l.length,I j,.undef,.undef],[.free,o1,o2,o3,o4,o5,.arr 2 0 (kept p (l.take j)).length ((kept p (l.take j)).flatMap Cc)]⟩) ?_ (l.length) _ ⟨0,.undef,.free,.free,.free,.free,.free,by simp,by simp[kept,↓Atc hno,↓Aye hno]⟩
 intro k s ⟨j,v4,o1,o2,o3,o4,o5,hj,hs⟩
 subst hs
 by_cases hjn:j<l.length
 ·have hw:=Cv (j:=j) (by omega)
  have hb:=P5 hl hjn
  have h1:l[j].body.length*8<=1099511627776:=by omega
  have hkl:=Rl (p:=p) (l:=l) (j:=j)
  have h2:((kept p (l.take j)).length+1)*32<=1099511627776:=by omega
  simp -implicitDefEqProofs [hjn,↓Atc hno,↓Aye hno,hc.1,hc.2.1]
  refine Aa (hp l[j].tag) ?_
  by_cases he:p l[j].tag=true
  ·have hst:=NZ hjn he
   have hsl:=G7 hjn he
   simp -implicitDefEqProofs [he,hjn,↓Atc hno,↓Aye hno,h1,h2]
   exact⟨k-1,by omega,j+1,by omega,by simp[hw],by rw[hsl],by rw[<-hst]⟩
  ·have hst:=RG hjn he
   simp -implicitDefEqProofs [he,↓Atc hno,↓Aye hno]
   exact⟨k-1,by omega,j+1,by omega,by simp[hw],by rw[hst],by rw[hst]⟩
 ·have e:=Rq (p:=p) (l:=l) (j:=j) (by omega)
  simp -implicitDefEqProofs [hjn,e]
abbrev Az6:Prop:=∀t:Int,R [I t] [] (B true) []
abbrev Axo:Prop:=∀t:Int,R [I t] [] (B (!BH t)) []
theorem AGQ:Az6 (Body D Au0):=by
 intro t
 simp -implicitDefEqProofs
theorem AEa (hR:Ib (D 279)):Axo (Body D AtI):=by
 intro t
 simp -implicitDefEqProofs
 refine Aa (hR t) ?_
 simp -implicitDefEqProofs
theorem AI7 (l:List Ext):kept (fun _=>true) l=l:=by simp[kept]
abbrev U5:Prop:=∀l:List Ext,OD l->R [.sl 1 2 l.length (l.flatMap Cc)] [] (.sl 0 2 l.length (l.flatMap Cc)) []
theorem AHE (h1:Az6 (D 350)) (hK:At9 D (D 298)):U5 (Body D Av9):=by
 intro l hl
 simp -implicitDefEqProofs
 refine Aa (hK l 350 [] (fun _=>true) hl Api Atd (fun t=>h1 t)) ?_
 simp -implicitDefEqProofs [AI7]
def Xy (l:List Ext):List Ext:=kept (fun t=> !BH t) l
def JP (l:List Ext) (tags:List Int):List Ext:=kept (fun t=>decide (t∈tags)) l
abbrev Lv:Prop:=∀l:List Ext,OD l->R [.sl 1 2 l.length (l.flatMap Cc)] [] (.sl 0 2 (Xy l).length ((Xy l).flatMap Cc)) []
theorem ADH (h1:Axo (D 373)) (hK:At9 D (D 298)):Lv (Body D Aue):=by
 intro l hl
 simp -implicitDefEqProofs
 refine Aa (hK l 373 [] (fun t=> !BH t) hl Api Atd (fun t=>h1 t)) ?_
 simp -implicitDefEqProofs [Xy]
abbrev QD:Prop:=∀(l:List Ext) (tags:List Int),OD l->tags.length<=maxLen->R [.sl 1 2 l.length (l.flatMap Cc),.sl 1 1 tags.length (ints tags)] [] (.sl 0 2 (JP l tags).length ((JP l tags).flatMap Cc)) []
abbrev AyO:Prop:=∀(t:Int) (tags:List Int),tags.length<=maxLen->R [I t,.rptr 1 [.sl 0 1 tags.length (ints tags)] 0] [] (B (decide (t∈tags))) []
theorem AzG {a:List Int} {r:List V} (h:Atz r):Atz (.rptr 1 [.sl 0 1 a.length (ints a)] 0::r):=AzW (fun H=>by simp) (fun H=>by simp) h
theorem AIz (hH:UQ (D 188)):AyO (Body D AvJ):=by
 intro t tags hl
 simp -implicitDefEqProofs
 refine Aa (hH tags t hl) ?_
 simp -implicitDefEqProofs
theorem AHN (h1:AyO (D 374)) (hK:At9 D (D 298)):QD (Body D AwQ):=by
 intro l tags hl ht
 simp -implicitDefEqProofs
 refine Aa (hK l 374 _ (fun t=>decide (t∈tags)) hl (AzG Api) (AzJ Atd) (fun t=>h1 t tags ht)) ?_
 simp -implicitDefEqProofs [JP]
theorem AiG (hH:UQ (D 166)):QD (Body D NE):=by
 intro l tags hl ht
 have hll:=hl.1
 have hres:JP l tags=kept (fun t=>decide (t∈tags)) l:=rfl
 rw[hres]
 generalize hp:(fun t=>decide (t∈tags))=p
 simp -implicitDefEqProofs
 refine Ag (fun k s=>∃j o1 o2 o3 o4,j+k=l.length/\s=⟨[.sl 1 2 l.length (l.flatMap Cc),.sl 1 1 tags.length (ints tags),.undef,.arr 5,I j,.undef,.undef],[.free,o1,o2,o3,o4,.arr 2 0 (kept p (l.take j)).length ((kept p (l.take j)).flatMap Cc)]⟩) ?_ (l.length) _ ⟨0,.free,.free,.free,.free,by simp,by simp[kept]⟩
 intro k s ⟨j,o1,o2,o3,o4,hj,hs⟩
 subst hs
 by_cases hjn:j<l.length
 ·have hw:=Cv (j:=j) (by omega)
  have hb:=P5 hl hjn
  have h1:l[j].body.length*8<=1099511627776:=by omega
  have hkl:=Rl (p:=p) (l:=l) (j:=j)
  have h2:((kept p (l.take j)).length+1)*32<=1099511627776:=by omega
  simp -implicitDefEqProofs [hjn]
  refine Aa (hH tags l[j].tag ht) ?_
  have hpe:decide (l[j].tag∈tags)=p l[j].tag:=by rw[<-hp]
  rw[hpe]
  by_cases he:p l[j].tag=true
  ·have hst:=NZ hjn he
   have hsl:=G7 hjn he
   simp -implicitDefEqProofs [he,hjn,h1,h2]
   exact⟨k-1,by omega,j+1,by omega,by simp[hw],by rw[hsl],by rw[<-hst]⟩
  ·have hst:=RG hjn he
   simp -implicitDefEqProofs [he]
   exact⟨k-1,by omega,j+1,by omega,by simp[hw],by rw[hst],by rw[hst]⟩
 ·have e:=Rq (p:=p) (l:=l) (j:=j) (by omega)
  simp -implicitDefEqProofs [hjn,e]
theorem Aak (hR:Ib (D 250)):Lv (Body D IX):=by
 intro l hl
 have hll:=hl.1
 have hres:Xy l=kept (fun t=> !BH t) l:=rfl
 rw[hres]
 generalize hp:(fun t=> !BH t)=p
 simp -implicitDefEqProofs
 refine Ag (fun k s=>∃j o1 o2 o3 o4,j+k=l.length/\s=⟨[.sl 1 2 l.length (l.flatMap Cc),.undef,.arr 5,I j,.undef,.undef],[.free,o1,o2,o3,o4,.arr 2 0 (kept p (l.take j)).length ((kept p (l.take j)).flatMap Cc)]⟩) ?_ (l.length) _ ⟨0,.free,.free,.free,.free,by simp,by simp[kept]⟩
 intro k s ⟨j,o1,o2,o3,o4,hj,hs⟩
 subst hs
 by_cases hjn:j<l.length
 ·have hw:=Cv (j:=j) (by omega)
  have hb:=P5 hl hjn
  have h1:l[j].body.length*8<=1099511627776:=by omega
  have hkl:=Rl (p:=p) (l:=l) (j:=j)
  have h2:((kept p (l.take j)).length+1)*32<=1099511627776:=by omega
  simp -implicitDefEqProofs [hjn]
  refine Aa (hR l[j].tag) ?_
  have hpe:(!BH l[j].tag)=p l[j].tag:=by rw[<-hp]
  by_cases he:p l[j].tag=true
  ·have hst:=NZ hjn he
   have hsl:=G7 hjn he
   have he':BH l[j].tag=false:=by rw[he]at hpe;simpa using hpe
   simp -implicitDefEqProofs [he',hjn,h1,h2]
   exact⟨k-1,by omega,j+1,by omega,by simp[hw],by rw[hsl],by rw[<-hst]⟩
  ·have hst:=RG hjn he
   have he':BH l[j].tag=true:=by simp at he;rw[he]at hpe;simpa using hpe
   simp -implicitDefEqProofs [he']
   exact⟨k-1,by omega,j+1,by omega,by simp[hw],by rw[hst],by rw[hst]⟩
 ·have e:=Rq (p:=p) (l:=l) (j:=j) (by omega)
  simp -implicitDefEqProofs [hjn,e]
theorem Aim (l:List Ext):JP l (Ba l)=l:=by
 unfold JP kept
 rw[List.filter_eq_self]
 intro x hx
 simp only[decide_eq_true_eq]
 exact List.mem_map.2 ⟨x,hx,rfl⟩
theorem QA (l:List Ext):(Ba l).length=l.length:=by simp[Ba]
theorem Ak8 (hT:UX (D 308)) (hK:QD (D 331)):U5 (Body D Nc):=by
 intro l hl
 have hll:=hl.1
 simp -implicitDefEqProofs
 refine Aa (hT l hll) ?_
 simp -implicitDefEqProofs
 refine Aa (hK l (Ba l) hl (by rw[QA];unfold maxLen;omega)) ?_
 simp -implicitDefEqProofs [Aim]
end Go.Eng.T
