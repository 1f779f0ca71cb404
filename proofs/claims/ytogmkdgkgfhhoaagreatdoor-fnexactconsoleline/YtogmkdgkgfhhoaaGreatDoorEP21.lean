/- Own work: part 21 of the proof of FnExactConsoleLine. -/
import Derived.Test.YtogmkdgkgfhhoaaGreatDoorEEngAL
import Derived.Test.YtogmkdgkgfhhoaaGreatDoorEP12
import Derived.Test.YtogmkdgkgfhhoaaGreatDoorEP13
import Derived.Test.YtogmkdgkgfhhoaaGreatDoorEP17
import Derived.Test.YtogmkdgkgfhhoaaGreatDoorEP18
import Derived.Test.YtogmkdgkgfhhoaaGreatDoorEP20
import Derived.Below
import Derived.Sort.Grow
import Derived.Deep.Draws
import Derived.Lib.LaidTab
import Derived.Sort.Row
import Derived.Laws.IdiomCopy
import Derived.Lib.SlicesCompact
import Derived.Laws.AppendOwn
import Derived.Lib.SplitLaws
import Derived.Lib.AtoiAll
set_option linter.unusedSimpArgs false
set_option linter.unusedVariables false
namespace Go.Eng.T
set_option maxRecDepth 20000
variable (R:Rel)
abbrev AQs:Prop:=∀(xs:List BP) (k:Int),0<=k->k+mcL AMr xs<=4611686018427387904->R [.arr 0,I k] [.arr 5 0 xs.length (xs.flatMap AB)] (I (k+mcL AMr xs)) [.arr 5 0 xs.length ((mkL AMr APh xs k).flatMap AB)]
variable (D:Dn)
theorem ATy (hmarkIntS:APo (D 52)):AQs (Body D APY):=by
 intro xs k hk hl
 have hlen:xs.length<=mcL AMr xs:=ARn (fun x=>by unfold AMr;omega) xs
 simp -implicitDefEqProofs
 refine Ag (fun n s=>∃j o,fd o/\j+n=xs.length/\s=⟨[.arr 0,.sc (.int .i64 (k+mcL AMr (xs.take j))),.undef,.sc (.int .i64 j),.undef],[.arr 5 0 xs.length ((mkJ AMr APh xs k j).flatMap AB),o,o]⟩) ?_ xs.length _ ⟨0,.free,Aso,by simp,by simp[ASf,mcL]⟩
 intro n s ⟨j,o,ho,hj,hs⟩
 subst hs
 by_cases hjn:j<xs.length
 ·have hw:=Cv (j:=j) (by omega)
  have hjl:j<=xs.length:=by omega
  have hst:=AQb (mc:=AMr) hjn
  have hle:=ARo (mc:=AMr) (xs:=xs) (j:=j+1)
  have hmc:AMr xs[j]=1+1+xs[j].deal.tags.length+1+xs[j].up.length:=rfl
  have hset:=ASP (mc:=AMr) (mk:=APh) (k:=k) hjn
  generalize hK:k+(mcL AMr (xs.take j):Int)=K at hset⊢
  have hw0:IntKind.i64.wrap (K+1)=K+1:=Ad (by omega) (by omega)
  have hw1:IntKind.i64.wrap (K+1+1)=K+1+1:=Ad (by omega) (by omega)
  have hw3:IntKind.i64.wrap (K+1+1+((xs[j].deal.tags.length:Nat):Int)+1)=K+1+1+((xs[j].deal.tags.length:Nat):Int)+1:=Ad (by omega) (by omega)
  have hf1:j*5+1<xs.length*5:=by omega
  have hf2:j*5+2<xs.length*5:=by omega
  have hf3:j*5+3<xs.length*5:=by omega
  have hf4:j*5+4<xs.length*5:=by omega
  rcases ho with rfl | rfl
  all_goals simp -implicitDefEqProofs [hjn,hjl,APl hjn,hw0,hw1,hw3,hf1,hf2,hf3,hf4]
  all_goals refine Aa (hmarkIntS xs[j].deal.tags _ (by omega) (by omega)) ?_
  all_goals simp -implicitDefEqProofs [hjn,hjl,APl hjn,hw0,hw1,hw3,hf1,hf2,hf3,hf4]
  all_goals refine Aa (hmarkIntS xs[j].up _ (by omega) (by omega)) ?_
  all_goals simp -implicitDefEqProofs [hjn,hjl,APl hjn,hw0,hw1,hw3,hf1,hf2,hf3,hf4]
  all_goals exact⟨n-1,by omega,j+1,.dead,Ar4,by omega,⟨by first | omega | (rw[Ad (by omega) (by omega)];omega),by simp[hw]⟩,by rw[<-hset];rfl,rfl⟩
 ·have hje:=ASN (mc:=AMr) (mk:=APh) (xs:=xs) (k:=k) (j:=j) (by omega)
  have hma:=AQN (mc:=AMr) (xs:=xs) (j:=j) (by omega)
  simp -implicitDefEqProofs [hjn,hje,hma,Cu]
abbrev AQw:Prop:=∀(xs:List BP) (k:Int),0<=k->k+mcL AMr xs<=4611686018427387904->R [.sl 1 5 xs.length ((mkL AMr APh xs k).flatMap AB),I k] [] (I (k+mcL AMr xs)) []
theorem ATv (hheldIntS:APm (D 57)):AQw (Body D AP4):=by
 intro xs k hk hl
 have hlen:xs.length<=mcL AMr xs:=ARn (fun x=>by unfold AMr;omega) xs
 simp -implicitDefEqProofs
 refine Ag (fun n s=>∃j,j+n=xs.length/\s=⟨[.sl 1 5 xs.length ((mkL AMr APh xs k).flatMap AB),.sc (.int .i64 (k+mcL AMr (xs.take j))),.undef,.sc (.int .i64 j),.undef,.undef,.undef,.undef,.undef,.undef],[]⟩) ?_ xs.length _ ⟨0,by simp,by simp[mcL]⟩
 intro n s ⟨j,hj,hs⟩
 subst hs
 by_cases hjn:j<xs.length
 ·have hw:=Cv (j:=j) (by omega)
  have hst:=AQb (mc:=AMr) hjn
  have hle:=ARo (mc:=AMr) (xs:=xs) (j:=j+1)
  have hmc:AMr xs[j]=1+1+xs[j].deal.tags.length+1+xs[j].up.length:=rfl
  have hY:=ASh (mc:=AMr) (mk:=APh) xs k j hjn
  generalize hK:k+(mcL AMr (xs.take j):Int)=K at hY⊢
  have hw0:IntKind.i64.wrap (K+1)=K+1:=Ad (by omega) (by omega)
  have hw1:IntKind.i64.wrap (K+1+1)=K+1+1:=Ad (by omega) (by omega)
  have hn2:¬K+1+1+((xs[j].deal.tags.length:Nat):Int)<0:=by omega
  have hw3:IntKind.i64.wrap (K+1+1+((xs[j].deal.tags.length:Nat):Int)+1)=K+1+1+((xs[j].deal.tags.length:Nat):Int)+1:=Ad (by omega) (by omega)
  have hn4:¬K+1+1+((xs[j].deal.tags.length:Nat):Int)+1+((xs[j].up.length:Nat):Int)<0:=by omega
  simp -implicitDefEqProofs [hjn,hY,APh,hw0,hw1,hn2,hw3,hn4]
  refine Aa (hheldIntS xs[j].deal.tags.length _ (by omega) (by omega)) ?_
  simp -implicitDefEqProofs [hjn,hY,APh,hw0,hw1,hn2,hw3,hn4]
  refine Aa (hheldIntS xs[j].up.length _ (by omega) (by omega)) ?_
  simp -implicitDefEqProofs [hjn,hY,APh,hw0,hw1,hn2,hw3,hn4]
  exact⟨n-1,by omega,j+1,by omega,by first | omega | (rw[Ad (by omega) (by omega)];omega),by simp[hw]⟩
 ·have hma:=AQN (mc:=AMr) (xs:=xs) (j:=j) (by omega)
  simp -implicitDefEqProofs [hjn,hma]
abbrev AQv:Prop:=∀(xs:List Eo) (k:Int),0<=k->k+mcL ANW xs<=4611686018427387904->R [.arr 0,I k] [.arr 8 0 xs.length (xs.flatMap Az)] (I (k+mcL ANW xs)) [.arr 8 0 xs.length ((mkL ANW APc xs k).flatMap Az)]
theorem ATx (hmarkIntS:APo (D 52)):AQv (Body D APU):=by
 intro xs k hk hl
 have hlen:xs.length<=mcL ANW xs:=ARn (fun x=>by unfold ANW;omega) xs
 simp -implicitDefEqProofs
 refine Ag (fun n s=>∃j o,fd o/\j+n=xs.length/\s=⟨[.arr 0,.sc (.int .i64 (k+mcL ANW (xs.take j))),.undef,.sc (.int .i64 j),.undef],[.arr 8 0 xs.length ((mkJ ANW APc xs k j).flatMap Az),o,o]⟩) ?_ xs.length _ ⟨0,.free,Aso,by simp,by simp[ASf,mcL]⟩
 intro n s ⟨j,o,ho,hj,hs⟩
 subst hs
 by_cases hjn:j<xs.length
 ·have hw:=Cv (j:=j) (by omega)
  have hjl:j<=xs.length:=by omega
  have hst:=AQb (mc:=ANW) hjn
  have hle:=ARo (mc:=ANW) (xs:=xs) (j:=j+1)
  have hmc:ANW xs[j]=1+1+1+1+1+xs[j].dialed.deal.tags.length+1+xs[j].dialed.up.length:=rfl
  have hset:=ASP (mc:=ANW) (mk:=APc) (k:=k) hjn
  generalize hK:k+(mcL ANW (xs.take j):Int)=K at hset⊢
  have hw0:IntKind.i64.wrap (K+1)=K+1:=Ad (by omega) (by omega)
  have hw1:IntKind.i64.wrap (K+1+1)=K+1+1:=Ad (by omega) (by omega)
  have hw2:IntKind.i64.wrap (K+1+1+1)=K+1+1+1:=Ad (by omega) (by omega)
  have hw3:IntKind.i64.wrap (K+1+1+1+1)=K+1+1+1+1:=Ad (by omega) (by omega)
  have hw4:IntKind.i64.wrap (K+1+1+1+1+1)=K+1+1+1+1+1:=Ad (by omega) (by omega)
  have hw6:IntKind.i64.wrap (K+1+1+1+1+1+((xs[j].dialed.deal.tags.length:Nat):Int)+1)=K+1+1+1+1+1+((xs[j].dialed.deal.tags.length:Nat):Int)+1:=Ad (by omega) (by omega)
  have hf1:j*8+1<xs.length*8:=by omega
  have hf2:j*8+2<xs.length*8:=by omega
  have hf3:j*8+3<xs.length*8:=by omega
  have hf4:j*8+4<xs.length*8:=by omega
  have hf5:j*8+5<xs.length*8:=by omega
  have hf6:j*8+6<xs.length*8:=by omega
  have hf7:j*8+7<xs.length*8:=by omega
  rcases ho with rfl | rfl
  all_goals simp -implicitDefEqProofs [hjn,hjl,APl hjn,hw0,hw1,hw2,hw3,hw4,hw6,hf1,hf2,hf3,hf4,hf5,hf6,hf7]
  all_goals refine Aa (hmarkIntS xs[j].dialed.deal.tags _ (by omega) (by omega)) ?_
  all_goals simp -implicitDefEqProofs [hjn,hjl,APl hjn,hw0,hw1,hw2,hw3,hw4,hw6,hf1,hf2,hf3,hf4,hf5,hf6,hf7]
  all_goals refine Aa (hmarkIntS xs[j].dialed.up _ (by omega) (by omega)) ?_
  all_goals simp -implicitDefEqProofs [hjn,hjl,APl hjn,hw0,hw1,hw2,hw3,hw4,hw6,hf1,hf2,hf3,hf4,hf5,hf6,hf7]
  all_goals exact⟨n-1,by omega,j+1,.dead,Ar4,by omega,⟨by first | omega | (rw[Ad (by omega) (by omega)];omega),by simp[hw]⟩,by rw[<-hset];rfl,rfl⟩
 ·have hje:=ASN (mc:=ANW) (mk:=APc) (xs:=xs) (k:=k) (j:=j) (by omega)
  have hma:=AQN (mc:=ANW) (xs:=xs) (j:=j) (by omega)
  simp -implicitDefEqProofs [hjn,hje,hma,Cu]
abbrev AQy:Prop:=∀(xs:List Eo) (k:Int),0<=k->k+mcL ANW xs<=4611686018427387904->R [.sl 1 8 xs.length ((mkL ANW APc xs k).flatMap Az),I k] [] (I (k+mcL ANW xs)) []
theorem ATu (hheldIntS:APm (D 57)):AQy (Body D AP2):=by
 intro xs k hk hl
 have hlen:xs.length<=mcL ANW xs:=ARn (fun x=>by unfold ANW;omega) xs
 simp -implicitDefEqProofs
 refine Ag (fun n s=>∃j,j+n=xs.length/\s=⟨[.sl 1 8 xs.length ((mkL ANW APc xs k).flatMap Az),.sc (.int .i64 (k+mcL ANW (xs.take j))),.undef,.sc (.int .i64 j),.undef,.undef,.undef,.undef,.undef,.undef,.undef,.undef,.undef],[]⟩) ?_ xs.length _ ⟨0,by simp,by simp[mcL]⟩
 intro n s ⟨j,hj,hs⟩
 subst hs
 by_cases hjn:j<xs.length
 ·have hw:=Cv (j:=j) (by omega)
  have hst:=AQb (mc:=ANW) hjn
  have hle:=ARo (mc:=ANW) (xs:=xs) (j:=j+1)
  have hmc:ANW xs[j]=1+1+1+1+1+xs[j].dialed.deal.tags.length+1+xs[j].dialed.up.length:=rfl
  have hY:=ASh (mc:=ANW) (mk:=APc) xs k j hjn
  generalize hK:k+(mcL ANW (xs.take j):Int)=K at hY⊢
  have hw0:IntKind.i64.wrap (K+1)=K+1:=Ad (by omega) (by omega)
  have hw1:IntKind.i64.wrap (K+1+1)=K+1+1:=Ad (by omega) (by omega)
  have hw2:IntKind.i64.wrap (K+1+1+1)=K+1+1+1:=Ad (by omega) (by omega)
  have hw3:IntKind.i64.wrap (K+1+1+1+1)=K+1+1+1+1:=Ad (by omega) (by omega)
  have hw4:IntKind.i64.wrap (K+1+1+1+1+1)=K+1+1+1+1+1:=Ad (by omega) (by omega)
  have hn5:¬K+1+1+1+1+1+((xs[j].dialed.deal.tags.length:Nat):Int)<0:=by omega
  have hw6:IntKind.i64.wrap (K+1+1+1+1+1+((xs[j].dialed.deal.tags.length:Nat):Int)+1)=K+1+1+1+1+1+((xs[j].dialed.deal.tags.length:Nat):Int)+1:=Ad (by omega) (by omega)
  have hn7:¬K+1+1+1+1+1+((xs[j].dialed.deal.tags.length:Nat):Int)+1+((xs[j].dialed.up.length:Nat):Int)<0:=by omega
  simp -implicitDefEqProofs [hjn,hY,APc,hw0,hw1,hw2,hw3,hw4,hn5,hw6,hn7]
  refine Aa (hheldIntS xs[j].dialed.deal.tags.length _ (by omega) (by omega)) ?_
  simp -implicitDefEqProofs [hjn,hY,APc,hw0,hw1,hw2,hw3,hw4,hn5,hw6,hn7]
  refine Aa (hheldIntS xs[j].dialed.up.length _ (by omega) (by omega)) ?_
  simp -implicitDefEqProofs [hjn,hY,APc,hw0,hw1,hw2,hw3,hw4,hn5,hw6,hn7]
  exact⟨n-1,by omega,j+1,by omega,by first | omega | (rw[Ad (by omega) (by omega)];omega),by simp[hw]⟩
 ·have hma:=AQN (mc:=ANW) (xs:=xs) (j:=j) (by omega)
  simp -implicitDefEqProofs [hjn,hma]
abbrev AQo:Prop:=∀(x:AX) (k:Int),0<=k->k+AOc x<=4611686018427387904->R [.agg [.sc (.int .i64 x.version),.arr 0,.sc (.int .i64 x.pos),.sc (.bool x.off)],I k] [.arr 1 0 x.stages.length (ints (x.stages))] (I (k+AOc x)) [.arr 1 0 x.stages.length (ints ((AOf x k).stages))]
theorem ATt (hmarkIntS:APo (D 52)):AQo (Body D AP3):=by
 intro x k hk hl
 simp only[AOc]at hl
 simp -implicitDefEqProofs
 refine Aa (hmarkIntS x.stages _ (by omega) (by omega)) ?_
 simp -implicitDefEqProofs [AOc,AOf,APA,ARQ]
 simp[AOf,AOc,Cu,Int.add_assoc,show List.range 6=[0,1,2,3,4,5]from rfl,show List.range 2=[0,1]from rfl,show List.range 3=[0,1,2]from rfl]
abbrev AQn:Prop:=∀(x:AX) (k:Int),0<=k->k+AOc x<=4611686018427387904->R [arg (Dj (AOf x k)),I k] [] (I (k+AOc x)) []
theorem ATw (hheldIntS:APm (D 57)):AQn (Body D AP1):=by
 intro x k hk hl
 simp only[AOc]at hl
 have hn1:¬k+((x.stages.length:Nat):Int)<0:=by omega
 simp -implicitDefEqProofs [AOf,AOc,APA,hn1]
 refine Aa (hheldIntS x.stages.length _ (by omega) (by omega)) ?_
 simp -implicitDefEqProofs [AOf,AOc,APA,hn1]
 try simp[AOc,Int.add_assoc]
abbrev ARg:Prop:=∀(x:World) (k:Int),0<=k->k+APp x<=4611686018427387904->R [.agg [.arr 0,.arr 1,.sc (.int .i64 x.key),.arr 2,.sc (.int .i64 x.rollout.version),.arr 3,.sc (.int .i64 x.rollout.pos),.sc (.bool x.rollout.off),.sc (.int .i64 x.least),.sc (.int .i64 x.percent),.arr 4,.arr 5,.sc (.int .i64 x.now),.sc (.int .i64 x.hurt),.sc (.int .i64 x.reached)],I k] [.arr 1 0 x.server.length (ints (x.server)),.arr 1 0 x.tags.length (ints (x.tags)),.arr 4 0 x.ends.length ((x.ends).flatMap Ah),.arr 1 0 x.rollout.stages.length (ints (x.rollout.stages)),.arr 5 0 x.stage.length ((x.stage).flatMap AB),.arr 8 0 x.log.length ((x.log).flatMap Az)] (I (k+APp x)) [.arr 1 0 x.server.length (ints ((AOh x k).server)),.arr 1 0 x.tags.length (ints ((AOh x k).tags)),.arr 4 0 x.ends.length (((AOh x k).ends).flatMap Ah),.arr 1 0 x.rollout.stages.length (ints ((AOh x k).rollout.stages)),.arr 5 0 x.stage.length (((AOh x k).stage).flatMap AB),.arr 8 0 x.log.length (((AOh x k).log).flatMap Az)]
theorem AUl (hmarkIntS:APo (D 52)) (hmarkEndpointS:APV (D 53)) (hmarkRollout:AQo (D 54)) (hmarkDialedS:AQs (D 55)) (hmarkLoggedS:AQv (D 56)):ARg (Body D AQc):=by
 intro x k hk hl
 simp only[APp]at hl
 simp -implicitDefEqProofs
 refine Aa (hmarkIntS x.server _ (by omega) (by omega)) ?_
 simp -implicitDefEqProofs [AOc,AOf,APA,ARQ]
 refine Aa (hmarkIntS x.tags _ (by omega) (by omega)) ?_
 simp -implicitDefEqProofs [AOc,AOf,APA,ARQ]
 refine Aa (hmarkEndpointS x.ends _ (by omega) (by omega)) ?_
 simp -implicitDefEqProofs [AOc,AOf,APA,ARQ]
 refine Aa (hmarkRollout x.rollout _ (by omega) (by simp only[AOc];omega)) ?_
 simp -implicitDefEqProofs [AOc,AOf,APA,ARQ]
 refine Aa (hmarkDialedS x.stage _ (by omega) (by omega)) ?_
 simp -implicitDefEqProofs [AOc,AOf,APA,ARQ]
 refine Aa (hmarkLoggedS x.log _ (by omega) (by omega)) ?_
 simp -implicitDefEqProofs [AOc,AOf,APA,ARQ]
 simp[AOh,APp,Cu,Int.add_assoc,show List.range 6=[0,1,2,3,4,5]from rfl,show List.range 2=[0,1]from rfl,show List.range 3=[0,1,2]from rfl]
abbrev ARd:Prop:=∀(x:World) (k:Int),0<=k->k+APp x<=4611686018427387904->R [arg (Bu (AOh x k)),I k] [] (I (k+APp x)) []
theorem AUg (hheldIntS:APm (D 57)) (hheldEndpointS:AP7 (D 58)) (hheldRollout:AQn (D 59)) (hheldDialedS:AQw (D 60)) (hheldLoggedS:AQy (D 61)):ARd (Body D AQh):=by
 intro x k hk hl
 simp only[APp]at hl
 have hn0:¬k+((x.server.length:Nat):Int)<0:=by omega
 have hn1:¬k+((x.server.length:Nat):Int)+((x.tags.length:Nat):Int)<0:=by omega
 have hn3:¬k+((x.server.length:Nat):Int)+((x.tags.length:Nat):Int)+((mcL AMp x.ends:Nat):Int)<0:=by omega
 have hn4:¬k+((x.server.length:Nat):Int)+((x.tags.length:Nat):Int)+((mcL AMp x.ends:Nat):Int)+((x.rollout.stages.length:Nat):Int)<0:=by omega
 have hn7:¬k+((x.server.length:Nat):Int)+((x.tags.length:Nat):Int)+((mcL AMp x.ends:Nat):Int)+((x.rollout.stages.length:Nat):Int)+((mcL AMr x.stage:Nat):Int)<0:=by omega
 have hn8:¬k+((x.server.length:Nat):Int)+((x.tags.length:Nat):Int)+((mcL AMp x.ends:Nat):Int)+((x.rollout.stages.length:Nat):Int)+((mcL AMr x.stage:Nat):Int)+((mcL ANW x.log:Nat):Int)<0:=by omega
 simp -implicitDefEqProofs [AOh,AOc,APA,hn0,hn1,hn3,hn4,hn7,hn8]
 refine Aa (hheldIntS x.server.length _ (by omega) (by omega)) ?_
 simp -implicitDefEqProofs [AOh,AOc,APA,hn0,hn1,hn3,hn4,hn7,hn8]
 refine Aa (hheldIntS x.tags.length _ (by omega) (by omega)) ?_
 simp -implicitDefEqProofs [AOh,AOc,APA,hn0,hn1,hn3,hn4,hn7,hn8]
 refine Aa (hheldEndpointS x.ends _ (by omega) (by omega)) ?_
 simp -implicitDefEqProofs [AOh,AOc,APA,hn0,hn1,hn3,hn4,hn7,hn8]
 have hr:=hheldRollout x.rollout (k+((x.server.length:Nat):Int)+((x.tags.length:Nat):Int)+((mcL AMp x.ends:Nat):Int)) (by omega) (by simp only[AOc];omega)
 simp[AOf,AOc]at hr
 refine Aa hr ?_
 simp -implicitDefEqProofs [AOh,AOc,APA,hn0,hn1,hn3,hn4,hn7,hn8]
 refine Aa (hheldDialedS x.stage _ (by omega) (by omega)) ?_
 simp -implicitDefEqProofs [AOh,AOc,APA,hn0,hn1,hn3,hn4,hn7,hn8]
 refine Aa (hheldLoggedS x.log _ (by omega) (by omega)) ?_
 simp -implicitDefEqProofs [AOh,AOc,APA,hn0,hn1,hn3,hn4,hn7,hn8]
 try simp[APp,Int.add_assoc]
abbrev ASe:Prop:=∀(x:World) (l:Int),0<=l->l<=4194304->AAK x->R [arg (Bu x),I l] [] (I (szl (Af x) l)) []
theorem AUI (hszIntS:AQx (D 16)) (hszEndpointS:AQr (D 17)) (hszRollout:AQ8 (D 18)) (hszDialedS:ARf (D 19)) (hszLoggedS:AQ1 (D 20)):ASe (Body D AQS):=by
 intro x l hl1 hl2 hln
 simp only[AAK]at hln
 simp -implicitDefEqProofs
 refine Aa (hszIntS x.server (l) (by omega) (by omega) hln.1) ?_
 by_cases g0:l<((x.server.length:Nat):Int)
 ·have gg:l<((Af x:Nat):Int):=by simp only[Af];omega
  have e1:szl (x.server.length) (l)= -1:=by unfold szl;rw[if_pos g0]
  have e2:szl (Af x) l= -1:=by unfold szl;rw[if_pos gg]
  simp -implicitDefEqProofs [e1,e2]
 have e3:szl (x.server.length) (l)=l-((x.server.length:Nat):Int):=by unfold szl;rw[if_neg g0]
 have p0:¬l-((x.server.length:Nat):Int)<0:=by omega
 simp -implicitDefEqProofs [e3,p0]
 refine Aa (hszIntS x.tags (l-((x.server.length:Nat):Int)) (by omega) (by omega) hln.2.1) ?_
 by_cases g1:l-((x.server.length:Nat):Int)<((x.tags.length:Nat):Int)
 ·have gg:l<((Af x:Nat):Int):=by simp only[Af];omega
  have e1:szl (x.tags.length) (l-((x.server.length:Nat):Int))= -1:=by unfold szl;rw[if_pos g1]
  have e2:szl (Af x) l= -1:=by unfold szl;rw[if_pos gg]
  simp -implicitDefEqProofs [e1,e2]
 have e4:szl (x.tags.length) (l-((x.server.length:Nat):Int))=l-((x.server.length:Nat):Int)-((x.tags.length:Nat):Int):=by unfold szl;rw[if_neg g1]
 have p1:¬l-((x.server.length:Nat):Int)-((x.tags.length:Nat):Int)<0:=by omega
 simp -implicitDefEqProofs [e4,p1]
 refine Aa (hszEndpointS x.ends (l-((x.server.length:Nat):Int)-((x.tags.length:Nat):Int)) (by omega) (by omega) hln.2.2.1) ?_
 by_cases g2:l-((x.server.length:Nat):Int)-((x.tags.length:Nat):Int)<((Cr Am x.ends:Nat):Int)
 ·have gg:l<((Af x:Nat):Int):=by simp only[Af];omega
  have e1:szl (Cr Am x.ends) (l-((x.server.length:Nat):Int)-((x.tags.length:Nat):Int))= -1:=by unfold szl;rw[if_pos g2]
  have e2:szl (Af x) l= -1:=by unfold szl;rw[if_pos gg]
  simp -implicitDefEqProofs [e1,e2]
 have e5:szl (Cr Am x.ends) (l-((x.server.length:Nat):Int)-((x.tags.length:Nat):Int))=l-((x.server.length:Nat):Int)-((x.tags.length:Nat):Int)-((Cr Am x.ends:Nat):Int):=by unfold szl;rw[if_neg g2]
 have p2:¬l-((x.server.length:Nat):Int)-((x.tags.length:Nat):Int)-((Cr Am x.ends:Nat):Int)<0:=by omega
 simp -implicitDefEqProofs [e5,p2]
 refine Aa (hszRollout x.rollout (l-((x.server.length:Nat):Int)-((x.tags.length:Nat):Int)-((Cr Am x.ends:Nat):Int)) (by omega) (by omega) hln.2.2.2.1) ?_
 by_cases g3:l-((x.server.length:Nat):Int)-((x.tags.length:Nat):Int)-((Cr Am x.ends:Nat):Int)<((Db x.rollout:Nat):Int)
 ·have gg:l<((Af x:Nat):Int):=by simp only[Af];omega
  have e1:szl (Db x.rollout) (l-((x.server.length:Nat):Int)-((x.tags.length:Nat):Int)-((Cr Am x.ends:Nat):Int))= -1:=by unfold szl;rw[if_pos g3]
  have e2:szl (Af x) l= -1:=by unfold szl;rw[if_pos gg]
  simp -implicitDefEqProofs [e1,e2]
 have e6:szl (Db x.rollout) (l-((x.server.length:Nat):Int)-((x.tags.length:Nat):Int)-((Cr Am x.ends:Nat):Int))=l-((x.server.length:Nat):Int)-((x.tags.length:Nat):Int)-((Cr Am x.ends:Nat):Int)-((Db x.rollout:Nat):Int):=by unfold szl;rw[if_neg g3]
 have p3:¬l-((x.server.length:Nat):Int)-((x.tags.length:Nat):Int)-((Cr Am x.ends:Nat):Int)-((Db x.rollout:Nat):Int)<0:=by omega
 simp -implicitDefEqProofs [e6,p3]
 refine Aa (hszDialedS x.stage (l-((x.server.length:Nat):Int)-((x.tags.length:Nat):Int)-((Cr Am x.ends:Nat):Int)-((Db x.rollout:Nat):Int)) (by omega) (by omega) hln.2.2.2.2.1) ?_
 by_cases g4:l-((x.server.length:Nat):Int)-((x.tags.length:Nat):Int)-((Cr Am x.ends:Nat):Int)-((Db x.rollout:Nat):Int)<((Cr Cb x.stage:Nat):Int)
 ·have gg:l<((Af x:Nat):Int):=by simp only[Af];omega
  have e1:szl (Cr Cb x.stage) (l-((x.server.length:Nat):Int)-((x.tags.length:Nat):Int)-((Cr Am x.ends:Nat):Int)-((Db x.rollout:Nat):Int))= -1:=by unfold szl;rw[if_pos g4]
  have e2:szl (Af x) l= -1:=by unfold szl;rw[if_pos gg]
  simp -implicitDefEqProofs [e1,e2]
 have e7:szl (Cr Cb x.stage) (l-((x.server.length:Nat):Int)-((x.tags.length:Nat):Int)-((Cr Am x.ends:Nat):Int)-((Db x.rollout:Nat):Int))=l-((x.server.length:Nat):Int)-((x.tags.length:Nat):Int)-((Cr Am x.ends:Nat):Int)-((Db x.rollout:Nat):Int)-((Cr Cb x.stage:Nat):Int):=by unfold szl;rw[if_neg g4]
 have p4:¬l-((x.server.length:Nat):Int)-((x.tags.length:Nat):Int)-((Cr Am x.ends:Nat):Int)-((Db x.rollout:Nat):Int)-((Cr Cb x.stage:Nat):Int)<0:=by omega
 simp -implicitDefEqProofs [e7,p4]
 refine Aa (hszLoggedS x.log (l-((x.server.length:Nat):Int)-((x.tags.length:Nat):Int)-((Cr Am x.ends:Nat):Int)-((Db x.rollout:Nat):Int)-((Cr Cb x.stage:Nat):Int)) (by omega) (by omega) hln.2.2.2.2.2) ?_
 by_cases g5:l-((x.server.length:Nat):Int)-((x.tags.length:Nat):Int)-((Cr Am x.ends:Nat):Int)-((Db x.rollout:Nat):Int)-((Cr Cb x.stage:Nat):Int)<((Cr Ip x.log:Nat):Int)
 ·have gg:l<((Af x:Nat):Int):=by simp only[Af];omega
  have e1:szl (Cr Ip x.log) (l-((x.server.length:Nat):Int)-((x.tags.length:Nat):Int)-((Cr Am x.ends:Nat):Int)-((Db x.rollout:Nat):Int)-((Cr Cb x.stage:Nat):Int))= -1:=by unfold szl;rw[if_pos g5]
  have e2:szl (Af x) l= -1:=by unfold szl;rw[if_pos gg]
  simp -implicitDefEqProofs [e1,e2]
 have e8:szl (Cr Ip x.log) (l-((x.server.length:Nat):Int)-((x.tags.length:Nat):Int)-((Cr Am x.ends:Nat):Int)-((Db x.rollout:Nat):Int)-((Cr Cb x.stage:Nat):Int))=l-((x.server.length:Nat):Int)-((x.tags.length:Nat):Int)-((Cr Am x.ends:Nat):Int)-((Db x.rollout:Nat):Int)-((Cr Cb x.stage:Nat):Int)-((Cr Ip x.log:Nat):Int):=by unfold szl;rw[if_neg g5]
 have p5:¬l-((x.server.length:Nat):Int)-((x.tags.length:Nat):Int)-((Cr Am x.ends:Nat):Int)-((Db x.rollout:Nat):Int)-((Cr Cb x.stage:Nat):Int)-((Cr Ip x.log:Nat):Int)<0:=by omega
 simp -implicitDefEqProofs [e8,p5]
 have gg:¬l<((Af x:Nat):Int):=by simp only[Af];omega
 unfold szl;rw[if_neg gg];simp only[Af]<;>omega
abbrev ASk:Prop:=∀x:World,Af x<=4194304->R [arg (Bu x)] [] (.agg (Bu x)) []
theorem AUK (htoIntS:AQu (D 31)) (htoEndpointS:AQp (D 32)) (htoRollout:ARh (D 33)) (htoDialedS:AQX (D 34)) (htoLoggedS:AQ2 (D 35)):ASk (Body D AQQ):=by
 intro x h
 simp only[Af]at h
 simp -implicitDefEqProofs
 refine Aa (htoIntS x.server (by omega)) ?_
 simp -implicitDefEqProofs
 refine Aa (htoIntS x.tags (by omega)) ?_
 simp -implicitDefEqProofs
 refine Aa (htoEndpointS x.ends (by omega)) ?_
 simp -implicitDefEqProofs
 refine Aa (htoRollout x.rollout (by omega)) ?_
 simp -implicitDefEqProofs
 refine Aa (htoDialedS x.stage (by omega)) ?_
 simp -implicitDefEqProofs
 refine Aa (htoLoggedS x.log (by omega)) ?_
 simp -implicitDefEqProofs
abbrev ASg:Prop:=∀x y:World,Af x<=2 ^ 40->Af y<=2 ^ 40->R [arg (Bu x),arg (Bu y)] [] (B (decide (x=y))) []
theorem AUM (heqIntS:Uu (D 47)) (heqEndpointS:AQq (D 48)) (heqRollout:AQZ (D 49)) (heqDialedS:ARa (D 50)) (heqLoggedS:AQ7 (D 51)):ASg (Body D AQR):=by
 intro x y h1 h2
 simp only[Af]at h1 h2
 simp -implicitDefEqProofs
 refine Aa (heqIntS x.server y.server (by unfold maxLen;omega) (by unfold maxLen;omega)) ?_
 by_cases g_server:x.server=y.server
 rotate_left
 ·have hne:x≠y:=fun h=>g_server (by rw[h])
  simp -implicitDefEqProofs [g_server,hne]
 simp -implicitDefEqProofs [g_server]
 refine Aa (heqIntS x.tags y.tags (by unfold maxLen;omega) (by unfold maxLen;omega)) ?_
 by_cases g_tags:x.tags=y.tags
 rotate_left
 ·have hne:x≠y:=fun h=>g_tags (by rw[h])
  simp -implicitDefEqProofs [g_tags,hne]
 simp -implicitDefEqProofs [g_tags]
 by_cases g_key:x.key=y.key
 rotate_left
 ·have hne:x≠y:=fun h=>g_key (by rw[h])
  simp -implicitDefEqProofs [g_key,hne]
 simp -implicitDefEqProofs [g_key]
 refine Aa (heqEndpointS x.ends y.ends (by omega) (by omega)) ?_
 by_cases g_ends:x.ends=y.ends
 rotate_left
 ·have hne:x≠y:=fun h=>g_ends (by rw[h])
  simp -implicitDefEqProofs [g_ends,hne]
 simp -implicitDefEqProofs [g_ends]
 refine Aa (heqRollout x.rollout y.rollout (by omega) (by omega)) ?_
 by_cases g_rollout:x.rollout=y.rollout
 rotate_left
 ·have hne:x≠y:=fun h=>g_rollout (by rw[h])
  simp -implicitDefEqProofs [g_rollout,hne]
 simp -implicitDefEqProofs [g_rollout]
 by_cases g_least:x.least=y.least
 rotate_left
 ·have hne:x≠y:=fun h=>g_least (by rw[h])
  simp -implicitDefEqProofs [g_least,hne]
 simp -implicitDefEqProofs [g_least]
 by_cases g_percent:x.percent=y.percent
 rotate_left
 ·have hne:x≠y:=fun h=>g_percent (by rw[h])
  simp -implicitDefEqProofs [g_percent,hne]
 simp -implicitDefEqProofs [g_percent]
 refine Aa (heqDialedS x.stage y.stage (by omega) (by omega)) ?_
 by_cases g_stage:x.stage=y.stage
 rotate_left
 ·have hne:x≠y:=fun h=>g_stage (by rw[h])
  simp -implicitDefEqProofs [g_stage,hne]
 simp -implicitDefEqProofs [g_stage]
 refine Aa (heqLoggedS x.log y.log (by omega) (by omega)) ?_
 by_cases g_log:x.log=y.log
 rotate_left
 ·have hne:x≠y:=fun h=>g_log (by rw[h])
  simp -implicitDefEqProofs [g_log,hne]
 simp -implicitDefEqProofs [g_log]
 by_cases g_now:x.now=y.now
 rotate_left
 ·have hne:x≠y:=fun h=>g_now (by rw[h])
  simp -implicitDefEqProofs [g_now,hne]
 simp -implicitDefEqProofs [g_now]
 by_cases g_hurt:x.hurt=y.hurt
 rotate_left
 ·have hne:x≠y:=fun h=>g_hurt (by rw[h])
  simp -implicitDefEqProofs [g_hurt,hne]
 simp -implicitDefEqProofs [g_hurt]
 by_cases g_reached:x.reached=y.reached
 rotate_left
 ·have hne:x≠y:=fun h=>g_reached (by rw[h])
  simp -implicitDefEqProofs [g_reached,hne]
 simp -implicitDefEqProofs [g_reached]
 have hxy:x=y:=by cases x;cases y;simp_all
 simp -implicitDefEqProofs [hxy]
set_option maxHeartbeats 2000000
set_option maxHeartbeats 2000000
set_option maxHeartbeats 4000000
end Go.Eng.T
namespace Go.Eng
end Go.Eng
namespace Go.Eng.T
set_option maxRecDepth 20000
set_option maxHeartbeats 4000000
theorem AJ1 {w:World} {e:Event} (h:(AA w e).2=false):(AA w e).1=w:=by
 unfold AA at h⊢
 split at h
 ·rename_i g;rw[if_pos g];unfold CR at h⊢;split at h
  ·cases h
  ·rename_i g2;rw[if_neg g2]
 rename_i g;rw[if_neg g]
 split at h
 ·rename_i g;rw[if_pos g];unfold Dc at h⊢;split at h
  ·cases h
  ·rename_i g2;rw[if_neg g2]
 rename_i g;rw[if_neg g]
 split at h
 ·rename_i g;rw[if_pos g];unfold BS at h⊢
  repeat' split
  all_goals first | rfl | (exfalso;simp_all)
 rename_i g;rw[if_neg g]
 split at h
 ·rename_i g;rw[if_pos g];unfold Br at h⊢;split at h
  ·cases h
  ·rename_i g2;rw[if_neg g2]
 rename_i g;rw[if_neg g]
 split at h
 ·rename_i g;rw[if_pos g];unfold EC at h⊢;dsimp only at h⊢;rw[AoI h]
 rename_i g;rw[if_neg g]
 split at h
 ·rename_i g;rw[if_pos g];unfold Fg at h⊢
  repeat' split
  all_goals first | rfl | (exfalso;simp_all)
 rename_i g;rw[if_neg g]
 split at h
 ·rename_i g;rw[if_pos g];unfold DX at h⊢
  repeat' split
  all_goals first | rfl | (exfalso;simp_all)
 rename_i g;rw[if_neg g]
 split at h
 ·rename_i g;rw[if_pos g];unfold ED at h⊢;split at h
  ·cases h
  ·rename_i g2;rw[if_neg g2]
 rename_i g;rw[if_neg g]
structure AL1 (w:World) (r:World×Bool):Prop where
 ok:Ap r.1=true
 sz:Af r.1<=30000
 no:r.2=false->r.1=w
open Go.Lib
set_option maxHeartbeats 8000000
theorem AIn:∀(l w:List UInt8),(wGo l w).length<=l.length+1/\∀x,x∈wGo l w->x≠ []/\x.length<=w.length+l.length
 | [],w=>by
  rw[AIW]
  split
  ·simp
  ·rename_i h
   refine⟨by simp,fun x hx=> ?_⟩
   simp only[List.mem_singleton]at hx
   subst hx
   exact⟨h,by simp⟩
 | c::r,w=>by
  have h1:=AIn r []
  have h2:=AIn r (w++ [c])
  rw[wGo]
  split
  ·split
   ·refine⟨by simp;omega,fun x hx=> ?_⟩
    have:=h1.2 x hx
    refine⟨this.1,?_⟩
    have h3:=this.2
    simp at h3⊢
    omega
   ·rename_i hw
    refine⟨by simp;omega,fun x hx=> ?_⟩
    rcases List.mem_cons.1 hx with rfl | hx
    ·exact⟨hw,by simp⟩
    ·have:=h1.2 x hx
     refine⟨this.1,?_⟩
     have h3:=this.2
     simp at h3⊢
     omega
  ·refine⟨by simp;omega,fun x hx=> ?_⟩
   have:=h2.2 x hx
   refine⟨this.1,?_⟩
   have h3:=this.2
   simp at h3⊢
   omega
theorem AHa (l:List UInt8):(Awt l).length<=l.length+1/\∀x,x∈Awt l->x≠ []/\x.length<=l.length:=by
 have:=AIn l []
 simpa[Awt]using this
def Ax7 (w:World) (word:List UInt8) (n:List Int):World×List UInt8:=
 if word=[119,111,114,108,100]/\n≠ []then(if(AnV (n.getD 0 0) n.tail).2=true then((AnV (n.getD 0 0) n.tail).1,wOk)else(w,wNo))
 else if word=[97,108,108]/\n=[]then(AGj w,wOk)
 else if 0<(Ark word n).kind then((AA w (Ark word n)).1,if(AA w (Ark word n)).2=true then wOk else wNo)
 else if n.length=0 then(w,(AsK w word).getD Atb)else if n.length=1 then(w,(At3 w word (n.getD 0 0)).getD Atb)else(w,Atb)
def AsN (w:World) (l:List UInt8):World×List UInt8:=
 if l.length>200 then(w,Atb)else match Awt l with
  | []=>(w,Atb)
  | word::r=>if Au2 r=true then Ax7 w word (numsOf r)else(w,Atb)
abbrev AGB (R:Rel):Prop:=∀(w:World) (l:List UInt8),Art w->Af w<=4190000->l.length<=4194000->R [arg (Bu w),Sb l] [] (.tup [.agg (Bu (AsN w l).1),Sb (AsN w l).2]) []
theorem AGF (w:List UInt8) (n:List Int):Hy (Ark w n)<=1:=by
 unfold Ark
 repeat' split
 all_goals simp[Hy,Gm,AsO]
theorem ANF (D:Dn) (hWd:AOq (D 21)) (hC:EF (D 22)) (hNs:AIO ANU (D 23)) (hLW:AMl (D 24)) (hTA:AC8 (D 25))
 (hEv:AMS (D 26)) (hAp:MS (D 27)) (hSd:AO9 (D 28)) (hN0:AO6 (D 29)) (hN1:APG (D 30)):AGB (Body D AGv):=by
 intro w l ok hw hl
 have hsz:=ok.sz
 have hwo:=AHa l
 simp -implicitDefEqProofs
 refine Aa (hWd l (by omega)) ?_
 unfold AsN
 cases hws:Awt l with
 | nil=>
  by_cases h2:l.length>200
  all_goals
   simp -implicitDefEqProofs [h2]
   refine Aa (hC w hsz) ?_
   simp -implicitDefEqProofs [Atb]
 | cons word r=>
  rw[hws]at hwo
  have hlr:=hwo.1
  simp only[List.length_cons]at hlr
  by_cases h2:l.length>200
  ·have h2':200<(l.length:Int):=by omega
   have c0:¬((r.length:Int)+1=0):=by omega
   simp -implicitDefEqProofs [h2,h2',c0]
   refine Aa (hC w hsz) ?_
   simp -implicitDefEqProofs [Atb]
  ·have h2':¬200<(l.length:Int):=by omega
   have c0:¬((r.length:Int)+1=0):=by omega
   have c1:(1:Int)<=r.length+1:=by omega
   have e6:((r.length:Int)+1).toNat=r.length+1:=by omega
   have e5:part (strs (word::r)) 1 1 r.length=strs r:=by
    simp only[part,strs,List.map_cons,Nat.one_mul,Nat.mul_one,List.drop_succ_cons,List.drop_zero]
    rw[List.take_of_length_le (by simp)]
   simp -implicitDefEqProofs [h2,h2',c0,c1,e5,e6]
   have hwr:ALs r:=⟨by omega,fun x hx=>by have:=(hwo.2 x (List.mem_cons_of_mem _ hx)).2;omega⟩
   refine Aa (hNs r hwr) ?_
   by_cases ha:Au2 r=true
   rotate_left
   ·have ha':Au2 r=false:=by simpa using ha
    simp -implicitDefEqProofs [ha']
    refine Aa (hC w hsz) ?_
    simp -implicitDefEqProofs [Atb]
   have hnl:=ADn r
   have hrg:=AKJ r
   have hst:(strs (word::r))[0]? =some (Sb word):=rfl
   have hr0:(0:Int)<=r.length:=by omega
   rw[APx ha]
   generalize numsOf r=n at hnl hrg
   have hn1:n.length<=4194000:=by omega
   simp -implicitDefEqProofs [ha]
   rw[<-hnl]
   clear hnl
   have hk:=AIT word
   by_cases w1:word=[119,111,114,108,100]/\n≠ []
   ·obtain⟨w1a,w1b⟩:=w1
    cases n with
    | nil=>exact absurd rfl w1b
    | cons x st=>
     have hlw:=hLW w x st hsz (by simp at hn1;omega)
     have e:Ax7 w word (x::st)=if(AnV x st).2=true then((AnV x st).1,wOk)else(w,wNo):=by unfold Ax7;rw[if_pos ⟨w1a,w1b⟩];rfl
     have p1:(0:Int)<(st.length:Int)+1:=by omega
     rw[e]
     simp -implicitDefEqProofs [w1a,hst,p1]
     refine Aa (show _ from hlw) ?_
     by_cases g:(AnV x st).2=true
     ·simp -implicitDefEqProofs [g,wOk]
     ·simp -implicitDefEqProofs [g,wNo]
   by_cases w2:word=[97,108,108]/\n=[]
   ·obtain⟨w2a,rfl⟩:=w2
    have e:Ax7 w word []=(AGj w,wOk):=by unfold Ax7;rw[if_neg w1,if_pos ⟨w2a,rfl⟩]
    rw[e]
    simp -implicitDefEqProofs [w2a,hst]
    refine Aa (hTA w hw) ?_
    simp -implicitDefEqProofs [wOk]
   have hsd:Ax7 w word n=if 0<(Ark word n).kind then((AA w (Ark word n)).1,if(AA w (Ark word n)).2=true then wOk else wNo)
    else if n.length=0 then(w,(AsK w word).getD Atb)else if n.length=1 then(w,(At3 w word (n.getD 0 0)).getD Atb)else(w,Atb):=by
    unfold Ax7;rw[if_neg w1,if_neg w2]
   rw[hsd]
   have hee:=hEv word n (by omega)
   have hse:=AGF word n
   have h0:(n.length:Int)=0↔n.length=0:=by omega
   have h1:(n.length:Int)=1↔n.length=1:=by omega
   by_cases a1:word=[119,111,114,108,100]
   ·have hn:n=[]:=by
     by_cases hn:n=[]
     ·exact hn
     ·exact absurd ⟨a1,hn⟩ w1
    subst hn
    subst a1
    have e:Ark [119,111,114,108,100] []=⟨0,0,AsO⟩:=rfl
    rw[e]at hee
    simp -implicitDefEqProofs [hst,e]
    refine Aa (show _ from hee) ?_
    simp -implicitDefEqProofs [AsO]
    refine Aa (hC w hsz) ?_
    simp -implicitDefEqProofs
    refine Aa (hN0 w _ ok) ?_
    simp -implicitDefEqProofs
   ·by_cases a2:word=[97,108,108]
    ·have hn0:¬n.length=0:=fun h=>w2 ⟨a2,List.eq_nil_of_length_eq_zero h⟩
     have A1:(word=[119,111,114,108,100])=False:=eq_false a1
     have A2:(word=[97,108,108])=True:=eq_true a2
     clear a1 w1 w2 a2
     simp -implicitDefEqProofs [A1,A2,hn0,hst,h0]
     refine Aa (show _ from hee) ?_
     clear hee hsd
     generalize Ark word n=e at hse⊢
     obtain⟨kd,en,⟨el,ed,es,ex⟩⟩:=e
     by_cases ke:0<kd
     ·simp -implicitDefEqProofs [ke]
      refine Aa (hAp w ⟨kd,en,⟨el,ed,es,ex⟩⟩ hsz (by omega)) ?_
      have hno:=AJ1 (w:=w) (e:=⟨kd,en,⟨el,ed,es,ex⟩⟩)
      generalize AA w ⟨kd,en,⟨el,ed,es,ex⟩⟩=p at hno⊢
      obtain⟨x,dn⟩:=p
      cases dn
      ·have hx:x=w:=hno rfl
       simp -implicitDefEqProofs
       refine Aa (show _ from(hSd w x hsz).2) ?_
       simp -implicitDefEqProofs [wNo,hx]
      ·simp -implicitDefEqProofs
       refine Aa (show _ from(hSd w x hsz).1) ?_
       simp -implicitDefEqProofs [wOk]
     ·simp -implicitDefEqProofs [ke]
      by_cases l0:n=[]
      ·exact absurd (congrArg List.length l0) hn0
      ·by_cases l1:n.length=1
       ·obtain⟨x,rfl⟩:=AJN l1
        simp -implicitDefEqProofs
        refine Aa (hC w hsz) ?_
        simp -implicitDefEqProofs
        refine Aa (hN1 w _ x ok (hrg x (by simp))) ?_
        simp -implicitDefEqProofs
       ·have ll:¬n.length=0:=fun h=>l0 (List.eq_nil_of_length_eq_zero h)
        have l0':¬(n.length:Int)=0:=by omega
        have l1':¬(n.length:Int)=1:=by omega
        simp -implicitDefEqProofs [l0,l1,l0',l1']
        refine Aa (hC w hsz) ?_
        simp -implicitDefEqProofs [Atb]
    ·simp -implicitDefEqProofs [a1,a2,hst,h0]
     refine Aa (show _ from hee) ?_
     clear hee hsd
     generalize Ark word n=e at hse⊢
     obtain⟨kd,en,⟨el,ed,es,ex⟩⟩:=e
     by_cases ke:0<kd
     ·simp -implicitDefEqProofs [ke]
      refine Aa (hAp w ⟨kd,en,⟨el,ed,es,ex⟩⟩ hsz (by omega)) ?_
      have hno:=AJ1 (w:=w) (e:=⟨kd,en,⟨el,ed,es,ex⟩⟩)
      generalize AA w ⟨kd,en,⟨el,ed,es,ex⟩⟩=p at hno⊢
      obtain⟨x,dn⟩:=p
      cases dn
      ·have hx:x=w:=hno rfl
       simp -implicitDefEqProofs
       refine Aa (show _ from(hSd w x hsz).2) ?_
       simp -implicitDefEqProofs [wNo,hx]
      ·simp -implicitDefEqProofs
       refine Aa (show _ from(hSd w x hsz).1) ?_
       simp -implicitDefEqProofs [wOk]
     ·simp -implicitDefEqProofs [ke]
      by_cases l0:n=[]
      ·subst l0
       simp -implicitDefEqProofs
       refine Aa (hC w hsz) ?_
       simp -implicitDefEqProofs
       refine Aa (hN0 w _ ok) ?_
       simp -implicitDefEqProofs
      ·by_cases l1:n.length=1
       ·obtain⟨x,rfl⟩:=AJN l1
        simp -implicitDefEqProofs
        refine Aa (hC w hsz) ?_
        simp -implicitDefEqProofs
        refine Aa (hN1 w _ x ok (hrg x (by simp))) ?_
        simp -implicitDefEqProofs
       ·have ll:¬n.length=0:=fun h=>l0 (List.eq_nil_of_length_eq_zero h)
        have l0':¬(n.length:Int)=0:=by omega
        have l1':¬(n.length:Int)=1:=by omega
        simp -implicitDefEqProofs [l0,l1,l0',l1']
        refine Aa (hC w hsz) ?_
        simp -implicitDefEqProofs [Atb]
end Go.Eng.T
namespace Go.Eng
open Go.Lib Go.RowKit
inductive TP (Ae:Nat->Option FuncId) (w:World):List V->List Value->Prop where
 | nil:TP Ae w [] []
 | sc {v:Value} {azs:List V} {xs:List Value} (h:TP Ae w azs xs):TP Ae w (.sc v::azs) (v::xs)
 | sl {e len:Nat} {cells:List V} {x:Value} {azs:List V} {xs:List Value} (h1:Rd Ae w (· <w.heap.size) (.sl 1 e len cells) x) (h:TP Ae w azs xs):TP Ae w (.sl 1 e len cells::azs) (x::xs)
def Ah4:V->Prop
 | .sc _=>True
 | .sl 1 _ _ _=>True
 | _=>False
theorem Adt {F:Fr} {w:World} {β:Nat->Base} {own:Nat->Option (Nat×List Nat)} {H:Hp} (hw:w=F.w0):∀ {azs:List V} {xs:List Value},(∀a,a∈azs->Ah4 a)->Pw (VR F β own H w) azs xs->TP F.Ae w azs xs
 | [],xs,_,h=>by rw[h.N8];exact .nil
 | a::azs,xs,hp,h=>by
  obtain⟨x,r,rfl,h1,h2⟩:=h.Nf
  have ih:=Adt hw (fun a ha=>hp a (List.mem_cons_of_mem _ ha)) h2
  have ha:=hp a (by simp)
  cases h1 with
  | sc h=>exact .sc ih
  | @rd fl e len cells _ h3 h=>
   match fl,ha,h with
   | 1,_,h=>exact .sl (Rd.move h (fun b hb=>by rw[hw];exact hb.1) (fun _ _=>rfl)) ih
  | _=>exact absurd ha (by simp[Ah4])
theorem AgE {P:Program} {Ae:Nat->Option FuncId} {G:Gl} {g:Nat} {args:List V} {v:Value} (hv:v.oneCell' =true) (hp':∀a,a∈args->Ah4 a)
 (h:∀id,Ae g=some id->∀w:World,(∀b,G b->b<w.heap.size/\w.heap[b]? =G.is b)->∀xs,TP Ae w args xs->Calls P id xs.toArray w fun e w'=>e= .returned v/\Below w.heap.size w w'):Den P Ae G g args [] (.sc v) []:=by
 intro id hid F hF hG hb ht hn inv xs hx
 have hr:=Adt (F:=F) rfl hp' hx
 rw[hF]at hr
 refine(h id hid F.w0 (fun b hb=> ?_) xs hr).mono fun e w' ⟨he,hw⟩=> ?_
 ·have:=inv.glob b (by rw[hG];exact hb)
  exact⟨this.1,by rw[<-hG];exact this.2.2⟩
 ·subst he
  refine⟨F.own0,⟨hw.size,hw.os,hw.tape,hw.output,fun b hb _=>hw.block b hb,fun b p hb=>⟨Nat.lt_of_lt_of_le (inv.ownb b p hb).1 hw.size,fun _=> ?_⟩,.sc hv,hn.symm,fun i o hi=> ?_⟩⟩
  ·rw[hb];simp
  ·simp at hi
theorem below_grow {w:World} {k:Nat} {os:Array Obj}:Below w.heap.size w (Sort.grow (w.drewN k) os):=
 ⟨rfl,rfl,rfl,by simp[Sort.grow,World.drewN],fun b hb=>by simp[Sort.grow,World.drewN,Array.getElem?_append,hb]⟩
theorem AnP {P:Program} {W w:World} {name:String} {k:IntKind} {zs:List Int} {b:Nat} (hg:P.globalNamed name=some b) (h:TabIs P W name k zs) (he:w.heap[b]? =W.heap[b]?):TabIs P w name k zs:=by
 unfold TabIs World.var? at *
 rw[hg]at h⊢
 simp only[Option.bind_some]at h⊢
 rw[he]
 exact h
theorem Agi {P:Program} {W:World} {name:String} {k:IntKind} {zs:List Int} {rest:List (String×DataW Unit)} {g:Nat} {t e:TypeId} {n:Nat} {ps:List MemPlace}
 (hg:P.globalNamed name=some g) (hty:(P.globals[g]?).map (·.type)=some t) (ht:P.underlying t=some (.array n e)) (he:P.underlying e=some (.int k)) (hce:P.cellsOf e=1) (hct:P.cellsOf t=n)
 (h:DataW.LaidVars P W ((name,tabData k zs)::rest) ps):TabIs P W name k zs:=by
 obtain⟨g',t',cs,fuel,p,q,hg',ht',hvar,hd,_,_⟩:=h
 obtain rfl:=Option.some.inj (hg.symm.trans hg')
 obtain rfl:=Option.some.inj (hty.symm.trans ht')
 unfold TabIs
 rw[hvar,<-cells_of_tab ht he hce hct hd]
theorem Amj {P:Program} {W:World} {name:String} {k:IntKind} {zs:List Int} {b:Nat} (hg:P.globalNamed name=some b) (h:TabIs P W name k zs):b<W.heap.size:=by
 unfold TabIs World.var? at h
 rw[hg]at h
 simp only[Option.bind_some]at h
 by_cases hb:b<W.heap.size
 ·exact hb
 ·rw[Array.getElem?_eq_none (by omega)]at h;cases h
end Go.Eng
namespace Go.Eng
open Go.Lib Go.RowKit Go.Sort
def iv (l:List Int):List Value:=l.map (Value.int .i64)
@[simp] theorem AD3 (l:List Int):(iv l).length=l.length:=by simp[iv]
theorem AsZ (l:List Int):Fj (iv l):=by
 intro v hv
 simp only[iv,List.mem_map]at hv
 obtain⟨x,_,rfl⟩:=hv
 rfl
structure Kept (F:Fr) (w':World):Prop where
 size:F.w0.heap.size<=w'.heap.size
 os:w'.os=F.w0.os
 tape:w'.tape=F.w0.tape
 output:w'.output=F.w0.output
 keep:∀b,b<F.w0.heap.size->F.own0 b=none->w'.heap[b]? =F.w0.heap[b]?
theorem Kept.refl (F:Fr):Kept F F.w0:=⟨Nat.le_refl _,rfl,rfl,rfl,fun _ _ _=>rfl⟩
theorem AAS {F:Fr} {given:List O} {k:Nat} {l:List Int} {x:Value} (inv:Inv F F.β0 F.own0 (hp given) F.w0) (hk:hp given k= .arr 1 0 l.length (T.ints l)) (h:VR F F.β0 F.own0 (hp given) F.w0 (.arr k) x):
 ∃a cap,x= .slice a l.length cap/\(l.length<=cap/\cap<=9223372036854775807)/\a=(F.β0 k).a/\cap=(F.β0 k).cap/\(cap=0∨∃b o,a=some ⟨b,o,none⟩/\F.own0 b=some (k,[])/\Has F.w0 b o (iv l) cap):=by
 have ho:=inv.objs k
 rw[hk]at ho
 obtain⟨vs,h1,h2,h3,h4,h5⟩:=ho
 have hv:vs=iv l:=by
  apply List.ext_getElem?
  intro i
  by_cases hi:i<l.length
  ·have hlen:vs.length=l.length:=by rw[h1];simp
   have e1:vs[i]? =some (vs[i]'(by omega)):=by simp[hlen,hi]
   have:=h5 i (.sc (.int .i64 l[i])) _ (by simp[hi]) e1
   rw[e1]
   generalize vs[i]'(by omega)=y at this
   cases this with
   | sc _=>simp[iv,hi]
  ·rw[List.getElem?_eq_none (by rw[h1];simp;omega),List.getElem?_eq_none (by simp;omega)]
 subst hv
 cases h with
 | @arr _ e t len cs he=>
  rw[hk]at he
  simp only[Ac,Option.some.injEq,Prod.mk.injEq]at he
  obtain⟨rfl,rfl,rfl,rfl⟩:=he
  refine⟨_,_,rfl,h3,rfl,rfl,?_⟩
  rcases h4 with h4 | ⟨b,o,h4,h6,h7⟩
  ·exact .inl (by omega)
  ·exact .inr ⟨b,o,h4,h6,by rw[Nat.mul_one]at h7;exact h7⟩
 | goneA hd=>rw[hk]at hd;cases hd
theorem Axj {P:Program} {Ae:Nat->Option FuncId} {G:Gl} {g:Nat} {args:List V} {given:List O} {l':List Int}
 (h:∀id,Ae g=some id->∀F:Fr,F.Ae=Ae->Inv F F.β0 F.own0 (hp given) F.w0->∀xs,Pw (VR F F.β0 F.own0 (hp given) F.w0) args xs->
  Calls P id xs.toArray F.w0 fun e w'=>∃a cap,e= .returned (.slice a l'.length cap)/\(l'.length<=cap/\cap<=9223372036854775807)/\(cap=0∨∃b o,a=some ⟨b,o,none⟩/\Has w' b o (iv l') cap/\(b<F.w0.heap.size->F.own0 b≠none))/\Kept F w'):
 Den P Ae G g args given (.sl 0 1 l'.length (T.ints l')) (given.map fun _=> .dead):=by
 intro id hid F hF hG hb ht hn inv xs hx
 refine(h id hid F hF inv xs hx).mono fun e w' ⟨a,cap,he,hl,hm,hk⟩=> ?_
 subst he
 have hcs:∀own (i:Nat) (v:V) (x:Value),(T.ints l')[i]? =some v->(iv l')[i]? =some x->Ow F.Ae w' own (fun _ b=>F.G b) 0 F.ngiven ([]++ [i]) v x:=by
  intro own i v x h1 h2
  by_cases hi:i<l'.length
  ·rw[T.ints_at hi]at h1
   simp only[iv,List.getElem?_map,hi,List.getElem?_eq_getElem,Option.map_some,Option.some.injEq]at h1 h2
   subst h1 h2
   exact .sc rfl
  ·rw[List.getElem?_eq_none (by simp;omega)]at h1;cases h1
 rcases hm with hm | ⟨b,o,rfl,hhas,hown⟩
 ·refine⟨fun _=>none,⟨hk.size,hk.os,hk.tape,hk.output,hk.keep,fun b p h=>(by cases h),.own hl (by simp) (by simp) (.inl (by omega)) (hcs _),by simp[hn],fun i o hi=> ?_⟩⟩
  simp only[List.getElem?_map,Option.map_eq_some_iff]at hi
  obtain⟨_,_,rfl⟩:=hi
  trivial
 ·refine⟨fun b'=>if b' =b then some (F.ngiven,[])else none,⟨hk.size,hk.os,hk.tape,hk.output,hk.keep,fun b' p h=> ?_,.own hl (by simp) (by simp) (.inr ⟨b,o,rfl,if_pos rfl,by rw[Nat.mul_one];exact hhas⟩) (hcs _),by simp[hn],fun i o' hi=> ?_⟩⟩
  ·by_cases e:b' =b
   ·subst e;exact⟨TT hhas,hown⟩
   ·rw[if_neg e]at h;cases h
  ·simp only[List.getElem?_map,Option.map_eq_some_iff]at hi
   obtain⟨_,_,rfl⟩:=hi
   trivial
theorem AJB {P:Program} {Ae:Nat->Option FuncId} {G:Gl} {g:Nat} {l l':List Int} (hll:l'.length=l.length)
 (h:∀id,Ae g=some id->∀F:Fr,F.Ae=Ae->Inv F F.β0 F.own0 (hp [.arr 1 0 l.length (T.ints l)]) F.w0->∀a cap,l.length<=cap->(cap=0∨∃b o,a=some ⟨b,o,none⟩/\F.own0 b=some (0,[])/\Has F.w0 b o (iv l) cap)->
  Calls P id #[.slice a l.length cap] F.w0 fun e w'=>e= .returned (.tuple #[])/\(cap=0∨∃b o,a=some ⟨b,o,none⟩/\Has w' b o (iv l') cap)/\Kept F w'):
 Den P Ae G g [.arr 0] [.arr 1 0 l.length (T.ints l)] (.tup []) [.arr 1 0 l.length (T.ints l')]:=by
 intro id hid F hF hG hb ht hn inv xs hx
 obtain⟨x,r,rfl,h1,h2⟩:=hx.Nf
 obtain rfl:=h2.N8
 obtain⟨a,cap,rfl,hl,ha,hc,hm⟩:=AAS inv rfl h1
 refine(h id hid F hF inv a cap hl.1 hm).mono fun e w' ⟨he,hm',hk⟩=> ?_
 subst he
 refine⟨F.own0,⟨hk.size,hk.os,hk.tape,hk.output,hk.keep,fun b p h=>⟨Nat.lt_of_lt_of_le (inv.ownb b p h).1 hk.size,fun _=>by rw[h];simp⟩,.tup (vs:=[]) rfl (fun i v x h _=>by simp at h),by rw[hn];rfl,fun i o hi=> ?_⟩⟩
 match i,hi with
 | 0,hi=>
  simp only[List.getElem?_cons_zero,Option.some.injEq]at hi
  subst hi
  refine⟨rfl,iv l',by simp,by simp[hll],by rw[<-hc];exact hl,?_,?_⟩
  ·rcases hm with hm | ⟨b,o,e1,e2,e3⟩
   ·exact .inl (by rw[<-hc,hm])
   ·rcases hm' with hm' | ⟨b',o',e1',e2'⟩
    ·exact .inl (by rw[<-hc,hm'])
    ·rw[e1]at e1'
     cases e1'
     exact .inr ⟨b,o,by rw[<-ha,e1],e2,by rw[<-hc,Nat.mul_one];exact e2'⟩
  ·intro i v x h1 h2
   by_cases hi:i<l'.length
   ·rw[T.ints_at hi]at h1
    simp only[iv,List.getElem?_map,hi,List.getElem?_eq_getElem,Option.map_some,Option.some.injEq]at h1 h2
    subst h1 h2
    exact .sc rfl
   ·rw[List.getElem?_eq_none (by simp;omega)]at h1;cases h1
 | i+1,hi=>simp at hi
end Go.Eng
namespace Go.Eng
open Go.Lib Go.RowKit Go.Sort
theorem Auo (w:World) (b:Nat) (f:Array Value->Array Value):(mapBlock w b f).heap[b]? =(w.heap[b]?).map (onCells f):=by
 simp[mapBlock,Array.getElem?_modify]
theorem Auh (w:World) {b k:Nat} (f:Array Value->Array Value) (h:k≠b):(mapBlock w b f).heap[k]? =w.heap[k]? :=by
 simp[mapBlock,Array.getElem?_modify,Ne.symm h]
theorem AsE (w:World) (b:Nat) (f:Array Value->Array Value):(mapBlock w b f).heap.size=w.heap.size:=by simp[mapBlock]
theorem AxA {w w':World} {b o n:Nat} {vs vs':List Value} {f:Array Value->Array Value} (h:Has w b o vs n) (hw:w'.heap[b]? =(w.heap[b]?).map (onCells f)) (hs:∀c,(f c).size=c.size)
 (hf:∀c:Array Value,o+n<=c.size->(∀i,i<vs.length->c[o+i]? =vs[i]?)->∀i,i<vs'.length->(f c)[o+i]? =vs'[i]?) (ho:Fj vs') (hl:vs'.length<=n):Has w' b o vs' n:=by
 obtain⟨_,c,et,hb,h2,h3,h4⟩:=h
 exact⟨ho,f c,et,by rw[hw,hb];rfl,by rw[hs];exact h2,hl,hf c h2 h4⟩
theorem AFb {w:World} {b o n:Nat} {l:List Int} (h:Has w b o (iv l) n):Holds (Value.int .i64) w b o l.toArray:=by
 intro j hj
 simp only[List.size_toArray]at hj
 have hr:=(DF h).2 j (by simpa using hj)
 obtain⟨_,c,et,hb,_,_,_⟩:=h
 refine⟨?_,?_⟩
 ·rw[hr]
  simp[iv,hj]
 ·unfold World.frozen?
  simp only[hb]
  simp
theorem AwV {α:Type} [Inhabited α] (enc:α->Value) (o:Nat) (d:Array α) (c:Array Value):(putCells enc o d c).size=c.size:=by simp[putCells]
theorem AB7 (l:List Int) (o:Nat) (c:Array Value) {i:Nat} (hi:i<l.length) (hc:o+i<c.size):(putCells (Value.int .i64) o l.toArray c)[o+i]? =(iv l)[i]? :=by
 simp only[putCells,Array.getElem?_mapIdx,Array.getElem?_eq_getElem hc,Option.map_some]
 rw[if_pos ⟨by omega,by simp;omega⟩]
 simp[iv,hi]
def AHq (l:List Int):List Int:=l.mergeSort fun x y=>decide (x<=y)
theorem ABt (l:List Int):(AHq l).length=l.length:=by simp[AHq]
theorem AJ0 {P:Program} {Ae:Nat->Option FuncId} {G:Gl} {g k:Nat} (hid:Ae g=some k)
 (h0:∀(p:Option Addr) (cap:Nat) (w:World),Calls P k #[.slice p 0 cap] w fun e w'=>e= .returned (.tuple #[])/\w' =w)
 (hc:∀(blk off cap:Nat) (zs:List Int) (w:World),Holds (Value.int .i64) w blk off zs.toArray->blk<w.heap.size->zs.length<4611686018427387904->
  Calls P k #[.slice (some ⟨blk,off,none⟩) zs.length cap] w fun e w'=>e= .returned (.tuple #[])/\∃n os,w' =grow (putRow (Value.int .i64) (Sort.ahead w n) blk off (zs.mergeSort fun x y=>decide (x<=y)).toArray) os)
 (l:List Int) (hl:l.length<=4194304):Den P Ae G g [.arr 0] [.arr 1 0 l.length (T.ints l)] (.tup []) [.arr 1 0 l.length (T.ints (AHq l))]:=by
 refine AJB (ABt l) fun id hi F hF inv a cap hcap hm=> ?_
 rw[hid]at hi
 cases hi
 rcases hm with hm | ⟨b,o,rfl,hown,hhas⟩
 ·subst hm
  have:l=[]:=List.eq_nil_of_length_eq_zero (by omega)
  subst this
  refine(h0 a 0 F.w0).mono fun e w' ⟨he,hw⟩=>⟨he,.inl rfl,?_⟩
  rw[hw];exact Kept.refl F
 ·refine(hc b o cap l F.w0 (AFb hhas) (TT hhas) (by omega)).mono fun e w' ⟨he,n,os,hw⟩=>⟨he,.inr ⟨b,o,rfl,?_⟩,?_⟩
  ·refine AxA (f:=putCells (Value.int .i64) o (AHq l).toArray) hhas ?_ (AwV _ _ _) (fun c h1 _ i h2=> ?_) (AsZ _) (by simp[ABt];exact hcap)
   ·have hb:=TT hhas
    rw[hw]
    simp only[grow,putRow]
    rw[Array.getElem?_append,if_pos (by rw[AsE];exact hb),Auo]
    rfl
   ·simp only[AD3]at h2
    exact AB7 (AHq l) o c h2 (by rw[ABt]at h2;omega)
  ·rw[hw]
   refine⟨by simp[grow,putRow,AsE,Sort.ahead],rfl,rfl,rfl,fun b' h1 h2=> ?_⟩
   have hne:b'≠b:=by intro e;rw[e,hown]at h2;cases h2
   simp only[grow,putRow]
   rw[Array.getElem?_append,if_pos (by rw[AsE];exact h1),Auh _ _ hne]
   rfl
theorem AHm {P:Program} {Ae:Nat->Option FuncId} {G:Gl} {g k:Nat} (hid:Ae g=some k)
 (h0:∀(p:Option Addr) (cap:Nat) (w:World),Calls P k #[.slice p 0 cap] w fun e w'=>e= .returned (.slice p 0 cap)/\w' =w)
 (hc:∀(blk off cap:Nat) (zs:List Int) (w:World),Holds (Value.int .i64) w blk off zs.toArray->zs.length<=9223372036854775807->zs.length<=cap->
  Calls P k #[.slice (some ⟨blk,off,none⟩) zs.length cap] w fun e w'=>e= .returned (.slice (some ⟨blk,off,none⟩) (compact zs).length cap)/\∃q,w' =putRow (Value.int .i64) (Sort.ahead w q) blk off (compact zs++List.replicate (zs.length-(compact zs).length) 0).toArray)
 (l:List Int) (hl:l.length<=4194304) (hcl:(compact l).length<=l.length):Den P Ae G g [.arr 0] [.arr 1 0 l.length (T.ints l)] (.sl 0 1 (compact l).length (T.ints (compact l))) [.dead]:=by
 refine Axj (given:=[.arr 1 0 l.length (T.ints l)]) fun id hi F hF inv xs hx=> ?_
 rw[hid]at hi
 cases hi
 obtain⟨x,r,rfl,h1,h2⟩:=hx.Nf
 obtain rfl:=h2.N8
 obtain⟨a,cap,rfl,hcap,_,_,hm⟩:=AAS inv rfl h1
 rcases hm with hm | ⟨b,o,rfl,hown,hhas⟩
 ·subst hm
  have:l=[]:=List.eq_nil_of_length_eq_zero (by omega)
  subst this
  refine(h0 a 0 F.w0).mono fun e w' ⟨he,hw⟩=>⟨a,0,he,⟨Nat.le_refl _,by omega⟩,.inl rfl,?_⟩
  rw[hw];exact Kept.refl F
 ·refine(hc b o cap l F.w0 (AFb hhas) (by omega) hcap.1).mono fun e w' ⟨he,q,hw⟩=>⟨_,cap,he,⟨by omega,hcap.2⟩,.inr ⟨b,o,rfl,?_,fun _=>by rw[hown];simp⟩,?_⟩
  ·refine AxA (f:=putCells (Value.int .i64) o (compact l++List.replicate (l.length-(compact l).length) 0).toArray) hhas ?_ (AwV _ _ _) (fun c h1 _ i h2=> ?_) (AsZ _) (by simp;omega)
   ·rw[hw]
    simp only[putRow]
    rw[Auo]
    rfl
   ·simp only[AD3]at h2
    rw[AB7 _ o c (by simp;omega) (by omega)]
    simp[iv,List.getElem?_append,h2]
  ·rw[hw]
   refine⟨by simp[putRow,AsE,Sort.ahead],rfl,rfl,rfl,fun b' h1 h2=> ?_⟩
   have hne:b'≠b:=by intro e;rw[e,hown]at h2;cases h2
   simp only[putRow]
   rw[Auh _ _ hne]
   rfl
end Go.Eng
namespace Go.Eng
open Go.Lib Go.RowKit Go.Sort
def sv (l:List (List UInt8)):List Value:=l.map fun x=>Value.string (T.Ww x)
@[simp] theorem AKo (l:List (List UInt8)):(sv l).length=l.length:=by simp[sv]
theorem AGa (l:List (List UInt8)):Fj (sv l):=by
 intro v hv
 simp only[sv,List.mem_map]at hv
 obtain⟨x,_,rfl⟩:=hv
 rfl
theorem ALx {l:List (List UInt8)} {i:Nat} {v:V} {x:Value} (h1:(T.strs l)[i]? =some v) (h2:(sv l)[i]? =some x):v= .sc x:=by
 by_cases hi:i<l.length
 ·simp only[T.strs,sv,List.getElem?_map,hi,List.getElem?_eq_getElem,Option.map_some,Option.some.injEq]at h1 h2
  rw[<-h1,<-h2]
 ·rw[List.getElem?_eq_none (by simp;omega)]at h1;cases h1
theorem AJ3 {F:Fr} {given:List O} {k:Nat} {l:List (List UInt8)} {x:Value} (inv:Inv F F.β0 F.own0 (hp given) F.w0) (hk:hp given k= .arr 1 0 l.length (T.strs l)) (h:VR F F.β0 F.own0 (hp given) F.w0 (.arr k) x):
 ∃a cap,x= .slice a l.length cap/\(l.length<=cap/\cap<=9223372036854775807)/\(cap=0∨∃b o,a=some ⟨b,o,none⟩/\F.own0 b=some (k,[])/\Has F.w0 b o (sv l) cap):=by
 have ho:=inv.objs k
 rw[hk]at ho
 obtain⟨vs,h1,h2,h3,h4,h5⟩:=ho
 have hv:vs=sv l:=by
  apply List.ext_getElem?
  intro i
  by_cases hi:i<l.length
  ·have hlen:vs.length=l.length:=by rw[h1];simp
   have e1:vs[i]? =some (vs[i]'(by omega)):=by simp[hlen,hi]
   have:=h5 i (.sc (.string (T.Ww l[i]))) _ (by simp[T.strs,hi]) e1
   rw[e1]
   generalize vs[i]'(by omega)=y at this
   cases this with
   | sc _=>simp[sv,hi]
  ·rw[List.getElem?_eq_none (by rw[h1];simp;omega),List.getElem?_eq_none (by simp;omega)]
 subst hv
 cases h with
 | @arr _ e t len cs he=>
  rw[hk]at he
  simp only[Ac,Option.some.injEq,Prod.mk.injEq]at he
  obtain⟨rfl,rfl,rfl,rfl⟩:=he
  refine⟨_,_,rfl,h3,?_⟩
  rcases h4 with h4 | ⟨b,o,h4,h6,h7⟩
  ·exact .inl (by omega)
  ·exact .inr ⟨b,o,h4,h6,by rw[Nat.mul_one]at h7;exact h7⟩
 | goneA hd=>rw[hk]at hd;cases hd
theorem AD9 {P:Program} {Ae:Nat->Option FuncId} {G:Gl} {g:Nat} {args:List V} {given:List O} {l':List (List UInt8)}
 (h:∀id,Ae g=some id->∀F:Fr,F.Ae=Ae->F.G=G->Inv F F.β0 F.own0 (hp given) F.w0->∀xs,Pw (VR F F.β0 F.own0 (hp given) F.w0) args xs->
  Calls P id xs.toArray F.w0 fun e w'=>∃a cap,e= .returned (.slice a l'.length cap)/\(l'.length<=cap/\cap<=9223372036854775807)/\(cap=0∨∃b o,a=some ⟨b,o,none⟩/\Has w' b o (sv l') cap/\(b<F.w0.heap.size->F.own0 b≠none))/\Kept F w'):
 Den P Ae G g args given (.sl 0 1 l'.length (T.strs l')) (given.map fun _=> .dead):=by
 intro id hid F hF hG hb ht hn inv xs hx
 refine(h id hid F hF hG inv xs hx).mono fun e w' ⟨a,cap,he,hl,hm,hk⟩=> ?_
 subst he
 have hcs:∀own (i:Nat) (v:V) (x:Value),(T.strs l')[i]? =some v->(sv l')[i]? =some x->Ow F.Ae w' own (fun _ b=>F.G b) 0 F.ngiven ([]++ [i]) v x:=by
  intro own i v x h1 h2
  rw[ALx h1 h2]
  exact .sc (AGa l' x (List.mem_of_getElem? h2))
 rcases hm with hm | ⟨b,o,rfl,hhas,hown⟩
 ·refine⟨fun _=>none,⟨hk.size,hk.os,hk.tape,hk.output,hk.keep,fun b p h=>(by cases h),.own hl (by simp) (by simp) (.inl (by omega)) (hcs _),by simp[hn],fun i o hi=> ?_⟩⟩
  simp only[List.getElem?_map,Option.map_eq_some_iff]at hi
  obtain⟨_,_,rfl⟩:=hi
  trivial
 ·refine⟨fun b'=>if b' =b then some (F.ngiven,[])else none,⟨hk.size,hk.os,hk.tape,hk.output,hk.keep,fun b' p h=> ?_,.own hl (by simp) (by simp) (.inr ⟨b,o,rfl,if_pos rfl,by rw[Nat.mul_one];exact hhas⟩) (hcs _),by simp[hn],fun i o' hi=> ?_⟩⟩
  ·by_cases e:b' =b
   ·subst e;exact⟨TT hhas,hown⟩
   ·rw[if_neg e]at h;cases h
  ·simp only[List.getElem?_map,Option.map_eq_some_iff]at hi
   obtain⟨_,_,rfl⟩:=hi
   trivial
theorem AJz (w:World) (o:Obj):(w.alloc o).heap[w.heap.size]? =some o:=by
 show(w.heap.push o)[w.heap.size]? =some o
 rw[Array.getElem?_push,if_pos rfl]
theorem AIc (w:World) (o:Obj) {k:Nat} (h:k<w.heap.size):(w.alloc o).heap[k]? =w.heap[k]? :=by
 show(w.heap.push o)[k]? =w.heap[k]?
 rw[Array.getElem?_push,if_neg (by omega)]
theorem AGM (w:World) (o:Obj):(w.alloc o).heap.size=w.heap.size+1:=Array.size_push _
def pieces (l:List UInt8) (c:UInt8):List (List UInt8):=(splitB (T.Ww [c]) 0 (countB (T.Ww l) (T.Ww [c])) (T.Ww l)).map (·.data.toList)
abbrev AF3 (R:T.Rel):Prop:=∀(l:List UInt8) (c:UInt8),l.length<=4194304->R [T.Sb l,T.Sb [c]] [] (.sl 0 1 (pieces l c).length (T.strs (pieces l c))) []
abbrev AFm (R:T.Rel):Prop:=∀(ws:List (List UInt8)),ws.length<=4194304->ws≠ []->R [.arr 0,.fn 36 []] [.arr 1 0 ws.length (T.strs ws)] (.sl 0 1 (ws.filter fun w=> !decide (w=[])).length (T.strs (ws.filter fun w=> !decide (w=[])))) [.dead]
theorem AHM (l:List UInt8) (c:UInt8):(pieces l c).length=countB (T.Ww l) (T.Ww [c])+1:=by
 unfold pieces
 rw[List.length_map]
 exact splitB_all _ (by simp) 0 _ _ rfl
theorem AFf (l:List UInt8) (c:UInt8):sv (pieces l c)=(splitB (T.Ww [c]) 0 (countB (T.Ww l) (T.Ww [c])) (T.Ww l)).map Value.string:=by
 unfold sv pieces
 rw[List.map_map]
 refine List.map_congr_left fun x _=> ?_
 show Value.string (T.Ww x.data.toList)=Value.string x
 congr 1
theorem AJi {P:Program} {Ae:Nat->Option FuncId} {G:Gl} {g k b:Nat} {t:TypeId} {W:World} {m:Int} (hid:Ae g=some k) (hb:G b) (hW:G.is b=W.heap[b]?) (hm:W.cell? ⟨b,0,none⟩=some (.int .i64 m))
 (hc:∀(s sep:ByteArray) (m:Int) (w:World),s.size<4294967281->w.cell? ⟨b,0,none⟩=some (.int .i64 m)->1<=sep.size->
  Calls P k #[.string s,.string sep] w fun e w'=>
   e= .returned (.slice (some ⟨w.heap.size,0,none⟩) (countB s sep+1) (countB s sep+1))/\w' =w.alloc (.cells ((splitB sep 0 (countB s sep) s).map Value.string).toArray t)):AF3 (Den P Ae G g):=by
 intro l c hl
 refine AD9 (given:=[]) fun id hid' F hF hG inv xs hx=> ?_
 rw[hid]at hid'
 cases hid'
 obtain⟨x0,r0,rfl,h1,h2⟩:=hx.Nf
 obtain⟨x1,r1,rfl,h3,h4⟩:=h2.Nf
 obtain rfl:=h4.N8
 have e0:=JE h1
 have e1:=JE h3
 subst e0 e1
 have hg:=inv.glob b (by rw[hG];exact hb)
 have hh:F.w0.heap[b]? =W.heap[b]? :=by rw[hg.2.2,hG,hW]
 have hcell:F.w0.cell? ⟨b,0,none⟩=some (.int .i64 m):=by
  rw[<-hm]
  simp only[World.cell?,hh]
 have hsz:(T.Ww l).size<4294967281:=by rw[T.ArQ];omega
 have h1s:1<=(T.Ww [c]).size:=by rw[T.ArQ];simp
 have hle:=countB_le (T.Ww [c]) h1s _ (T.Ww l) (Nat.le_refl _)
 rw[T.ArQ]at hle
 refine(hc (T.Ww l) (T.Ww [c]) m F.w0 hsz hcell h1s).mono fun e w' ⟨he,hw'⟩=> ?_
 have hpl:=AHM l c
 refine⟨some ⟨F.w0.heap.size,0,none⟩,countB (T.Ww l) (T.Ww [c])+1,by rw[he,hpl],⟨by omega,by omega⟩,.inr ⟨F.w0.heap.size,0,rfl,⟨AGa _,_,t,by rw[hw'];exact AJz _ _,?_,by rw[AKo,hpl];exact Nat.le_refl _,?_⟩,fun h=>absurd h (by omega)⟩,?_⟩
 ·rw[<-AFf];simp[hpl]
 ·intro i hi
  rw[<-AFf];simp
 ·rw[hw']
  refine⟨by rw[AGM];omega,rfl,rfl,rfl,fun b' hb' _=>AIc _ _ hb'⟩
theorem AK4 {w:World} {b o n:Nat} {l:List (List UInt8)} (h:Has w b o (sv l) n):Holds Value.string w b o (l.map T.Ww).toArray:=by
 intro j hj
 simp only[List.size_toArray,List.length_map]at hj
 have hr:=(DF h).2 j (by simpa using hj)
 obtain⟨_,c,et,hb,_,_,_⟩:=h
 refine⟨?_,?_⟩
 ·rw[hr]
  simp[sv,hj]
 ·unfold World.frozen?
  simp only[hb]
  simp
theorem AI9 (l:List (List UInt8)) (o:Nat) (c:Array Value) {i:Nat} (hi:i<l.length) (hc:o+i<c.size):(putCells Value.string o (l.map T.Ww).toArray c)[o+i]? =(sv l)[i]? :=by
 simp only[putCells,Array.getElem?_mapIdx,Array.getElem?_eq_getElem hc,Option.map_some]
 rw[if_pos ⟨by omega,by simp;omega⟩]
 simp[sv,hi]
theorem AJk (w:List UInt8):decide (T.Ww w=ByteArray.empty)=decide (w=[]):=by
 have:(T.Ww w=ByteArray.empty)↔w=[]:=by
  constructor
  ·intro h
   have h2:=congrArg ByteArray.size h
   rw[T.ArQ]at h2
   exact List.eq_nil_of_length_eq_zero h2
  ·intro h;subst h;rfl
 simp[this]
theorem AIp (ws:List (List UInt8)):(ws.map T.Ww).filter (fun x=> !decide (x=ByteArray.empty))=(ws.filter fun w=> !decide (w=[])).map T.Ww:=by
 rw[List.filter_map]
 congr 1
 apply List.filter_congr
 intro w _
 show(!decide (T.Ww w=ByteArray.empty))=_
 rw[AJk]
theorem AIm {P:Program} {Ae:Nat->Option FuncId} {G:Gl} {g k k36:Nat} (hid:Ae g=some k) (hid36:Ae 36=some k36)
 (hc:∀(blk off cap:Nat) (d:Array ByteArray) (w:World),Holds Value.string w blk off d->d.size<=9223372036854775807->d.size<=cap->
  Calls P k #[.slice (some ⟨blk,off,none⟩) d.size cap,.func (.func k36) #[] #[]] w fun e w'=>e= .returned (.slice (some ⟨blk,off,none⟩) (d.toList.filter fun x=> !decide (x=ByteArray.empty)).length cap)/\
   ∃q,w' =putRow Value.string (Sort.ahead w q) blk off ((d.toList.filter fun x=> !decide (x=ByteArray.empty))++List.replicate (d.size-(d.toList.filter fun x=> !decide (x=ByteArray.empty)).length) ByteArray.empty).toArray):AFm (Den P Ae G g):=by
 intro ws hl hne
 refine AD9 (given:=[.arr 1 0 ws.length (T.strs ws)]) fun id hid' F hF hG inv xs hx=> ?_
 rw[hid]at hid'
 cases hid'
 obtain⟨x0,r0,rfl,h1,h2⟩:=hx.Nf
 obtain⟨x1,r1,rfl,h3,h4⟩:=h2.Nf
 obtain rfl:=h4.N8
 obtain⟨a,cap,rfl,hcap,hm⟩:=AJ3 inv rfl h1
 have hx1:x1= .func (.func k36) #[] #[]:=by
  cases h3 with
  | fn hf hl hc=>
   rename_i vs
   rw[hF,hid36]at hf
   cases hf
   have:vs=[]:=List.eq_nil_of_length_eq_zero (by simpa using hl)
   subst this;rfl
 subst hx1
 have hpos:0<ws.length:=List.length_pos_iff.2 hne
 rcases hm with hm | ⟨b,o,rfl,hown,hhas⟩
 ·omega
 have hd:(ws.map T.Ww).toArray.size=ws.length:=by simp
 have hcall:=hc b o cap (ws.map T.Ww).toArray F.w0 (AK4 hhas) (by rw[hd];omega) (by rw[hd];exact hcap.1)
 simp only[hd,List.toList_toArray]at hcall
 rw[AIp,List.length_map]at hcall
 have hfl:=List.length_filter_le (fun w:List UInt8=> !decide (w=[])) ws
 generalize(ws.filter fun w=> !decide (w=[]))=ks at hcall hfl⊢
 refine hcall.mono fun e w' ⟨he,q,hw⟩=>⟨_,cap,he,⟨by omega,hcap.2⟩,.inr ⟨b,o,rfl,?_,fun _=>by rw[hown];simp⟩,?_⟩
 ·have hrow:(ks.map T.Ww++List.replicate (ws.length-ks.length) ByteArray.empty)=(ks++List.replicate (ws.length-ks.length) []).map T.Ww:=by
   rw[List.map_append,List.map_replicate];rfl
  rw[hrow]at hw
  refine AxA (f:=putCells Value.string o ((ks++List.replicate (ws.length-ks.length) []).map T.Ww).toArray) hhas ?_ (AwV _ _ _) (fun c h1 _ i h2=> ?_) (AGa _) (by simp;omega)
  ·rw[hw]
   simp only[putRow]
   rw[Auo]
   rfl
  ·simp only[AKo]at h2
   rw[AI9 _ o c (by simp;omega) (by omega)]
   simp[sv,List.getElem?_append,h2]
 ·rw[hw]
  refine⟨by simp[putRow,AsE,Sort.ahead],rfl,rfl,rfl,fun b' h1 h2=> ?_⟩
  have hne:b'≠b:=by intro e;rw[e,hown]at h2;cases h2
  simp only[putRow]
  rw[Auh _ _ hne]
  rfl
end Go.Eng
namespace Go.Eng.T
open Go.Lib
set_option maxRecDepth 20000
set_option maxHeartbeats 8000000
theorem AIF {w:List UInt8} (h1:w≠ [108,105,109,105,116]) (h2:w≠ [115,116,114,105,112]) (h3:kindOf w=0) (n:List Int):Ark w n=⟨0,0,AsO⟩:=by
 rw[AC3 (fun h=>h1 h.1) (fun h=>h2 h.1),h3]
 rfl
theorem ADf (D:Dn) (hSp:Go.Eng.AF3 (D 14)) (hDf:Go.Eng.AFm (D 37)) (hWo:∀l:List UInt8,(Go.Eng.pieces l 32).filter (fun w=> !decide (w=[]))=Awt l/\(Go.Eng.pieces l 32).length<=l.length+1/\Go.Eng.pieces l 32≠ [])
 (hC:EF (D 38)) (hNs:AIO ADv (D 39)) (hLW:AF2 (D 43)) (hTA:AC8 (D 44))
 (hEv:AyW (D 40)) (hAp:MS (D 41)) (hTd:AIM (D 42)) (hN0:AKC (D 46)) (hN1:AIS (D 45)):AGB (Body D AtQ):=by
 intro w l ok hw hl
 have hsz:=ok.sz
 have hwo:=AHa l
 obtain⟨q1,q2,q3⟩:=hWo l
 simp -implicitDefEqProofs
 refine Aa (show _ from hSp l 32 (by omega)) ?_
 simp -implicitDefEqProofs
 refine Aa (show _ from hDf (Go.Eng.pieces l 32) (by omega) q3) ?_
 rw[q1]
 unfold AsN
 cases hws:Awt l with
 | nil=>
  by_cases h2:l.length>200
  ·have h2':200<(l.length:Int):=by omega
   simp -implicitDefEqProofs [h2,h2']
   refine Aa (hC w hsz) ?_
   simp -implicitDefEqProofs [Atb]
  ·have h2':¬200<(l.length:Int):=by omega
   simp -implicitDefEqProofs [h2,h2']
   refine Aa (hC w hsz) ?_
   simp -implicitDefEqProofs [Atb]
 | cons word r=>
  rw[hws]at hwo
  have hlr:=hwo.1
  simp only[List.length_cons]at hlr
  by_cases h2:l.length>200
  ·have h2':200<(l.length:Int):=by omega
   have c0:¬((r.length:Int)+1=0):=by omega
   simp -implicitDefEqProofs [h2,h2',c0]
   refine Aa (hC w hsz) ?_
   simp -implicitDefEqProofs [Atb]
  ·have h2':¬200<(l.length:Int):=by omega
   have c0:¬((r.length:Int)+1=0):=by omega
   have c1:(1:Int)<=r.length+1:=by omega
   have e6:((r.length:Int)+1).toNat=r.length+1:=by omega
   have e5:part (strs (word::r)) 1 1 r.length=strs r:=by
    simp only[part,strs,List.map_cons,Nat.one_mul,Nat.mul_one,List.drop_succ_cons,List.drop_zero]
    rw[List.take_of_length_le (by simp)]
   simp -implicitDefEqProofs [h2,h2',c0,c1,e5,e6]
   have hwr:ALs r:=⟨by omega,fun x hx=>by have:=(hwo.2 x (List.mem_cons_of_mem _ hx)).2;omega⟩
   refine Aa (hNs r hwr) ?_
   by_cases ha:Au2 r=true
   rotate_left
   ·have ha':Au2 r=false:=by simpa using ha
    simp -implicitDefEqProofs [ha']
    refine Aa (hC w hsz) ?_
    simp -implicitDefEqProofs [Atb]
   have hnl:=ADn r
   have hrg:=AKJ r
   have hst:(strs (word::r))[0]? =some (Sb word):=rfl
   have hr0:(0:Int)<=r.length:=by omega
   rw[AJ7 ha]
   generalize numsOf r=n at hnl hrg
   have hn1:n.length<=4194000:=by omega
   simp -implicitDefEqProofs [ha]
   rw[<-hnl]
   clear hnl
   have hk:=AIT word
   have hword:word≠ []:=(hwo.2 word (by simp)).1
   have hee:=hEv word n (by omega) hword
   have hse:=AGF word n
   refine Aa (show _ from hee) ?_
   clear hee
   by_cases ke:0<(Ark word n).kind
   ·have e:Ax7 w word n=((AA w (Ark word n)).1,if(AA w (Ark word n)).2=true then wOk else wNo):=by
     have z1:¬(word=[119,111,114,108,100]/\n≠ []):=by
      rintro ⟨a,_⟩
      rw[AIF (by rw[a];decide) (by rw[a];decide) (by rw[a];decide) n]at ke
      exact absurd ke (by decide)
     have z2:¬(word=[97,108,108]/\n=[]):=by
      rintro ⟨a,_⟩
      rw[AIF (by rw[a];decide) (by rw[a];decide) (by rw[a];decide) n]at ke
      exact absurd ke (by decide)
     unfold Ax7
     rw[if_neg z1,if_neg z2,if_pos ke]
    rw[e]
    generalize Ark word n=ev at hse ke⊢
    obtain⟨kd,en,⟨el,ed,es,ex⟩⟩:=ev
    have ke':0<kd:=ke
    simp -implicitDefEqProofs [ke']
    refine Aa (hAp w ⟨kd,en,⟨el,ed,es,ex⟩⟩ hsz (by omega)) ?_
    generalize AA w ⟨kd,en,⟨el,ed,es,ex⟩⟩=p
    obtain⟨x,dn⟩:=p
    simp -implicitDefEqProofs
    refine Aa (hTd dn) ?_
    simp -implicitDefEqProofs [wOk,wNo]
   ·have hsd:Ax7 w word n=if word=[119,111,114,108,100]/\n≠ []then(if(AnV (n.getD 0 0) n.tail).2=true then((AnV (n.getD 0 0) n.tail).1,wOk)else(w,wNo))
     else if word=[97,108,108]/\n=[]then(AGj w,wOk)else if n.length=0 then(w,(AsK w word).getD Atb)else if n.length=1 then(w,(At3 w word (n.getD 0 0)).getD Atb)else(w,Atb):=by
     unfold Ax7;rw[if_neg ke]
    rw[hsd]
    clear hsd
    generalize Ark word n=ev at hse ke⊢
    obtain⟨kd,en,⟨el,ed,es,ex⟩⟩:=ev
    have ke':¬0<kd:=ke
    simp -implicitDefEqProofs [ke']
    refine Aa (hC w hsz) ?_
    by_cases w1:word=[119,111,114,108,100]/\n≠ []
    ·obtain⟨w1a,w1b⟩:=w1
     cases n with
     | nil=>exact absurd rfl w1b
     | cons x st=>
      have hlw:=hLW x st (by simp at hn1;omega)
      have p0:(0:Int)<(st.length:Int)+1+1:=by omega
      have p1:(0:Int)<(st.length:Int)+1:=by omega
      have p2:(1:Int)<=(st.length:Int)+1:=by omega
      have p3:((st.length:Int)+1).toNat=st.length+1:=by omega
      have p4:part (ints (x::st)) 1 1 st.length=ints st:=by
       simp only[part,ints,List.map_cons,Nat.one_mul,Nat.mul_one,List.drop_succ_cons,List.drop_zero]
       rw[List.take_of_length_le (by simp)]
      simp -implicitDefEqProofs [w1a,hst,p0,p1,p2,p3,p4]
      refine Aa (show _ from hlw) ?_
      generalize AnV x st=p
      obtain⟨y,dn⟩:=p
      cases dn
      ·simp -implicitDefEqProofs [wNo]
      ·simp -implicitDefEqProofs [wOk]
    rw[if_neg w1]
    have pn:(0:Int)<(n.length:Int)+1:=by omega
    by_cases w2:word=[97,108,108]/\n=[]
    ·obtain⟨w2a,rfl⟩:=w2
     simp -implicitDefEqProofs [w2a,hst]
     refine Aa (hTA w hw) ?_
     simp -implicitDefEqProofs [wOk]
    rw[if_neg w2]
    by_cases a1:word=[119,111,114,108,100]
    ·have hn:n=[]:=by
      by_cases hn:n=[]
      ·exact hn
      ·exact absurd ⟨a1,hn⟩ w1
     subst hn
     subst a1
     simp -implicitDefEqProofs [hst]
     refine Aa (hN0 w _ ok) ?_
     simp -implicitDefEqProofs [AsK,Atb]
    ·by_cases l0:n=[]
     ·subst l0
      have a2:¬word=[97,108,108]:=fun h=>w2 ⟨h,rfl⟩
      simp -implicitDefEqProofs [a1,a2,hst]
      refine Aa (hN0 w _ ok) ?_
      generalize AsK w word=a
      cases a
      ·simp -implicitDefEqProofs [Atb]
      ·simp -implicitDefEqProofs
     ·have ll:¬n.length=0:=fun h=>l0 (List.eq_nil_of_length_eq_zero h)
      have l0':¬(n.length:Int)=0:=by omega
      by_cases l1:n.length=1
      ·obtain⟨x,rfl⟩:=AJN l1
       by_cases a2:word=[97,108,108]
       ·subst a2
        simp -implicitDefEqProofs [hst]
        refine Aa (hN1 w _ x ok (hrg x (by simp))) ?_
        simp -implicitDefEqProofs [At3,Atb]
       ·simp -implicitDefEqProofs [a1,a2,hst]
        refine Aa (hN1 w _ x ok (hrg x (by simp))) ?_
        generalize At3 w word x=a
        cases a
        ·simp -implicitDefEqProofs [Atb]
        ·simp -implicitDefEqProofs
      ·have l1':¬(n.length:Int)=1:=by omega
       by_cases a2:word=[97,108,108]
       ·subst a2
        simp -implicitDefEqProofs [hst,l0,l1,l0',l1',ll,pn]
        simp -implicitDefEqProofs [Atb]
       ·simp -implicitDefEqProofs [a1,a2,hst,l0,l1,l0',l1',ll,pn]
        simp -implicitDefEqProofs [Atb]
end Go.Eng.T
namespace Go.Eng
open Go.Lib
def As9 (c:UInt8):List UInt8->List UInt8->List (List UInt8)
 | [],w=> [w]
 | b::r,w=>if b=c then w::As9 c r []else As9 c r (w++ [b])
theorem index_hit (c:UInt8) (r:List UInt8):index (c::r) [c]=0:=by
 rw[index];simp[List.isPrefixOf]
theorem AIB {b c:UInt8} (h:¬b=c) (r:List UInt8):index (b::r) [c]=if index r [c]== -1 then -1 else index r [c]+1:=by
 rw[index]
 have hp:([c]:List UInt8).isPrefixOf (b::r)=false:=by
  simp only[List.isPrefixOf,Bool.and_true,beq_eq_false_iff_ne,ne_eq]
  exact fun e=>h e.symm
 rw[hp];rfl
theorem ABq (c:UInt8):∀(l w:List UInt8) (k:Nat),l.count c<=k->∃p ps,splitK [c] 0 k l=p::ps/\As9 c l w=(w++p)::ps
 | [],w,k,_=>by
  refine⟨[],[],?_,by simp[As9]⟩
  cases k with
  | zero=>rfl
  | succ k=>unfold splitK;rw[if_pos (by simp[index])]
 | b::r,w,k,hk=>by
  by_cases hb:b=c
  ·subst hb
   rw[List.count_cons_self]at hk
   obtain⟨k',rfl⟩:∃k',k=k'+1:=⟨k-1,by omega⟩
   obtain⟨p,ps,h1,h2⟩:=ABq b r [] k' (by omega)
   refine⟨[],p::ps,?_,?_⟩
   ·unfold splitK
    rw[index_hit,if_neg (by decide)]
    simp[h1]
   ·rw[As9,if_pos rfl,h2];simp
  ·rw[List.count_cons_of_ne (fun e=>hb e)]at hk
   obtain⟨p,ps,h1,h2⟩:=ABq c r (w++ [b]) k hk
   refine⟨b::p,ps,?_,?_⟩
   ·cases k with
    | zero=>unfold splitK at h1⊢;cases h1;rfl
    | succ k=>
     unfold splitK at h1⊢
     rw[AIB hb]
     by_cases hi:index r [c]= -1
     ·rw[if_pos (by simp[hi])]at h1
      rw[hi]
      cases h1
      rfl
     ·rw[if_neg (by simpa using hi)]at h1
      have hge:=index_ge r [c]
      obtain⟨j,hj⟩:∃j:Nat,index r [c]=j:=⟨(index r [c]).toNat,by omega⟩
      have e2:(if(index r [c]== -1)=true then(-1:Int)else index r [c]+1)=((j+1:Nat):Int):=by
       rw[if_neg (by simpa using hi),hj];omega
      rw[e2,if_neg (by simp only[beq_iff_eq];omega)]
      rw[hj]at h1
      simp only[Int.toNat_natCast,Nat.add_zero,List.length_cons,List.length_nil,Nat.zero_add]at h1⊢
      cases h1
      simp
   ·rw[As9,if_neg hb,h2];simp
theorem ADN (l:List UInt8) (c:UInt8):pieces l c=As9 c l []:=by
 obtain⟨p,ps,h1,h2⟩:=ABq c l [] (countB (T.Ww l) (T.Ww [c])) (by
  show _<=count l [c]
  rw[count_one];exact Nat.le_refl _)
 unfold pieces
 rw[splitB_data]
 show splitK [c] 0 _ l=_
 rw[h1,h2];simp
theorem Azq:∀(l w:List UInt8),(As9 32 l w).filter (fun x=> !decide (x=[]))=T.wGo l w
 | [],w=>by
  rw[As9,T.AIW]
  by_cases h:w=[]<;>simp[h]
 | c::r,w=>by
  rw[As9,T.wGo]
  by_cases h:c=32
  ·rw[if_pos h,if_pos h,List.filter_cons]
   have:=Azq r []
   by_cases hw:w=[]<;>simp[hw,this]
  ·rw[if_neg h,if_neg h]
   exact Azq r (w++ [c])
theorem AxE (c:UInt8):∀(l w:List UInt8),(As9 c l w).length<=l.length+1/\As9 c l w≠ []
 | [],w=>by simp[As9]
 | b::r,w=>by
  have h1:=AxE c r []
  have h2:=AxE c r (w++ [b])
  rw[As9]
  split
  ·refine⟨by simp;omega,by simp⟩
  ·refine⟨by simp;omega,h2.2⟩
theorem AJh (l:List UInt8):(pieces l 32).filter (fun w=> !decide (w=[]))=T.Awt l/\(pieces l 32).length<=l.length+1/\pieces l 32≠ []:=by
 rw[ADN]
 exact⟨Azq l [],(AxE 32 l []).1,(AxE 32 l []).2⟩
end Go.Eng
namespace Go.Eng.T
set_option maxRecDepth 20000
set_option maxHeartbeats 2000000
theorem AI2 (w:World) (e:Event):Af (AA w e).1<=Af w+w.ends.length+3001+Hy e:=by
 have h1:=AkM w e
 have h2:=AnN (AA w e).1
 have h3:=Am5 w
 omega
end Go.Eng.T
namespace Go.Eng.T
open Go.Lib
theorem AUQ {w:World} (h:ASR w) (hs:Af w<=4194304):Art w:=by
 obtain⟨h1,_,_,h4,h5,_,_,_,h9,h10,h11,_⟩:=h
 exact⟨hs,h1,h5,⟨h10,h11⟩,fun e he=>⟨(h4 e he).1,(h4 e he).2.1⟩,fun l hl=>⟨(h9 l hl).1,(h9 l hl).2.2⟩⟩
theorem AVc (w:World) (l:List UInt8):Af (AsN w l).1<=Af w+w.ends.length+l.length+3100:=by
 unfold AsN
 split
 ·show Af w<=_;omega
 have hwo:=AHa l
 split
 ·show Af w<=_;omega
 ·rename_i word r hws
  rw[hws]at hwo
  have hlr:=hwo.1
  simp only[List.length_cons]at hlr
  split
  ·unfold Ax7
   split
   ·split
    ·have hz:=AGg ((numsOf r).getD 0 0) (numsOf r).tail
     have hst:(numsOf r).tail.length<=l.length:=by rw[List.length_tail,ADn];omega
     show Af (AnV _ _).1<=_
     omega
    ·show Af w<=_;omega
   split
   ·have:=AFh w w.ends.length
    show Af (Apu w w.ends.length)<=_
    omega
   split
   ·have he:=AGF word (numsOf r)
    have:=AI2 w (Ark word (numsOf r))
    show Af (AA w (Ark word (numsOf r))).1<=_
    omega
   split
   ·show Af w<=_;omega
   split
   ·show Af w<=_;omega
   ·show Af w<=_;omega
  ·show Af w<=_;omega
end Go.Eng.T
namespace Go.Eng.T
set_option maxRecDepth 20000
set_option maxHeartbeats 2000000
abbrev APu (R:Rel):Prop:=∀(aW:World) (aLine:ByteArray),AAK aW->ASR aW->R [arg (Bu aW),S aLine] [] (B true) []
theorem ARs (D:Dn) (hs:AGB (D 9)) (hi:AGB (D 10)) (hszWorld:ASe (D 7)) (htoWorld:ASk (D 8)) (heqWorld:ASg (D 11)) (hmarkWorld:ARg (D 12)) (hheldWorld:ARd (D 13)):APu (Body D AOF):=by
 intro aW aLine l_aW w_aW
 obtain⟨l,rfl⟩:∃l,aLine=Ww l:=⟨bl aLine,(ALc _).symm⟩
 by_cases g1:(1048576:Int)<((l.length:Nat):Int)
 ·simp -implicitDefEqProofs [g1]
 simp -implicitDefEqProofs [g1]
 refine Aa (hszWorld aW ((1048576:Int)) (by omega) (by omega) l_aW) ?_
 by_cases g2:(1048576:Int)<((Af aW:Nat):Int)
 ·simp -implicitDefEqProofs [AVj g2]
 have p2:¬(1048576:Int)-((Af aW:Nat):Int)<0:=by omega
 simp -implicitDefEqProofs [g1,APM g2,p2]
 have hs':=hs aW l (AUQ w_aW (by omega)) (by omega) (by omega)
 have hi':=hi aW l (AUQ w_aW (by omega)) (by omega) (by omega)
 obtain⟨b0,c0⟩:Af ((AsN aW l).1)<=1099511627776/\APp ((AsN aW l).1)<=1099511627776:=(by have a1:=AVc aW l;have a2:=ATp ((AsN aW l).1);have a3:=FE (w:=aW) (by omega);omega)
 generalize(AsN aW l).1=r0 at hs' hi' b0 c0
 refine Aa (htoWorld aW (by omega)) ?_
 simp -implicitDefEqProofs [g1,APM g2,p2]
 refine Aa (hs') ?_
 simp -implicitDefEqProofs [g1,APM g2,p2]
 refine Aa (htoWorld aW (by omega)) ?_
 simp -implicitDefEqProofs [g1,APM g2,p2]
 refine Aa (hi') ?_
 simp -implicitDefEqProofs [g1,APM g2,p2]
 refine Aa (heqWorld r0 r0 (by omega) (by omega)) ?_
 simp -implicitDefEqProofs [g1,APM g2,p2]
 refine Aa (htoWorld aW (by omega)) ?_
 simp -implicitDefEqProofs [g1,APM g2,p2]
 refine Aa (heqWorld aW aW (by omega) (by omega)) ?_
 simp -implicitDefEqProofs [g1,APM g2,p2]
 have qaW:=ATp aW
 have pkaW:¬1+((APp aW:Nat):Int)<0:=by omega
 refine Aa (hmarkWorld aW (1) (by omega) (by omega)) ?_
 simp -implicitDefEqProofs [g1,APM g2,p2,pkaW,AOh,AOf]
 refine Aa (heqWorld r0 r0 (by omega) (by omega)) ?_
 simp -implicitDefEqProofs [g1,APM g2,p2,pkaW,AOh,AOf]
 refine Aa (hmarkWorld r0 (1) (by omega) (by omega)) ?_
 simp -implicitDefEqProofs [g1,APM g2,p2,pkaW,AOh,AOf]
 have pq0:¬1+((APp r0:Nat):Int)<0:=by omega
 have hr:=hheldWorld r0 (1) (by omega) (by omega)
 simp -implicitDefEqProofs [AOh,AOf]at hr
 refine Aa (hr) ?_
 simp -implicitDefEqProofs [g1,APM g2,p2,pkaW,AOh,AOf,pq0]
 refine Aa (htoWorld aW (by omega)) ?_
 simp -implicitDefEqProofs [g1,APM g2,p2,pkaW,AOh,AOf,pq0]
 refine Aa (hi') ?_
 simp -implicitDefEqProofs [g1,APM g2,p2,pkaW,AOh,AOf,pq0]
 refine Aa (heqWorld r0 r0 (by omega) (by omega)) ?_
 simp -implicitDefEqProofs [g1,APM g2,p2,pkaW,AOh,AOf,pq0]
 have hr:=hheldWorld r0 (1) (by omega) (by omega)
 simp -implicitDefEqProofs [AOh,AOf]at hr
 refine Aa (hr) ?_
 simp -implicitDefEqProofs [g1,APM g2,p2,pkaW,AOh,AOf,pq0]
open Go.Lib
theorem AIP:∀(l:List UInt8) (a:Nat),a<=l.foldl (fun a c=>10*a+(c.toNat-48)) a
 | [],a=>Nat.le_refl a
 | c::r,a=>by
  have:=AIP r (10*a+(c.toNat-48))
  simp only[List.foldl_cons]
  omega
theorem ADw:∀(l:List UInt8) (a:Nat),l.all AIy=true->l.foldl (fun a c=>10*a+(c.toNat-48)) a<=1000000000000->parseUint10 a l= .ok (l.foldl (fun a c=>10*a+(c.toNat-48)) a)
 | [],a,_,_=>rfl
 | c::r,a,h,hb=>by
  simp only[List.all_cons,Bool.and_eq_true,AIy,decide_eq_true_eq]at h
  simp only[List.foldl_cons]at hb⊢
  have h1:=AIP r (10*a+(c.toNat-48))
  have ih:=ADw r (10*a+(c.toNat-48)) h.2 hb
  unfold parseUint10
  rw[if_pos (by omega),if_neg (by omega),if_neg (by omega),Nat.mul_comm a 10]
  exact ih
theorem AHt {l:List UInt8} (h:AsY l=true):atoiAll l= .ok (AEb l:Int):=by
 simp only[AsY,Bool.and_eq_true,decide_eq_true_eq]at h
 obtain⟨⟨⟨h1,h2⟩,h3⟩,_⟩:=h
 have hp:=ADw l 0 h2 h3
 cases l with
 | nil=>simp at h1
 | cons c r=>
  have hc:=h2
  simp only[List.all_cons,Bool.and_eq_true,AIy,decide_eq_true_eq]at hc
  have hne:¬(c.toNat=43∨c.toNat=45):=by omega
  have hn:¬c.toNat=45:=by omega
  have hd:AEb (c::r)<=1000000000000:=h3
  have hm:parseMag (c::r)= .ok (AEb (c::r)):=by
   unfold parseMag
   rw[if_neg (by simp)]
   exact hp
  unfold atoiAll
  simp only[if_neg hne,hm,if_neg hn]
  rw[if_neg (by omega),if_neg (by omega)]
theorem ADM:∀(k n:Nat),n<10 ^ (k+1)->(decDigits n).all AIy=true/\AEb (decDigits n)=n/\1<=(decDigits n).length/\(decDigits n).length<=k+1
 | k,n,hn=>by
  have hone:∀d:Nat,d<10->AIy (UInt8.ofNat (48+d))=true/\(UInt8.ofNat (48+d)).toNat-48=d:=by
   intro d hd
   have:(UInt8.ofNat (48+d)).toNat=48+d:=by
    rw[UInt8.toNat_ofNat']
    exact Nat.mod_eq_of_lt (by omega)
   refine⟨?_,by omega⟩
   unfold AIy
   rw[this]
   simp;omega
  by_cases h:n<10
  ·rw[decDigits_one h]
   have:=hone n h
   refine⟨by rw[List.all_cons,this.1];rfl,?_,by simp,by simp⟩
   show 10*0+_=n
   omega
  ·cases k with
   | zero=>simp at hn;omega
   | succ k=>
    have ih:=ADM k (n / 10) (by rw[Nat.pow_succ]at hn;omega)
    have hd:=hone (n % 10) (Nat.mod_lt _ (by omega))
    rw[decDigits,dif_neg h]
    refine⟨?_,?_,by simp,by simp;omega⟩
    ·rw[List.all_append,ih.1,List.all_cons,hd.1];rfl
    ·have e:=ih.2.1
     unfold AEb at e⊢
     rw[List.foldl_append,e]
     show 10*(n / 10)+_=n
     rw[hd.2];omega
theorem ALg {l:List UInt8} {v:Int} (h0:0<=v) (h1:v<=1000000000000) (h:itoa v=l):AsY l=true/\(AEb l:Int)=v:=by
 obtain⟨n,rfl⟩:∃n:Nat,v=n:=⟨v.toNat,by omega⟩
 have e:itoa (n:Int)=decDigits n:=by unfold itoa;rw[if_neg (by omega)];rfl
 have hd:=ADM 12 n (by omega)
 rw[e]at h
 subst h
 refine⟨?_,by rw[hd.2.1]⟩
 simp only[AsY,Bool.and_eq_true,decide_eq_true_eq]
 refine⟨⟨⟨by omega,hd.1⟩,by rw[hd.2.1];omega⟩,?_⟩
 rw[hd.2.1,e]
theorem AKE {l:List UInt8} {v:Int} (h:atoiAll l= .ok v):(if 0<=v/\v<=1000000000000/\itoa v=l then(v,true)else((0:Int),false))=(Ave l,AsY l):=by
 by_cases hn:AsY l=true
 ·have h2:=AHt hn
  rw[h]at h2
  cases h2
  have h3:=AIV l
  have h4:Ave l=AEb l:=by unfold Ave;rw[if_pos hn]
  have h5:itoa (AEb l)=l:=by
   simp only[AsY,Bool.and_eq_true,decide_eq_true_eq]at hn
   exact hn.2
  rw[h4]at h3
  rw[if_pos ⟨h3.2.1,h3.2.2,h5⟩,h4,hn]
 ·have hp:Ave l=0:=by unfold Ave;rw[if_neg hn]
  rw[if_neg,hp,show AsY l=false by simpa using hn]
  rintro ⟨a,b,c⟩
  exact hn (ALg a b c).1
theorem AKs {l:List UInt8} (h:∀v,atoiAll l≠ .ok v):Ave l=0/\AsY l=false:=by
 by_cases hn:AsY l=true
 ·exact absurd (AHt hn) (h _)
 ·exact⟨by unfold Ave;rw[if_neg hn],by simpa using hn⟩
end Go.Eng.T
