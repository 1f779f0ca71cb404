/- Own work: part 46 of the proof of FnExactApplyEvent. -/
import Derived.Test.YtdoefikagfghnaaGreatP45
set_option linter.unusedSimpArgs false
set_option linter.unusedVariables false
namespace Go.Eng.T
abbrev V9 (R:Rel):Prop:=∀(xs:List Cw) (l:Int),0≤l→l≤4194304→lnS OV xs→R [.sl 1 5 xs.length (xs.flatMap AP),I l] [] (I (szl (Bw Al xs) l)) []
theorem Arx (D:Dn) (hsz:UW (D 63)):V9 (Body D ALG):=by
 intro xs l h1 h2 hln
 have h3:=hln.1
 unfold maxLen at h3
 have hw:IntKind.i64.wrap (l-(xs.length:Int))=l-xs.length:=Ad (by omega) (by omega)
 by_cases h:l<(xs.length:Int)
 ·have h':l-(xs.length:Int)<0:=by omega
  have e2:szl (Bw Al xs) l= -1:=by unfold szl Bw;rw[if_pos (by omega)]
  simp -implicitDefEqProofs [hw,h',e2]
 ·have h':¬l-(xs.length:Int)<0:=by omega
  simp -implicitDefEqProofs [hw,h']
  refine Ae (fun k s=>∃j,j+k=xs.length∧((xs.take j).map Al).sum+xs.length≤l∧s=⟨[.sl 1 5 xs.length (xs.flatMap AP),.sc (.int .i64 (l-xs.length-((((xs.take j).map Al).sum:Nat):Int))),.undef,.sc (.int .i64 j),.undef,.undef,.undef],[]⟩) ?_ xs.length _ ⟨0,by simp,by simp;omega,by simp⟩
  intro k s ⟨j,hj,hp,hs⟩
  subst hs
  by_cases hjn:j<xs.length
  ·have hw:IntKind.i64.wrap ((j:Int)+1)=(j+1:Nat):=by rw[Ad (by omega) (by omega)];simp
   have ht:=Ye (f:=Al) hjn
   have htl:=OT (f:=Al) (xs:=xs) (j:=j+1)
   simp -implicitDefEqProofs [hjn, -List.map_take]
   refine Aa (hsz xs[j] _ (by omega) (by omega) (hln.2 j hjn)) ?_
   by_cases he:l-xs.length-((((xs.take j).map Al).sum:Nat):Int)<Al xs[j]
   ·have e1:szl (Al xs[j]) (l-xs.length-((((xs.take j).map Al).sum:Nat):Int))= -1:=by unfold szl;rw[if_pos he]
    have e2:szl (Bw Al xs) l= -1:=by unfold szl Bw;rw[if_pos (by omega)]
    simp -implicitDefEqProofs [e1,e2, -List.map_take]
   ·have e1:szl (Al xs[j]) (l-xs.length-((((xs.take j).map Al).sum:Nat):Int))=l-xs.length-((((xs.take j).map Al).sum:Nat):Int)-Al xs[j]:=by unfold szl;rw[if_neg he]
    have e3:¬l-xs.length-((((xs.take j).map Al).sum:Nat):Int)-Al xs[j]<0:=by omega
    simp -implicitDefEqProofs [e1,e3, -List.map_take]
    refine⟨k-1,by omega,j+1,by omega,by omega,?_,by simp[hw]⟩
    rw[ht];omega
  ·have hsm:=Ah2 (f:=Al) (xs:=xs) (j:=j) (by omega)
   have e2:szl (Bw Al xs) l=l-xs.length-((((xs.take j).map Al).sum:Nat):Int):=by unfold szl Bw;rw[if_neg (by omega)];omega
   simp -implicitDefEqProofs [hjn,e2, -List.map_take]
abbrev VW (R:Rel):Prop:=∀xs:List Cw,Bw Al xs≤4194304→R [.sl 1 5 xs.length (xs.flatMap AP)] [] (.sl 0 5 xs.length (xs.flatMap AP)) []
theorem ArK (D:Dn) (hto:Vf (D 99)):VW (Body D Pp):=by
 intro xs h
 have hlen:=IK (f:=Al) (xs:=xs)
 have h1:((xs.length:Nat):Int)*72≤1099511627776:=by omega
 simp -implicitDefEqProofs [h1]
 refine Ae (fun k s=>∃j o1 o2,j+k=xs.length∧s=⟨[.sl 1 5 xs.length (xs.flatMap AP),.undef,.arr 0,.sc (.int .i64 j),.undef],[.arr 5 0 xs.length ((mix (⟨⟨false,0,[]⟩,0,[]⟩:Cw) xs j).flatMap AP),o1,o2]⟩) ?_ xs.length _ ⟨0,.free,.free,by simp,by simp[XC];exact Adx (f:=AP) (⟨⟨false,0,[]⟩,0,[]⟩:Cw) _⟩
 intro k s ⟨j,o1,o2,hj,hs⟩
 subst hs
 by_cases hjn:j<xs.length
 ·have hw:IntKind.i64.wrap ((j:Int)+1)=(j+1:Nat):=by rw[Ad (by omega) (by omega)];simp
  have hsz:=size_at (f:=Al) hjn
  have hfit:j*5+5≤xs.length*5:=by omega
  have hjl:j≤xs.length:=by omega
  simp -implicitDefEqProofs [hjn]
  refine Aa (hto xs[j] (by omega)) ?_
  simp -implicitDefEqProofs [hjn,hfit,hjl]
  exact⟨k-1,by omega,j+1,by omega,by simp[hw],by rw[←AcL hjn]⟩
 ·have hje:mix (⟨⟨false,0,[]⟩,0,[]⟩:Cw) xs j=xs:=AcE (by omega)
  simp -implicitDefEqProofs [hjn,hje]
abbrev VX (R:Rel):Prop:=∀xs ys:List Cw,Bw Al xs≤2 ^ 40→Bw Al ys≤2 ^ 40→R [.sl 1 5 xs.length (xs.flatMap AP),.sl 1 5 ys.length (ys.flatMap AP)] [] (B (decide (xs=ys))) []
theorem Arr (D:Dn) (heq:Ve (D 135)):VX (Body D Qg):=by
 intro xs ys h1 h2
 have hlen:=IK (f:=Al) (xs:=xs)
 by_cases hl:xs.length=ys.length
 ·have hl':(xs.length:Int)=ys.length:=by omega
  simp -implicitDefEqProofs [hl']
  refine Ae (fun k s=>∃j,j+k=xs.length∧xs.take j=ys.take j∧s=⟨[.sl 1 5 xs.length (xs.flatMap AP),.sl 1 5 ys.length (ys.flatMap AP),.undef,.sc (.int .i64 j),.undef,.undef,.undef],[]⟩) ?_ xs.length _ ⟨0,by simp,by simp,by simp⟩
  intro k s ⟨j,hj,hp,hs⟩
  subst hs
  by_cases hjn:j<xs.length
  ·have hw:IntKind.i64.wrap ((j:Int)+1)=(j+1:Nat):=by rw[Ad (by omega) (by omega)];simp
   have hy:j<ys.length:=by omega
   have hsx:=size_at (f:=Al) hjn
   have hsy:=size_at (f:=Al) hy
   simp -implicitDefEqProofs [hjn,hy]
   refine Aa (heq xs[j] ys[j] (by omega) (by omega)) ?_
   by_cases he:xs[j]=ys[j]
   ·simp -implicitDefEqProofs [he]
    exact⟨k-1,by omega,j+1,by omega,J5 hjn hy hp he,by simp[hw]⟩
   ·have hne:xs≠ys:=fun h=>he (by simp[h])
    simp -implicitDefEqProofs [he,hne]
  ·obtain rfl:xs=ys:=Mq (by omega) hl hp
   simp -implicitDefEqProofs [hjn]
 ·have hl':¬(xs.length:Int)=ys.length:=by omega
  have:xs≠ys:=fun h=>hl (by rw[h])
  simp -implicitDefEqProofs [hl',this]
abbrev YQ (R:Rel):Prop:=∀(x:BA) (l:Int),0≤l→l≤4194304→Sj x→R [arg (Ar x),I l] [] (I (szl (Av x) l)) []
theorem Aup (D:Dn) (hszDialed:UW (D 63)):YQ (Body D RP):=by
 intro x l hl1 hl2 hln
 simp only[Sj]at hln
 simp -implicitDefEqProofs
 refine Aa (hszDialed x.dialed (l) (by omega) (by omega) hln) ?_
 by_cases g0:l<((Al x.dialed:Nat):Int)
 ·have gg:l<((Av x:Nat):Int):=by simp only[Av];omega
  have e1:szl (Al x.dialed) (l)= -1:=by unfold szl;rw[if_pos g0]
  have e2:szl (Av x) l= -1:=by unfold szl;rw[if_pos gg]
  simp -implicitDefEqProofs [e1,e2]
 have e3:szl (Al x.dialed) (l)=l-((Al x.dialed:Nat):Int):=by unfold szl;rw[if_neg g0]
 have p0:¬l-((Al x.dialed:Nat):Int)<0:=by omega
 simp -implicitDefEqProofs [e3,p0]
 have gg:¬l<((Av x:Nat):Int):=by simp only[Av];omega
 unfold szl;rw[if_neg gg];simp only[Av]<;>omega
abbrev Yx (R:Rel):Prop:=∀x:BA,Av x≤4194304→R [arg (Ar x)] [] (.agg (Ar x)) []
theorem At0 (D:Dn) (htoDialed:Vf (D 99)):Yx (Body D RV):=by
 intro x h
 simp only[Av]at h
 simp -implicitDefEqProofs
 refine Aa (htoDialed x.dialed (by omega)) ?_
 simp -implicitDefEqProofs
abbrev YP (R:Rel):Prop:=∀x y:BA,Av x≤2 ^ 40→Av y≤2 ^ 40→R [arg (Ar x),arg (Ar y)] [] (B (decide (x=y))) []
theorem Avv (D:Dn) (heqDialed:Ve (D 135)):YP (Body D R4):=by
 intro x y h1 h2
 simp only[Av]at h1 h2
 by_cases g_fin:x.fin=y.fin
 rotate_left
 ·have hne:x≠y:=fun h=>g_fin (by rw[h])
  simp -implicitDefEqProofs [g_fin,hne]
 simp -implicitDefEqProofs [g_fin]
 by_cases g_tick:x.tick=y.tick
 rotate_left
 ·have hne:x≠y:=fun h=>g_tick (by rw[h])
  simp -implicitDefEqProofs [g_tick,hne]
 simp -implicitDefEqProofs [g_tick]
 by_cases g_on:x.on=y.on
 rotate_left
 ·have hne:x≠y:=fun h=>g_on (by rw[h])
  simp -implicitDefEqProofs [g_on,hne]
 simp -implicitDefEqProofs [g_on]
 refine Aa (heqDialed x.dialed y.dialed (by omega) (by omega)) ?_
 by_cases g_dialed:x.dialed=y.dialed
 rotate_left
 ·have hne:x≠y:=fun h=>g_dialed (by rw[h])
  simp -implicitDefEqProofs [g_dialed,hne]
 simp -implicitDefEqProofs [g_dialed]
 have hxy:x=y:=by cases x;cases y;simp_all
 simp -implicitDefEqProofs [hxy]
abbrev Vr (R:Rel):Prop:=∀(xs:List BA) (l:Int),0≤l→l≤4194304→lnS Sj xs→R [.sl 1 8 xs.length (xs.flatMap Ar),I l] [] (I (szl (Bw Av xs) l)) []
theorem ArI (D:Dn) (hsz:YQ (D 64)):Vr (Body D Ps):=by
 intro xs l h1 h2 hln
 have h3:=hln.1
 unfold maxLen at h3
 have hw:IntKind.i64.wrap (l-(xs.length:Int))=l-xs.length:=Ad (by omega) (by omega)
 by_cases h:l<(xs.length:Int)
 ·have h':l-(xs.length:Int)<0:=by omega
  have e2:szl (Bw Av xs) l= -1:=by unfold szl Bw;rw[if_pos (by omega)]
  simp -implicitDefEqProofs [hw,h',e2]
 ·have h':¬l-(xs.length:Int)<0:=by omega
  simp -implicitDefEqProofs [hw,h']
  refine Ae (fun k s=>∃j,j+k=xs.length∧((xs.take j).map Av).sum+xs.length≤l∧s=⟨[.sl 1 8 xs.length (xs.flatMap Ar),.sc (.int .i64 (l-xs.length-((((xs.take j).map Av).sum:Nat):Int))),.undef,.sc (.int .i64 j),.undef,.undef,.undef],[]⟩) ?_ xs.length _ ⟨0,by simp,by simp;omega,by simp⟩
  intro k s ⟨j,hj,hp,hs⟩
  subst hs
  by_cases hjn:j<xs.length
  ·have hw:IntKind.i64.wrap ((j:Int)+1)=(j+1:Nat):=by rw[Ad (by omega) (by omega)];simp
   have ht:=Ye (f:=Av) hjn
   have htl:=OT (f:=Av) (xs:=xs) (j:=j+1)
   simp -implicitDefEqProofs [hjn, -List.map_take]
   refine Aa (hsz xs[j] _ (by omega) (by omega) (hln.2 j hjn)) ?_
   by_cases he:l-xs.length-((((xs.take j).map Av).sum:Nat):Int)<Av xs[j]
   ·have e1:szl (Av xs[j]) (l-xs.length-((((xs.take j).map Av).sum:Nat):Int))= -1:=by unfold szl;rw[if_pos he]
    have e2:szl (Bw Av xs) l= -1:=by unfold szl Bw;rw[if_pos (by omega)]
    simp -implicitDefEqProofs [e1,e2, -List.map_take]
   ·have e1:szl (Av xs[j]) (l-xs.length-((((xs.take j).map Av).sum:Nat):Int))=l-xs.length-((((xs.take j).map Av).sum:Nat):Int)-Av xs[j]:=by unfold szl;rw[if_neg he]
    have e3:¬l-xs.length-((((xs.take j).map Av).sum:Nat):Int)-Av xs[j]<0:=by omega
    simp -implicitDefEqProofs [e1,e3, -List.map_take]
    refine⟨k-1,by omega,j+1,by omega,by omega,?_,by simp[hw]⟩
    rw[ht];omega
  ·have hsm:=Ah2 (f:=Av) (xs:=xs) (j:=j) (by omega)
   have e2:szl (Bw Av xs) l=l-xs.length-((((xs.take j).map Av).sum:Nat):Int):=by unfold szl Bw;rw[if_neg (by omega)];omega
   simp -implicitDefEqProofs [hjn,e2, -List.map_take]
abbrev Wp (R:Rel):Prop:=∀xs:List BA,Bw Av xs≤4194304→R [.sl 1 8 xs.length (xs.flatMap Ar)] [] (.sl 0 8 xs.length (xs.flatMap Ar)) []
theorem ArO (D:Dn) (hto:Yx (D 100)):Wp (Body D P9):=by
 intro xs h
 have hlen:=IK (f:=Av) (xs:=xs)
 have h1:((xs.length:Nat):Int)*96≤1099511627776:=by omega
 simp -implicitDefEqProofs [h1]
 refine Ae (fun k s=>∃j o1 o2,j+k=xs.length∧s=⟨[.sl 1 8 xs.length (xs.flatMap Ar),.undef,.arr 0,.sc (.int .i64 j),.undef],[.arr 8 0 xs.length ((mix (⟨0,0,false,⟨⟨false,0,[]⟩,0,[]⟩⟩:BA) xs j).flatMap Ar),o1,o2]⟩) ?_ xs.length _ ⟨0,.free,.free,by simp,by simp[XC];exact Adx (f:=Ar) (⟨0,0,false,⟨⟨false,0,[]⟩,0,[]⟩⟩:BA) _⟩
 intro k s ⟨j,o1,o2,hj,hs⟩
 subst hs
 by_cases hjn:j<xs.length
 ·have hw:IntKind.i64.wrap ((j:Int)+1)=(j+1:Nat):=by rw[Ad (by omega) (by omega)];simp
  have hsz:=size_at (f:=Av) hjn
  have hfit:j*8+8≤xs.length*8:=by omega
  have hjl:j≤xs.length:=by omega
  simp -implicitDefEqProofs [hjn]
  refine Aa (hto xs[j] (by omega)) ?_
  simp -implicitDefEqProofs [hjn,hfit,hjl]
  exact⟨k-1,by omega,j+1,by omega,by simp[hw],by rw[←AcL hjn]⟩
 ·have hje:mix (⟨0,0,false,⟨⟨false,0,[]⟩,0,[]⟩⟩:BA) xs j=xs:=AcE (by omega)
  simp -implicitDefEqProofs [hjn,hje]
abbrev VF (R:Rel):Prop:=∀xs ys:List BA,Bw Av xs≤2 ^ 40→Bw Av ys≤2 ^ 40→R [.sl 1 8 xs.length (xs.flatMap Ar),.sl 1 8 ys.length (ys.flatMap Ar)] [] (B (decide (xs=ys))) []
theorem ArX (D:Dn) (heq:YP (D 136)):VF (Body D QC):=by
 intro xs ys h1 h2
 have hlen:=IK (f:=Av) (xs:=xs)
 by_cases hl:xs.length=ys.length
 ·have hl':(xs.length:Int)=ys.length:=by omega
  simp -implicitDefEqProofs [hl']
  refine Ae (fun k s=>∃j,j+k=xs.length∧xs.take j=ys.take j∧s=⟨[.sl 1 8 xs.length (xs.flatMap Ar),.sl 1 8 ys.length (ys.flatMap Ar),.undef,.sc (.int .i64 j),.undef,.undef,.undef],[]⟩) ?_ xs.length _ ⟨0,by simp,by simp,by simp⟩
  intro k s ⟨j,hj,hp,hs⟩
  subst hs
  by_cases hjn:j<xs.length
  ·have hw:IntKind.i64.wrap ((j:Int)+1)=(j+1:Nat):=by rw[Ad (by omega) (by omega)];simp
   have hy:j<ys.length:=by omega
   have hsx:=size_at (f:=Av) hjn
   have hsy:=size_at (f:=Av) hy
   simp -implicitDefEqProofs [hjn,hy]
   refine Aa (heq xs[j] ys[j] (by omega) (by omega)) ?_
   by_cases he:xs[j]=ys[j]
   ·simp -implicitDefEqProofs [he]
    exact⟨k-1,by omega,j+1,by omega,J5 hjn hy hp he,by simp[hw]⟩
   ·have hne:xs≠ys:=fun h=>he (by simp[h])
    simp -implicitDefEqProofs [he,hne]
  ·obtain rfl:xs=ys:=Mq (by omega) hl hp
   simp -implicitDefEqProofs [hjn]
 ·have hl':¬(xs.length:Int)=ys.length:=by omega
  have:xs≠ys:=fun h=>hl (by rw[h])
  simp -implicitDefEqProofs [hl',this]
end Go.Eng.T
namespace Go.Eng.T
set_option maxRecDepth 20000
abbrev AbL (R:Rel):Prop:=∀(x:World) (l:Int),0≤l→l≤4194304→AcK x→R [arg (EF x),I l] [] (I (szl (Ay x) l)) []
theorem Ayc (D:Dn) (hszIntS:QH (D 16)) (hszEndpointS:QZ (D 17)) (hszRollout:V8 (D 18)) (hszDialedS:V9 (D 19)) (hszLoggedS:Vr (D 20)):AbL (Body D TM):=by
 intro x l hl1 hl2 hln
 simp only[AcK]at hln
 simp -implicitDefEqProofs
 refine Aa (hszIntS x.server (l) (by omega) (by omega) hln.1) ?_
 by_cases g0:l<((x.server.length:Nat):Int)
 ·have gg:l<((Ay x:Nat):Int):=by simp only[Ay];omega
  have e1:szl (x.server.length) (l)= -1:=by unfold szl;rw[if_pos g0]
  have e2:szl (Ay x) l= -1:=by unfold szl;rw[if_pos gg]
  simp -implicitDefEqProofs [e1,e2]
 have e3:szl (x.server.length) (l)=l-((x.server.length:Nat):Int):=by unfold szl;rw[if_neg g0]
 have p0:¬l-((x.server.length:Nat):Int)<0:=by omega
 simp -implicitDefEqProofs [e3,p0]
 refine Aa (hszIntS x.tags (l-((x.server.length:Nat):Int)) (by omega) (by omega) hln.2.1) ?_
 by_cases g1:l-((x.server.length:Nat):Int)<((x.tags.length:Nat):Int)
 ·have gg:l<((Ay x:Nat):Int):=by simp only[Ay];omega
  have e1:szl (x.tags.length) (l-((x.server.length:Nat):Int))= -1:=by unfold szl;rw[if_pos g1]
  have e2:szl (Ay x) l= -1:=by unfold szl;rw[if_pos gg]
  simp -implicitDefEqProofs [e1,e2]
 have e4:szl (x.tags.length) (l-((x.server.length:Nat):Int))=l-((x.server.length:Nat):Int)-((x.tags.length:Nat):Int):=by unfold szl;rw[if_neg g1]
 have p1:¬l-((x.server.length:Nat):Int)-((x.tags.length:Nat):Int)<0:=by omega
 simp -implicitDefEqProofs [e4,p1]
 refine Aa (hszEndpointS x.ends (l-((x.server.length:Nat):Int)-((x.tags.length:Nat):Int)) (by omega) (by omega) hln.2.2.1) ?_
 by_cases g2:l-((x.server.length:Nat):Int)-((x.tags.length:Nat):Int)<((Bw Ac x.ends:Nat):Int)
 ·have gg:l<((Ay x:Nat):Int):=by simp only[Ay];omega
  have e1:szl (Bw Ac x.ends) (l-((x.server.length:Nat):Int)-((x.tags.length:Nat):Int))= -1:=by unfold szl;rw[if_pos g2]
  have e2:szl (Ay x) l= -1:=by unfold szl;rw[if_pos gg]
  simp -implicitDefEqProofs [e1,e2]
 have e5:szl (Bw Ac x.ends) (l-((x.server.length:Nat):Int)-((x.tags.length:Nat):Int))=l-((x.server.length:Nat):Int)-((x.tags.length:Nat):Int)-((Bw Ac x.ends:Nat):Int):=by unfold szl;rw[if_neg g2]
 have p2:¬l-((x.server.length:Nat):Int)-((x.tags.length:Nat):Int)-((Bw Ac x.ends:Nat):Int)<0:=by omega
 simp -implicitDefEqProofs [e5,p2]
 refine Aa (hszRollout x.rollout (l-((x.server.length:Nat):Int)-((x.tags.length:Nat):Int)-((Bw Ac x.ends:Nat):Int)) (by omega) (by omega) hln.2.2.2.1) ?_
 by_cases g3:l-((x.server.length:Nat):Int)-((x.tags.length:Nat):Int)-((Bw Ac x.ends:Nat):Int)<((Bg x.rollout:Nat):Int)
 ·have gg:l<((Ay x:Nat):Int):=by simp only[Ay];omega
  have e1:szl (Bg x.rollout) (l-((x.server.length:Nat):Int)-((x.tags.length:Nat):Int)-((Bw Ac x.ends:Nat):Int))= -1:=by unfold szl;rw[if_pos g3]
  have e2:szl (Ay x) l= -1:=by unfold szl;rw[if_pos gg]
  simp -implicitDefEqProofs [e1,e2]
 have e6:szl (Bg x.rollout) (l-((x.server.length:Nat):Int)-((x.tags.length:Nat):Int)-((Bw Ac x.ends:Nat):Int))=l-((x.server.length:Nat):Int)-((x.tags.length:Nat):Int)-((Bw Ac x.ends:Nat):Int)-((Bg x.rollout:Nat):Int):=by unfold szl;rw[if_neg g3]
 have p3:¬l-((x.server.length:Nat):Int)-((x.tags.length:Nat):Int)-((Bw Ac x.ends:Nat):Int)-((Bg x.rollout:Nat):Int)<0:=by omega
 simp -implicitDefEqProofs [e6,p3]
 refine Aa (hszDialedS x.stage (l-((x.server.length:Nat):Int)-((x.tags.length:Nat):Int)-((Bw Ac x.ends:Nat):Int)-((Bg x.rollout:Nat):Int)) (by omega) (by omega) hln.2.2.2.2.1) ?_
 by_cases g4:l-((x.server.length:Nat):Int)-((x.tags.length:Nat):Int)-((Bw Ac x.ends:Nat):Int)-((Bg x.rollout:Nat):Int)<((Bw Al x.stage:Nat):Int)
 ·have gg:l<((Ay x:Nat):Int):=by simp only[Ay];omega
  have e1:szl (Bw Al x.stage) (l-((x.server.length:Nat):Int)-((x.tags.length:Nat):Int)-((Bw Ac x.ends:Nat):Int)-((Bg x.rollout:Nat):Int))= -1:=by unfold szl;rw[if_pos g4]
  have e2:szl (Ay x) l= -1:=by unfold szl;rw[if_pos gg]
  simp -implicitDefEqProofs [e1,e2]
 have e7:szl (Bw Al x.stage) (l-((x.server.length:Nat):Int)-((x.tags.length:Nat):Int)-((Bw Ac x.ends:Nat):Int)-((Bg x.rollout:Nat):Int))=l-((x.server.length:Nat):Int)-((x.tags.length:Nat):Int)-((Bw Ac x.ends:Nat):Int)-((Bg x.rollout:Nat):Int)-((Bw Al x.stage:Nat):Int):=by unfold szl;rw[if_neg g4]
 have p4:¬l-((x.server.length:Nat):Int)-((x.tags.length:Nat):Int)-((Bw Ac x.ends:Nat):Int)-((Bg x.rollout:Nat):Int)-((Bw Al x.stage:Nat):Int)<0:=by omega
 simp -implicitDefEqProofs [e7,p4]
 refine Aa (hszLoggedS x.log (l-((x.server.length:Nat):Int)-((x.tags.length:Nat):Int)-((Bw Ac x.ends:Nat):Int)-((Bg x.rollout:Nat):Int)-((Bw Al x.stage:Nat):Int)) (by omega) (by omega) hln.2.2.2.2.2) ?_
 by_cases g5:l-((x.server.length:Nat):Int)-((x.tags.length:Nat):Int)-((Bw Ac x.ends:Nat):Int)-((Bg x.rollout:Nat):Int)-((Bw Al x.stage:Nat):Int)<((Bw Av x.log:Nat):Int)
 ·have gg:l<((Ay x:Nat):Int):=by simp only[Ay];omega
  have e1:szl (Bw Av x.log) (l-((x.server.length:Nat):Int)-((x.tags.length:Nat):Int)-((Bw Ac x.ends:Nat):Int)-((Bg x.rollout:Nat):Int)-((Bw Al x.stage:Nat):Int))= -1:=by unfold szl;rw[if_pos g5]
  have e2:szl (Ay x) l= -1:=by unfold szl;rw[if_pos gg]
  simp -implicitDefEqProofs [e1,e2]
 have e8:szl (Bw Av x.log) (l-((x.server.length:Nat):Int)-((x.tags.length:Nat):Int)-((Bw Ac x.ends:Nat):Int)-((Bg x.rollout:Nat):Int)-((Bw Al x.stage:Nat):Int))=l-((x.server.length:Nat):Int)-((x.tags.length:Nat):Int)-((Bw Ac x.ends:Nat):Int)-((Bg x.rollout:Nat):Int)-((Bw Al x.stage:Nat):Int)-((Bw Av x.log:Nat):Int):=by unfold szl;rw[if_neg g5]
 have p5:¬l-((x.server.length:Nat):Int)-((x.tags.length:Nat):Int)-((Bw Ac x.ends:Nat):Int)-((Bg x.rollout:Nat):Int)-((Bw Al x.stage:Nat):Int)-((Bw Av x.log:Nat):Int)<0:=by omega
 simp -implicitDefEqProofs [e8,p5]
 have gg:¬l<((Ay x:Nat):Int):=by simp only[Ay];omega
 unfold szl;rw[if_neg gg];simp only[Ay]<;>omega
abbrev AbH (R:Rel):Prop:=∀x:World,Ay x≤4194304→R [arg (EF x)] [] (.agg (EF x)) []
theorem Ayq (D:Dn) (htoIntS:QX (D 31)) (htoEndpointS:QG (D 32)) (htoRollout:Vs (D 33)) (htoDialedS:VW (D 34)) (htoLoggedS:Wp (D 35)):AbH (Body D Ua):=by
 intro x h
 simp only[Ay]at h
 simp -implicitDefEqProofs
 refine Aa (htoIntS x.server (by omega)) ?_
 simp -implicitDefEqProofs
 refine Aa (htoIntS x.tags (by omega)) ?_
 simp -implicitDefEqProofs
 refine Aa (htoEndpointS x.ends (by omega)) ?_
 simp -implicitDefEqProofs
 refine Aa (htoRollout x.rollout (by omega)) ?_
 simp -implicitDefEqProofs
 refine Aa (htoDialedS x.stage (by omega)) ?_
 simp -implicitDefEqProofs
 refine Aa (htoLoggedS x.log (by omega)) ?_
 simp -implicitDefEqProofs
abbrev AbK (R:Rel):Prop:=∀x y:World,Ay x≤2 ^ 40→Ay y≤2 ^ 40→R [arg (EF x),arg (EF y)] [] (B (decide (x=y))) []
theorem AxO (D:Dn) (heqIntS:F4 (D 47)) (heqEndpointS:QM (D 48)) (heqRollout:Vl (D 49)) (heqDialedS:VX (D 50)) (heqLoggedS:VF (D 51)):AbK (Body D Uc):=by
 intro x y h1 h2
 simp only[Ay]at h1 h2
 simp -implicitDefEqProofs
 refine Aa (heqIntS x.server y.server (by unfold maxLen;omega) (by unfold maxLen;omega)) ?_
 by_cases g_server:x.server=y.server
 rotate_left
 ·have hne:x≠y:=fun h=>g_server (by rw[h])
  simp -implicitDefEqProofs [g_server,hne]
 simp -implicitDefEqProofs [g_server]
 refine Aa (heqIntS x.tags y.tags (by unfold maxLen;omega) (by unfold maxLen;omega)) ?_
 by_cases g_tags:x.tags=y.tags
 rotate_left
 ·have hne:x≠y:=fun h=>g_tags (by rw[h])
  simp -implicitDefEqProofs [g_tags,hne]
 simp -implicitDefEqProofs [g_tags]
 by_cases g_key:x.key=y.key
 rotate_left
 ·have hne:x≠y:=fun h=>g_key (by rw[h])
  simp -implicitDefEqProofs [g_key,hne]
 simp -implicitDefEqProofs [g_key]
 refine Aa (heqEndpointS x.ends y.ends (by omega) (by omega)) ?_
 by_cases g_ends:x.ends=y.ends
 rotate_left
 ·have hne:x≠y:=fun h=>g_ends (by rw[h])
  simp -implicitDefEqProofs [g_ends,hne]
 simp -implicitDefEqProofs [g_ends]
 refine Aa (heqRollout x.rollout y.rollout (by omega) (by omega)) ?_
 by_cases g_rollout:x.rollout=y.rollout
 rotate_left
 ·have hne:x≠y:=fun h=>g_rollout (by rw[h])
  simp -implicitDefEqProofs [g_rollout,hne]
 simp -implicitDefEqProofs [g_rollout]
 by_cases g_least:x.least=y.least
 rotate_left
 ·have hne:x≠y:=fun h=>g_least (by rw[h])
  simp -implicitDefEqProofs [g_least,hne]
 simp -implicitDefEqProofs [g_least]
 by_cases g_percent:x.percent=y.percent
 rotate_left
 ·have hne:x≠y:=fun h=>g_percent (by rw[h])
  simp -implicitDefEqProofs [g_percent,hne]
 simp -implicitDefEqProofs [g_percent]
 refine Aa (heqDialedS x.stage y.stage (by omega) (by omega)) ?_
 by_cases g_stage:x.stage=y.stage
 rotate_left
 ·have hne:x≠y:=fun h=>g_stage (by rw[h])
  simp -implicitDefEqProofs [g_stage,hne]
 simp -implicitDefEqProofs [g_stage]
 refine Aa (heqLoggedS x.log y.log (by omega) (by omega)) ?_
 by_cases g_log:x.log=y.log
 rotate_left
 ·have hne:x≠y:=fun h=>g_log (by rw[h])
  simp -implicitDefEqProofs [g_log,hne]
 simp -implicitDefEqProofs [g_log]
 by_cases g_now:x.now=y.now
 rotate_left
 ·have hne:x≠y:=fun h=>g_now (by rw[h])
  simp -implicitDefEqProofs [g_now,hne]
 simp -implicitDefEqProofs [g_now]
 by_cases g_hurt:x.hurt=y.hurt
 rotate_left
 ·have hne:x≠y:=fun h=>g_hurt (by rw[h])
  simp -implicitDefEqProofs [g_hurt,hne]
 simp -implicitDefEqProofs [g_hurt]
 by_cases g_reached:x.reached=y.reached
 rotate_left
 ·have hne:x≠y:=fun h=>g_reached (by rw[h])
  simp -implicitDefEqProofs [g_reached,hne]
 simp -implicitDefEqProofs [g_reached]
 have hxy:x=y:=by cases x;cases y;simp_all
 simp -implicitDefEqProofs [hxy]
end Go.Eng.T
namespace Go.Eng.T
theorem AcR {xs:List Int} {v:Int} {j:Nat} (h:j<xs.length) (hp:v∉xs.take j) (hv:¬xs[j]=v):v∉xs.take (j+1):=by
 rw[List.take_add_one,List.getElem?_eq_getElem h]
 intro hm
 rcases List.mem_append.1 hm with hm | hm
 ·exact hp hm
 ·simp at hm;exact hv hm.symm
theorem AfS {xs:List Int} {v:Int} {j:Nat} (h:xs.length≤j) (hp:v∉xs.take j):v∉xs:=by rwa [List.take_of_length_le h]at hp
theorem As5 {xs:List Int} {v:Int} {j:Nat} (h:j<xs.length) (hv:xs[j]=v):v∈xs:=by rw[←hv];exact List.getElem_mem h
def AuZ (xs:List Int) (v:Int):Int:=if v∈xs then(xs.idxOf v:Nat)else -1
theorem AAv {xs:List Int} {v:Int} {j:Nat} (h:j<xs.length) (hp:v∉xs.take j) (hv:xs[j]=v):AuZ xs v=j:=by
 unfold AuZ
 rw[if_pos (As5 h hv)]
 congr 1
 have e:xs=xs.take j++v::xs.drop (j+1):=by
  conv=>lhs;rw[←List.take_append_drop j xs,List.drop_eq_getElem_cons h,hv]
 rw[e,List.idxOf_append,if_neg hp]
 simp
 omega
theorem AEa {xs:List Int} {v:Int}:(0≤AuZ xs v)=(v∈xs):=by
 unfold AuZ
 by_cases h:v∈xs<;>simp[h]
abbrev AoD (R:Rel):Prop:=∀(xs:List Int) (v:Int),xs.length≤maxLen→R [.sl 1 1 xs.length (ints xs),I v] [] (I (AuZ xs v)) []
theorem ADo (D:Dn):AoD (Body D Ho):=by
 intro xs v hl
 unfold maxLen at hl
 simp -implicitDefEqProofs
 refine Ae (fun k s=>∃j,j+k=xs.length∧v∉xs.take j∧s=⟨[.sl 1 1 xs.length (ints xs),.sc (.int .i64 v),.undef,.undef,.sc (.int .i64 xs.length),.sc (.int .i64 j),.undef,.undef],[]⟩) ?_ xs.length _ ⟨0,by simp,by simp,by simp⟩
 intro k s ⟨j,hj,hp,hs⟩
 subst hs
 by_cases hjn:j<xs.length
 ·have hw:IntKind.i64.wrap ((j:Int)+1)=(j+1:Nat):=by rw[Ad (by omega) (by omega)];simp
  by_cases he:v=xs[j]
  ·have hx:=AAv hjn hp he.symm
   simp -implicitDefEqProofs [hjn,←he,hx]
  ·simp -implicitDefEqProofs [hjn,he]
   exact⟨k-1,by omega,j+1,by omega,AcR hjn hp (fun h=>he h.symm),by simp[hw]⟩
 ·have hx:AuZ xs v= -1:=by unfold AuZ;rw[if_neg (AfS (by omega) hp)]
  simp -implicitDefEqProofs [hjn,hx]
abbrev R6 (R:Rel):Prop:=∀(xs:List Int) (v:Int),xs.length≤maxLen→R [.sl 1 1 xs.length (ints xs),I v] [] (B (decide (v∈xs))) []
theorem AuO (D:Dn) (hI:AoD (D 389)):R6 (Body D F3):=by
 intro xs v hl
 simp -implicitDefEqProofs
 refine Aa (hI xs v hl) ?_
 simp -implicitDefEqProofs [AEa]
theorem AEg (D:Dn):R6 (Body D Xv):=by
 intro xs v hl
 unfold maxLen at hl
 simp -implicitDefEqProofs
 refine Ae (fun k s=>∃j,j+k=xs.length∧v∉xs.take j∧s=⟨[.sl 1 1 xs.length (ints xs),.sc (.int .i64 v),.undef,.sc (.int .i64 j),.undef,.undef],[]⟩) ?_ xs.length _ ⟨0,by simp,by simp,by simp⟩
 intro k s ⟨j,hj,hp,hs⟩
 subst hs
 by_cases hjn:j<xs.length
 ·have hw:IntKind.i64.wrap ((j:Int)+1)=(j+1:Nat):=by rw[Ad (by omega) (by omega)];simp
  by_cases he:xs[j]=v
  ·have hx:=As5 hjn he
   simp -implicitDefEqProofs [hjn,he,hx]
  ·simp -implicitDefEqProofs [hjn,he]
   exact⟨k-1,by omega,j+1,by omega,AcR hjn hp he,by simp[hw]⟩
 ·have hx:=AfS (by omega) hp
  simp -implicitDefEqProofs [hjn,hx]
def Pe (v:Int) (d:Cw):Bool:= !d.deal.ok||(decide (d.deal.version<v)&&decide (v∈d.up))
def goodD (v:Int) (d:Cw):Bool:= !Pe v d&&decide (v≤d.deal.version)
def cntF {α:Type} (f:α→Bool) (xs:List α):Nat:=(xs.filter f).length
theorem Adn {α:Type} {f:α→Bool} {xs:List α} {j:Nat} (h:j<xs.length):cntF f (xs.take (j+1))=cntF f (xs.take j)+(if f xs[j]then 1 else 0):=by
 unfold cntF
 rw[List.take_add_one,List.getElem?_eq_getElem h,List.filter_append,List.length_append]
 congr 1
 by_cases hf:f xs[j]<;>simp[hf]
theorem ApG {α:Type} {f:α→Bool} {xs:List α} {j:Nat} (h:j≤xs.length):cntF f (xs.take j)≤j:=by
 unfold cntF
 have:=List.length_filter_le f (xs.take j)
 simp at this
 omega
theorem Aia {α:Type} {f:α→Bool} {xs:List α} {j:Nat} (h:xs.length≤j):cntF f (xs.take j)=cntF f xs:=by rw[List.take_of_length_le h]
end Go.Eng.T
namespace Go.Eng.T
abbrev YR (R:Rel):Prop:=∀(xs:List Cw) (v:Int),xs.length≤maxLen→(∀(j:Nat) (h:j<xs.length),xs[j].up.length≤maxLen)→
 R [.sl 1 5 xs.length (xs.flatMap AP),I v] [] (.tup [I (cntF (goodD v) xs),I (cntF (Pe v) xs)]) []
theorem AsM (D:Dn) (hH:R6 (D 166)):YR (Body D RD):=by
 intro xs v hl hu
 unfold maxLen at hl
 simp -implicitDefEqProofs
 refine Ae (fun k s=>∃j o0,j+k=xs.length∧s=⟨[.sl 1 5 xs.length (xs.flatMap AP),.sc (.int .i64 v),.undef,.undef,.sc (.int .i64 (cntF (goodD v) (xs.take j))),.sc (.int .i64 (cntF (Pe v) (xs.take j))),.sc (.int .i64 j),.undef,.undef,.undef,.undef],[o0]⟩) ?_ xs.length _ ⟨0,.free,by simp,by simp[cntF]⟩
 intro k s ⟨j,o0,hj,hs⟩
 subst hs
 by_cases hjn:j<xs.length
 ·have hw:IntKind.i64.wrap ((j:Int)+1)=(j+1:Nat):=by rw[Ad (by omega) (by omega)];simp
  have hc:=Adn (f:=goodD v) hjn
  have hb:=Adn (f:=Pe v) hjn
  have hcl:=ApG (f:=goodD v) (xs:=xs) (j:=j) (by omega)
  have hbl:=ApG (f:=Pe v) (xs:=xs) (j:=j) (by omega)
  have hw2:IntKind.i64.wrap ((cntF (goodD v) (xs.take j):Int)+1)=(cntF (goodD v) (xs.take j)+1:Nat):=by rw[Ad (by omega) (by omega)];simp
  have hw3:IntKind.i64.wrap ((cntF (Pe v) (xs.take j):Int)+1)=(cntF (Pe v) (xs.take j)+1:Nat):=by rw[Ad (by omega) (by omega)];simp
  have fin:∀(a b:Bool),goodD v xs[j]=a→Pe v xs[j]=b→∀x y:Int,x=((cntF (goodD v) (xs.take j)+(if a then 1 else 0):Nat):Int)→y=((cntF (Pe v) (xs.take j)+(if b then 1 else 0):Nat):Int)→
   x=cntF (goodD v) (xs.take (j+1))∧y=cntF (Pe v) (xs.take (j+1)):=by
   intro a b ha hb' x y hx hy
   rw[hc,hb,ha,hb']
   exact⟨hx,hy⟩
  by_cases h1:xs[j].deal.ok=true
  ·by_cases h2:xs[j].deal.version<v
   ·simp -implicitDefEqProofs [hjn,h1,h2]
    refine Aa (hH xs[j].up v (hu j hjn)) ?_
    by_cases h3:v∈xs[j].up
    ·have g:=fin false true (by simp[goodD,Pe,h1,h2,h3]) (by simp[Pe,h1,h2,h3]) _ _ rfl rfl
     simp -implicitDefEqProofs [h3]
     exact⟨k-1,by omega,j+1,by omega,by simpa using g.1,by rw[hw3];simpa using g.2,by simp[hw]⟩
    ·have h4:¬v≤xs[j].deal.version:=by omega
     have g:=fin false false (by simp[goodD,Pe,h1,h2,h3,h4]) (by simp[Pe,h1,h2,h3]) _ _ rfl rfl
     simp -implicitDefEqProofs [h3,h4]
     exact⟨k-1,by omega,j+1,by omega,by simpa using g.1,by simpa using g.2,by simp[hw]⟩
   ·have h4:v≤xs[j].deal.version:=by omega
    have g:=fin true false (by simp[goodD,Pe,h1,h2,h4]) (by simp[Pe,h1,h2]) _ _ rfl rfl
    simp -implicitDefEqProofs [hjn,h1,h2,h4]
    exact⟨k-1,by omega,j+1,by omega,by rw[hw2];simpa using g.1,by simpa using g.2,by simp[hw]⟩
  ·have g:=fin false true (by simp[goodD,Pe,h1]) (by simp[Pe,h1]) _ _ rfl rfl
   simp -implicitDefEqProofs [hjn,h1]
   exact⟨k-1,by omega,j+1,by omega,by simpa using g.1,by rw[hw3];simpa using g.2,by simp[hw]⟩
 ·have hx:=Aia (f:=goodD v) (xs:=xs) (j:=j) (by omega)
  have hy:=Aia (f:=Pe v) (xs:=xs) (j:=j) (by omega)
  simp -implicitDefEqProofs [hjn,hx,hy]
abbrev FU (R:Rel):Prop:=∀(d:Cw) (v:Int),d.up.length≤maxLen→R [arg (AP d),I v] [] (B (Pe v d)) []
theorem AoG (D:Dn) (hM:YR (D 155)):FU (Body D PK):=by
 intro d v hu
 simp -implicitDefEqProofs
 refine Aa (hM [d] v (by unfold maxLen;simp) (fun j h=>by have e:j=0:=(by simpa using h);subst e;exact hu)) ?_
 by_cases h:Pe v d<;>simp -implicitDefEqProofs [cntF,h]
theorem ADg (D:Dn) (hH:R6 (D 188)):FU (Body D WZ):=by
 intro d v hu
 by_cases h1:d.deal.ok=true
 ·by_cases h2:d.deal.version<v
  ·simp -implicitDefEqProofs [h1,h2]
   refine Aa (hH d.up v hu) ?_
   simp -implicitDefEqProofs [Pe,h1,h2]
  ·simp -implicitDefEqProofs [h1,h2,Pe]
 ·simp -implicitDefEqProofs [h1,Pe]
theorem Apx (D:Dn) (hB:FU (D 229)):FU (Body D QB):=by
 intro d v hu
 simp -implicitDefEqProofs
 refine Aa (hB d v hu) ?_
 simp -implicitDefEqProofs
end Go.Eng.T
namespace Go.Eng.T
set_option maxRecDepth 20000
abbrev Q5 (a b c:Int):Prop:=b≤a∧a≤c
def I4 (g b l p:Int):Int:=
 if¬Q5 g 0 10000∨¬Q5 b 0 10000∨¬Q5 l 1 10000∨¬Q5 p 0 100 then 0
 else if 100*b>p*l∧100*b>p*(g+b)then 2
 else if g+b<l then 0
 else if 100*b≤p*(g+b)then 1
 else 2
abbrev QA (R:Rel):Prop:=∀g b l p:Int,R [I g,I b,I l,I p] [] (I (I4 g b l p)) []
theorem AdZ {p x:Int} (h1:0≤p) (h2:p≤100) (h3:0≤x) (h4:x≤20000):IntKind.i64.wrap (p*x)=p*x:=by
 have a1:0≤p*x:=Int.mul_nonneg h1 h3
 have a2:p*x≤100*20000:=Int.mul_le_mul h2 h4 h3 (by omega)
 exact Ad (by omega) (by omega)
theorem AgK (D:Dn) (hI:SG (D CB)):QA (Body D Lv):=by
 intro g b l p
 simp -implicitDefEqProofs
 refine Aa (hI _ _ _) ?_
 by_cases h1:Q5 g 0 10000
 rotate_left
 ·simp -implicitDefEqProofs [h1,I4]
 simp -implicitDefEqProofs [h1]
 refine Aa (hI _ _ _) ?_
 by_cases h2:Q5 b 0 10000
 rotate_left
 ·simp -implicitDefEqProofs [h2,I4]
 simp -implicitDefEqProofs [h2]
 refine Aa (hI _ _ _) ?_
 by_cases h3:Q5 l 1 10000
 rotate_left
 ·simp -implicitDefEqProofs [h3,I4]
 simp -implicitDefEqProofs [h3]
 refine Aa (hI _ _ _) ?_
 by_cases h4:Q5 p 0 100
 rotate_left
 ·simp -implicitDefEqProofs [h4,I4]
 have w1:IntKind.i64.wrap (100*b)=100*b:=Ad (by omega) (by omega)
 have w2:=AdZ h4.1 h4.2 (x:=l) (by omega) (by omega)
 have w3:=AdZ h4.1 h4.2 (x:=g+b) (by omega) (by omega)
 have w4:IntKind.i64.wrap (g+b)=g+b:=Ad (by omega) (by omega)
 have e:I4 g b l p=if 100*b>p*l∧100*b>p*(g+b)then 2 else if g+b<l then 0 else if 100*b≤p*(g+b)then 1 else 2:=by unfold I4;rw[if_neg (by simp[h1,h2,h3,h4])]
 rw[e]
 clear e
 by_cases c1:p*l<100*b
 ·by_cases c2:p*(g+b)<100*b
  ·simp -implicitDefEqProofs [h4,w1,w2,w3,w4,c1,c2]
  ·have c3:100*b≤p*(g+b):=by omega
   by_cases c4:g+b<l
   ·simp -implicitDefEqProofs [h4,w1,w2,w3,w4,c1,c2,c3,c4]
   ·simp -implicitDefEqProofs [h4,w1,w2,w3,w4,c1,c2,c3,c4]
 ·by_cases c4:g+b<l
  ·simp -implicitDefEqProofs [h4,w1,w2,w3,w4,c1,c4]
  ·by_cases c3:100*b≤p*(g+b)
   ·simp -implicitDefEqProofs [h4,w1,w2,w3,w4,c1,c3,c4]
   ·simp -implicitDefEqProofs [h4,w1,w2,w3,w4,c1,c3,c4]
end Go.Eng.T
namespace Go.Eng.T
set_option maxRecDepth 20000
def Gs {α:Type} (p:α→Bool):List α→Int→Int
 | [],_=> -1
 | x::r,i=>if p x then i else Gs p r (i+1)
theorem Nz {α:Type} {p:α→Bool} {xs:List α} {j:Nat} (h:j<xs.length):Gs p (xs.drop j) j=if p xs[j]then(j:Int)else Gs p (xs.drop (j+1)) ((j:Int)+1):=by
 rw[List.drop_eq_getElem_cons h];rfl
theorem Sm {α:Type} {p:α→Bool} {xs:List α} {j:Nat} (h:xs.length≤j):Gs p (xs.drop j) j= -1:=by rw[List.drop_eq_nil_of_le h];rfl
theorem QN {α:Type} {p:α→Bool}:∀ {xs:List α} {i:Int},0≤i→(0≤Gs p xs i)=(xs.any p=true)
 | [],i,_=>by simp[Gs]
 | x::r,i,h=>by
  by_cases hp:p x=true
  ·simp[Gs,hp,h]
  ·have:=QN (p:=p) (xs:=r) (i:=i+1) (by omega)
   simp[Gs,hp]at *
   exact this
def Ke (caps:List V):Prop:=(∀(H:Hp) (n:Nat),J4 H n (caps.map fun v=>(false,v))=some [])∧(∀(H Hr:Hp) (n:Nat),IV H Hr n (caps.map fun v=>(false,v))=some caps)∧∀H:Hp,AuC H caps=some caps
theorem ER:Ke []:=⟨fun _ _=>rfl,fun _ _ _=>rfl,fun _=>rfl⟩
theorem Aas {v:V} {r:List V} (hv:∀H,ro H v=some v) (hv2:∀H,ro2 H v=some v) (h:Ke r):Ke (v::r):=
 ⟨fun H n=>h.1 H n,fun H Hr n=>by simp only[List.map_cons,IV,hv,h.2.1],fun H=>by simp only[AuC,hv2,h.2.2]⟩
theorem Aem {a:Int} {r:List V} (h:Ke r):Ke (.rptr 1 [.sc (.int .i64 a)] 0::r):=Aas (fun H=>by simp) (fun H=>by simp) h
abbrev VO (D:Dn) (R:Rel):Prop:=∀(xs:List Int) (g:Nat) (caps:List V) (p:Int→Bool),xs.length≤maxLen→Ke caps→(∀x:Int,D g (I x::caps) [] (B (p x)) [])→
 R [.sl 1 1 xs.length (ints xs),.fn g caps] [] (I (Gs p xs 0)) []
theorem Arc (D:Dn):VO D (Body D FQ):=by
 intro xs g caps p hl hc hp
 unfold maxLen at hl
 simp -implicitDefEqProofs
 refine Ae (fun k s=>∃j,j+k=xs.length∧Gs p xs 0=Gs p (xs.drop j) j∧s=⟨[.sl 1 1 xs.length (ints xs),.fn g caps,.undef,.undef,.sc (.int .i64 xs.length),.sc (.int .i64 j),.undef,.undef],[]⟩) ?_ xs.length _ ⟨0,by simp,by simp,by simp⟩
 intro k s ⟨j,hj,hi,hs⟩
 subst hs
 by_cases hjn:j<xs.length
 ·have hw:IntKind.i64.wrap ((j:Int)+1)=(j+1:Nat):=by rw[Ad (by omega) (by omega)];simp
  rw[Nz hjn]at hi
  simp -implicitDefEqProofs [hjn,hc.1,hc.2.1]
  refine Aa (hp xs[j]) ?_
  by_cases he:p xs[j]=true
  ·rw[if_pos he]at hi
   simp -implicitDefEqProofs [he,hi]
  ·rw[if_neg he]at hi
   simp -implicitDefEqProofs [he]
   exact⟨k-1,by omega,j+1,by omega,by simpa using hi,by simp[hw]⟩
 ·rw[Sm (by omega)]at hi
  simp -implicitDefEqProofs [hjn,hi]
abbrev KF (D:Dn) (R:Rel):Prop:=∀(xs:List Int) (g:Nat) (caps:List V) (p:Int→Bool),xs.length≤maxLen→Ke caps→(∀x:Int,D g (I x::caps) [] (B (p x)) [])→
 R [.sl 1 1 xs.length (ints xs),.fn g caps] [] (B (xs.any p)) []
theorem AkL (D:Dn) (hI:VO D (D PZ)):KF D (Body D E8):=by
 intro xs g caps p hl hc hp
 simp -implicitDefEqProofs [hc.2.2]
 refine Aa (hI xs g caps p hl hc hp) ?_
 have e:decide (0≤Gs p xs 0)=xs.any p:=by rw[Bool.eq_iff_iff];simp only[decide_eq_true_eq];rw[QN (by omega)]
 simp -implicitDefEqProofs [e]
def allIn (xs:List Int) (lo hi:Int):Bool:=xs.all fun x=>decide (Q5 x lo hi)
abbrev Jv (R:Rel):Prop:=∀(xs:List Int) (lo hi:Int),xs.length≤maxLen→R [.sl 1 1 xs.length (ints xs),I lo,I hi] [] (B (allIn xs lo hi)) []
abbrev QL (R:Rel):Prop:=∀(x lo hi:Int),R [I x,.rptr 1 [I lo] 0,.rptr 1 [I hi] 0] [] (B (!decide (Q5 x lo hi))) []
theorem Amf (D:Dn) (hI:SG (D Bz)):QL (Body D Lh):=by
 intro x lo hi
 simp -implicitDefEqProofs
 refine Aa (hI _ _ _) ?_
 simp -implicitDefEqProofs
theorem Ap9 (D:Dn) (h1:QL (D AaS)) (hC:KF D (D HV)):Jv (Body D Ov):=by
 intro xs lo hi hl
 simp -implicitDefEqProofs
 refine Aa (hC xs 266 _ (fun x=> !decide (Q5 x lo hi)) hl (Aem (Aem ER)) (fun x=>h1 x lo hi)) ?_
 have e:(xs.any fun x=> !decide (Q5 x lo hi))= !allIn xs lo hi:=by unfold allIn;rw[List.all_eq_not_any_not];simp
 generalize(xs.any fun x=> !decide (Q5 x lo hi))=b at e⊢
 subst e
 simp -implicitDefEqProofs
end Go.Eng.T
namespace Go.Eng.T
structure Ext where
 tag:Int
 body:List Int
 deriving DecidableEq
structure Hello where
 versions:List Int
 exts:List Ext
 deriving DecidableEq
structure RY where
 version:Int
 exts:List Ext
 deriving DecidableEq
def Br (x:Ext):List V:=[.sc (.int .i64 x.tag),.sl 0 1 x.body.length (ints x.body)]
def CU (h:Hello):List V:=[.sl 0 1 h.versions.length (ints h.versions),.sl 0 2 h.exts.length (h.exts.flatMap Br)]
def Yw (a:RY):List V:=[.sc (.int .i64 a.version),.sl 0 2 a.exts.length (a.exts.flatMap Br)]
theorem Xf (x:Ext):(Br x).length=2:=rfl
@[simp] theorem AHq (xs:List Ext):(xs.flatMap Br).map (AZ 0)=xs.flatMap Br:=YU (fun _=>rfl) xs
@[simp high] theorem AHy {xs:List Ext} {j:Nat} (h:j<xs.length):Gj (xs.flatMap Br) (j*2) 2=some (Br xs[j]):=NT Xf h
@[simp high] theorem Rb (xs:List Ext):(xs.flatMap Br).length=xs.length*2:=Nj Xf xs
@[simp high] theorem AHE {xs:List Ext} {j:Nat} (h:j<xs.length):(xs.flatMap Br)[j*2]? =some (.sc (.int .i64 xs[j].tag)):=by
 have:=AO (o:=0) Xf h (by omega)
 simpa[Br]using this
@[simp high] theorem AHg {xs:List Ext} {j:Nat} (h:j<xs.length):(xs.flatMap Br)[j*2+1]? =some (.sl 0 1 xs[j].body.length (ints xs[j].body)):=by
 have:=AO (o:=1) Xf h (by omega)
 simpa[Br]using this
theorem Ax1 {α:Type} {f:α→List V} {e:Nat} (hf:∀x,(f x).length=e) (xs:List α) (i:Nat):(xs.flatMap f).take (i*e)=(xs.take i).flatMap f:=by
 induction xs generalizing i with
 | nil=>simp
 | cons x xs ih=>
  cases i with
  | zero=>simp
  | succ i=>
   simp only[List.flatMap_cons,List.take_succ_cons]
   rw[←ih i,show(i+1)*e=(f x).length+i*e by rw[hf,Nat.add_mul];omega,List.take_length_add_append]
theorem Axt {α:Type} {f:α→List V} {e:Nat} (hf:∀x,(f x).length=e) (xs:List α) (o n:Nat):part (xs.flatMap f) e o n=((xs.drop o).take n).flatMap f:=by
 unfold part
 rw[YE hf,Ax1 hf]
@[simp high] theorem AGd (xs:List Ext) (o n:Nat):part (xs.flatMap Br) 2 o n=((xs.drop o).take n).flatMap Br:=Axt Xf xs o n
attribute [simp] Br CU Yw
def Ub (l:List Ext):Prop:=l.length≤4194304∧∀x,x∈l→x.body.length≤4194304
theorem Mr {l:List Ext} (h:Ub l) {j:Nat} (hj:j<l.length):l[j].body.length≤4194304:=h.2 _ (List.getElem_mem hj)
theorem Adb:Ub []:=⟨by simp,by simp⟩
theorem Avo {l:List Ext} (h:Ub l) (p:Ext→Bool):Ub (l.filter p):=
 ⟨Nat.le_trans (List.length_filter_le p l) h.1,fun x hx=>h.2 x (List.mem_filter.1 hx).1⟩
def Nl (q:Nat→Bool) (j:Nat):Bool:=(List.range j).all q
@[simp] theorem AGa (q:Nat→Bool):Nl q 0=true:=rfl
theorem IC (q:Nat→Bool) (j:Nat):Nl q (j+1)=(Nl q j&&q j):=by
 unfold Nl
 rw[List.range_succ,List.all_append]
 simp
theorem AkG {q:Nat→Bool} {j n:Nat} (h:j<n) (hn:q j=false):Nl q n=false:=by
 have:∀m,Nl q (j+1+m)=false:=by
  intro m
  induction m with
  | zero=>rw[Nat.add_zero,IC,hn];simp
  | succ m ih=>rw[show j+1+(m+1)=(j+1+m)+1 by omega,IC,ih];rfl
 have:=this (n-(j+1))
 rwa [show j+1+(n-(j+1))=n by omega]at this
theorem Ayu {q:Nat→Bool} {n:Nat}:Nl q n=true↔∀i,i<n→q i=true:=by
 unfold Nl
 rw[List.all_eq_true]
 simp
theorem Aaf {α:Type} {p:α→Bool} {xs:List α} {j:Nat} (h:j<xs.length):(xs.take (j+1)).filter p=(xs.take j).filter p++(if p xs[j]then [xs[j]]else []):=by
 have e:xs.take (j+1)=xs.take j++ [xs[j]]:=by simp
 rw[e,List.filter_append]
 by_cases hp:p xs[j]=true<;>simp[hp]
theorem AdG {α:Type} {p:α→Bool} {xs:List α} {j:Nat} (h:xs.length≤j):(xs.take j).filter p=xs.filter p:=by rw[List.take_of_length_le h]
theorem AdH {α:Type} {p:α→Bool} {xs:List α} {j:Nat}:((xs.take j).filter p).length≤j:=by
 have:=List.length_filter_le p (xs.take j)
 have h2:(xs.take j).length≤j:=by simp;omega
 omega
end Go.Eng.T
namespace Go.Eng.T
set_option maxRecDepth 20000
abbrev Sv (R:Rel):Prop:=∀r:EH,Bg r≤4194304→R [arg (Gx r)] [] (.agg (Gx r)) []
theorem Ayi (D:Dn):Sv (Body D Tw):=by
 intro r h
 have hb:r.stages.length*8≤1099511627776:=by unfold Bg at h;omega
 simp -implicitDefEqProofs [hb]
theorem AJj (D:Dn):Sv (Body D Yy):=by
 intro r h
 have hb:r.stages.length*8≤1099511627776:=by unfold Bg at h;omega
 simp -implicitDefEqProofs [hb]
abbrev Nr (R:Rel):Prop:=∀d:Cw,Al d≤4194304→R [arg (AP d)] [] (.agg (AP d)) []
theorem ANF (D:Dn):Nr (Body D ALJ):=by
 intro d h
 unfold Al E9 at h
 have h1:d.deal.tags.length*8≤1099511627776:=by omega
 have h2:d.up.length*8≤1099511627776:=by omega
 simp -implicitDefEqProofs [h1,h2]
theorem AJB (D:Dn):Nr (Body D Aa1):=by
 intro d h
 unfold Al E9 at h
 have h1:d.deal.tags.length*8≤1099511627776:=by omega
 have h2:d.up.length*8≤1099511627776:=by omega
 simp -implicitDefEqProofs [h1,h2]
theorem Qu {α:Type} {f:α→List V} {xs:List α} {j:Nat} (h:j<xs.length):(xs.take j).flatMap f++f xs[j]=(xs.take (j+1)).flatMap f:=by
 have e:xs.take (j+1)=xs.take j++ [xs[j]]:=by simp
 rw[e,List.flatMap_append];simp
abbrev ACi (R:Rel):Prop:=∀xs:List Gu,Bw Ct xs≤4194304→R [.sl 1 4 xs.length (xs.flatMap CF)] [] (.sl 0 4 xs.length (xs.flatMap CF)) []
theorem AKb (D:Dn):ACi (Body D AhO):=by
 intro xs h
 have hlen:=IK (f:=Ct) (xs:=xs)
 simp -implicitDefEqProofs
 refine Ae (fun k s=>∃j o1 o2 o3 o4 o5 o6 o7,j+k=xs.length∧s=⟨[.undef,.undef,.arr 8,.undef,.sl 1 4 xs.length (xs.flatMap CF),.sc (.int .i64 xs.length),.sc (.int .i64 j),.undef],[.free,o1,o2,o3,o4,o5,o6,o7,.arr 4 0 j ((xs.take j).flatMap CF)]⟩) ?_ xs.length _ ⟨0,.free,.free,.free,.free,.free,.free,.free,by simp,by simp⟩
 intro k s ⟨j,o1,o2,o3,o4,o5,o6,o7,hj,hs⟩
 subst hs
 by_cases hjn:j<xs.length
 ·have hw:IntKind.i64.wrap ((j:Int)+1)=(j+1:Nat):=by rw[Ad (by omega) (by omega)];simp
  have hsz:=size_at (f:=Ct) hjn
  have e:Ct xs[j]=xs[j].drops.length+xs[j].strips.length:=rfl
  have h1:xs[j].drops.length*8≤1099511627776:=by omega
  have h2:xs[j].strips.length*8≤1099511627776:=by omega
  have h3:(j+1)*64≤1099511627776:=by omega
  have hst:=Qu (f:=CF) hjn
  simp -implicitDefEqProofs [hjn,h1,h2,h3]
  exact⟨k-1,by omega,j+1,by omega,by simp[hw],rfl,by rw[←hst];rfl⟩
 ·obtain rfl:j=xs.length:=by omega
  simp -implicitDefEqProofs
abbrev Ml (R:Rel):Prop:=∀x:AL,Ac x≤4194304→R [arg (Ak x)] [] (.agg (Ak x)) []
theorem AIP (D:Dn) (hP:ACi (D Az7)):Ml (Body D VP):=by
 intro x h
 unfold Ac at h
 have h1:x.versions.length*8≤1099511627776:=by omega
 have h2:x.tags.length*8≤1099511627776:=by omega
 simp -implicitDefEqProofs [h1,h2]
 refine Aa (hP x.path (by omega)) ?_
 simp -implicitDefEqProofs
theorem ANW (D:Dn):Ml (Body D NF):=by
 intro x h
 unfold Ac at h
 have h1:x.versions.length*8≤1099511627776:=by omega
 have h2:x.tags.length*8≤1099511627776:=by omega
 have hlen:=IK (f:=Ct) (xs:=x.path)
 simp -implicitDefEqProofs [h1,h2]
 refine Ae (fun k s=>∃j o7 o8 o9 o10 o11 o12 o13,j+k=x.path.length∧s=⟨[.undef,.ptr 0 0,.ptr 1 0,.ptr 6 0,.sc (.int .i64 j),.undef,.undef],[.var ((Ak x).map (AZ 1)),.var [.nil 1,.nil 1,.nil 4,.sc (.int .i64 0)],.dead,.arr 1 0 x.versions.length (ints x.versions),.dead,.arr 1 0 x.tags.length (ints x.tags),.var [.arr 3,.arr 5,.arr 14,.sc (.int .i64 x.cls)],o7,o8,o9,o10,o11,o12,o13,.arr 4 0 j ((x.path.take j).flatMap CF)]⟩) ?_ x.path.length _ ⟨0,.free,.free,.free,.free,.free,.free,.free,by simp,by simp⟩
 intro k s ⟨j,o7,o8,o9,o10,o11,o12,o13,hj,hs⟩
 subst hs
 by_cases hjn:j<x.path.length
 ·have hw:IntKind.i64.wrap ((j:Int)+1)=(j+1:Nat):=by rw[Ad (by omega) (by omega)];simp
  have hsz:=size_at (f:=Ct) hjn
  have e:Ct x.path[j]=x.path[j].drops.length+x.path[j].strips.length:=rfl
  have h1:x.path[j].drops.length*8≤1099511627776:=by omega
  have h2:x.path[j].strips.length*8≤1099511627776:=by omega
  have h3:(j+1)*64≤1099511627776:=by omega
  have hst:=Qu (f:=CF) hjn
  simp -implicitDefEqProofs [hjn,h1,h2,h3]
  exact⟨k-1,by omega,j+1,by omega,by simp[hw],rfl,by rw[←hst];rfl⟩
 ·obtain rfl:j=x.path.length:=by omega
  simp -implicitDefEqProofs
end Go.Eng.T
namespace Go.Eng.T
set_option maxRecDepth 20000
theorem Xn {w:World} (h:Ay w≤4194304):Bg w.rollout≤4194304:=by unfold Ay at h;omega
theorem NZ {w:World} (h:Ay w≤4194304):w.server.length≤4194304∧w.tags.length≤4194304∧Bw Ac w.ends≤4194304∧Bw Al w.stage≤4194304∧Bw Av w.log≤4194304:=by unfold Ay at h;omega
abbrev Ef (R:Rel):Prop:=∀w:World,Ay w≤4194304→R [arg (EF w)] [] (.agg (EF w)) []
theorem ANR (D:Dn) (hE:Ml (D ADi)) (hR:Sv (D Zx)) (hD:Nr (D AzC)):Ef (Body D ALW):=by
 intro w h
 have hl:=Rc h
 have he:=JQ h
 have hs:=Xk h
 have hr:=Xn h
 have z:=NZ h
 have b1:w.server.length*8≤1099511627776:=by omega
 have b2:w.tags.length*8≤1099511627776:=by omega
 simp -implicitDefEqProofs [b1,b2]
 refine Ae (fun k s=>∃j o8 o9 o10 o11 o12,j+k=w.ends.length∧s=⟨[.undef,.ptr 0 0,.ptr 1 0,.ptr 2 0,.sc (.int .i64 j),.undef,.undef,.undef,.undef,.undef],[.var ((EF w).map (AZ 1)),.var [.nil 1,.nil 1,.sc (.int .i64 0),.nil 4,.sc (.int .i64 0),.nil 1,.sc (.int .i64 0),.sc (.bool false),.sc (.int .i64 0),.sc (.int .i64 0),.nil 5,.nil 8,.sc (.int .i64 0),.sc (.int .i64 0),.sc (.int .i64 0)],.var [.arr 4,.arr 6,.sc (.int .i64 w.key),.arr 24,.sc (.int .i64 w.rollout.version),.sl 1 1 w.rollout.stages.length (ints w.rollout.stages),.sc (.int .i64 w.rollout.pos),.sc (.bool w.rollout.off),.sc (.int .i64 w.least),.sc (.int .i64 w.percent),.sl 1 5 w.stage.length (w.stage.flatMap AP),.sl 1 8 w.log.length (w.log.flatMap Ar),.sc (.int .i64 w.now),.sc (.int .i64 w.hurt),.sc (.int .i64 w.reached)],.dead,.arr 1 0 w.server.length (ints w.server),.dead,.arr 1 0 w.tags.length (ints w.tags),.free,o8,o9,o10,o11,o12,.free,.free,.free,.free,.free,.free,.free,.free,.free,.free,.free,.arr 4 0 j ((w.ends.take j).flatMap Ak),.free,.free]⟩) ?_ w.ends.length _ ⟨0,by simp⟩
 intro k s ⟨j,o8,o9,o10,o11,o12,hj,hs'⟩
 subst hs'
 by_cases hjn:j<w.ends.length
 ·have hw:IntKind.i64.wrap ((j:Int)+1)=(j+1:Nat):=by rw[Ad (by omega) (by omega)];simp
  have hsz:=size_at (f:=Ac) hjn
  have h3:(j+1)*80≤1099511627776:=by omega
  have hst:=Qu (f:=Ak) hjn
  simp -implicitDefEqProofs [hjn]
  refine Aa (hE w.ends[j] (by first | omega | (simp only[Av]at hsz;omega))) ?_
  simp -implicitDefEqProofs [hjn,h3]
  exact⟨k-1,by omega,j+1,by omega,by simp[hw],rfl,by rw[←hst];rfl⟩
 obtain rfl:j=w.ends.length:=by omega
 simp -implicitDefEqProofs
 refine Aa (hR w.rollout hr) ?_
 simp -implicitDefEqProofs
 refine Ae (fun k s=>∃j o8 o9 o10 o11 o12 o15 o16 o17 o18,j+k=w.stage.length∧s=⟨[.undef,.ptr 0 0,.ptr 1 0,.ptr 2 0,.undef,.sc (.int .i64 j),.undef,.undef,.undef,.undef],[.var ((EF w).map (AZ 1)),.var [.nil 1,.nil 1,.sc (.int .i64 0),.nil 4,.sc (.int .i64 0),.nil 1,.sc (.int .i64 0),.sc (.bool false),.sc (.int .i64 0),.sc (.int .i64 0),.nil 5,.nil 8,.sc (.int .i64 0),.sc (.int .i64 0),.sc (.int .i64 0)],.var [.arr 4,.arr 6,.sc (.int .i64 w.key),.arr 24,.sc (.int .i64 w.rollout.version),.arr 13,.sc (.int .i64 w.rollout.pos),.sc (.bool w.rollout.off),.sc (.int .i64 w.least),.sc (.int .i64 w.percent),.arr 25,.sl 1 8 w.log.length (w.log.flatMap Ar),.sc (.int .i64 w.now),.sc (.int .i64 w.hurt),.sc (.int .i64 w.reached)],.dead,.arr 1 0 w.server.length (ints w.server),.dead,.arr 1 0 w.tags.length (ints w.tags),.free,o8,o9,o10,o11,o12,.arr 1 0 w.rollout.stages.length (ints w.rollout.stages),.free,o15,o16,o17,o18,.free,.free,.free,.free,.free,.arr 4 0 w.ends.length (w.ends.flatMap Ak),.arr 5 0 j ((w.stage.take j).flatMap AP),.free]⟩) ?_ w.stage.length _ ⟨0,by simp⟩
 intro k s ⟨j,o8,o9,o10,o11,o12,o15,o16,o17,o18,hj,hs'⟩
 subst hs'
 by_cases hjn:j<w.stage.length
 ·have hw:IntKind.i64.wrap ((j:Int)+1)=(j+1:Nat):=by rw[Ad (by omega) (by omega)];simp
  have hsz:=size_at (f:=Al) hjn
  have h3:(j+1)*72≤1099511627776:=by omega
  have hst:=Qu (f:=AP) hjn
  simp -implicitDefEqProofs [hjn]
  refine Aa (hD w.stage[j] (by first | omega | (simp only[Av]at hsz;omega))) ?_
  simp -implicitDefEqProofs [hjn,h3]
  exact⟨k-1,by omega,j+1,by omega,by simp[hw],rfl,by rw[←hst];rfl⟩
 obtain rfl:j=w.stage.length:=by omega
 simp -implicitDefEqProofs
 refine Ae (fun k s=>∃j o8 o9 o10 o11 o12 o15 o16 o17 o18 o20 o21 o22 o23,j+k=w.log.length∧s=⟨[.undef,.ptr 0 0,.ptr 1 0,.ptr 2 0,.undef,.undef,.sc (.int .i64 j),.undef,.undef,.undef],[.var ((EF w).map (AZ 1)),.var [.nil 1,.nil 1,.sc (.int .i64 0),.nil 4,.sc (.int .i64 0),.nil 1,.sc (.int .i64 0),.sc (.bool false),.sc (.int .i64 0),.sc (.int .i64 0),.nil 5,.nil 8,.sc (.int .i64 0),.sc (.int .i64 0),.sc (.int .i64 0)],.var [.arr 4,.arr 6,.sc (.int .i64 w.key),.arr 24,.sc (.int .i64 w.rollout.version),.arr 13,.sc (.int .i64 w.rollout.pos),.sc (.bool w.rollout.off),.sc (.int .i64 w.least),.sc (.int .i64 w.percent),.arr 25,.arr 26,.sc (.int .i64 w.now),.sc (.int .i64 w.hurt),.sc (.int .i64 w.reached)],.dead,.arr 1 0 w.server.length (ints w.server),.dead,.arr 1 0 w.tags.length (ints w.tags),.free,o8,o9,o10,o11,o12,.arr 1 0 w.rollout.stages.length (ints w.rollout.stages),.free,o15,o16,o17,o18,.free,o20,o21,o22,o23,.arr 4 0 w.ends.length (w.ends.flatMap Ak),.arr 5 0 w.stage.length (w.stage.flatMap AP),.arr 8 0 j ((w.log.take j).flatMap Ar)]⟩) ?_ w.log.length _ ⟨0,by simp⟩
 intro k s ⟨j,o8,o9,o10,o11,o12,o15,o16,o17,o18,o20,o21,o22,o23,hj,hs'⟩
 subst hs'
 by_cases hjn:j<w.log.length
 ·have hw:IntKind.i64.wrap ((j:Int)+1)=(j+1:Nat):=by rw[Ad (by omega) (by omega)];simp
  have hsz:=size_at (f:=Av) hjn
  have h3:(j+1)*96≤1099511627776:=by omega
  have hst:=Qu (f:=Ar) hjn
  simp -implicitDefEqProofs [hjn]
  refine Aa (hD w.log[j].dialed (by first | omega | (simp only[Av]at hsz;omega))) ?_
  simp -implicitDefEqProofs [hjn,h3]
  exact⟨k-1,by omega,j+1,by omega,by simp[hw],rfl,by rw[←hst];rfl⟩
 obtain rfl:j=w.log.length:=by omega
 simp -implicitDefEqProofs
theorem AJX (D:Dn) (hE:Ml (D Auj)) (hR:Sv (D AwJ)) (hD:Nr (D Aye)):Ef (Body D Aeo):=by
 intro w h
 have hl:=Rc h
 have he:=JQ h
 have hs:=Xk h
 have hr:=Xn h
 have z:=NZ h
 have b1:w.server.length*8≤1099511627776:=by omega
 have b2:w.tags.length*8≤1099511627776:=by omega
 simp -implicitDefEqProofs [b1,b2]
 refine Aa (hR w.rollout hr) ?_
 simp -implicitDefEqProofs
 refine Ae (fun k s=>∃j o8 o9 o10 o11 o12 o13,j+k=w.ends.length∧s=⟨[.undef,.ptr 0 0,.ptr 1 0,.ptr 2 0,.undef,.undef,.undef,.sl 1 4 w.ends.length (w.ends.flatMap Ak),.sc (.int .i64 w.ends.length),.sc (.int .i64 j),.undef,.undef,.undef,.undef,.undef,.undef,.undef,.undef,.undef],[.var ((EF w).map (AZ 1)),.var [.nil 1,.nil 1,.sc (.int .i64 0),.nil 4,.sc (.int .i64 0),.nil 1,.sc (.int .i64 0),.sc (.bool false),.sc (.int .i64 0),.sc (.int .i64 0),.nil 5,.nil 8,.sc (.int .i64 0),.sc (.int .i64 0),.sc (.int .i64 0)],.var [.arr 4,.arr 6,.sc (.int .i64 w.key),.arr 24,.sc (.int .i64 w.rollout.version),.arr 7,.sc (.int .i64 w.rollout.pos),.sc (.bool w.rollout.off),.sc (.int .i64 w.least),.sc (.int .i64 w.percent),.arr 25,.arr 26,.sc (.int .i64 w.now),.sc (.int .i64 w.hurt),.sc (.int .i64 w.reached)],.dead,.arr 1 0 w.server.length (ints w.server),.dead,.arr 1 0 w.tags.length (ints w.tags),.arr 1 0 w.rollout.stages.length (ints w.rollout.stages),o8,o9,o10,o11,o12,o13,.free,.free,.free,.free,.free,.free,.free,.free,.free,.free,.arr 4 0 j ((w.ends.take j).flatMap Ak),.arr 5 0 0 [],.arr 8 0 0 []]⟩) ?_ w.ends.length _ ⟨0,by simp⟩
 intro k s ⟨j,o8,o9,o10,o11,o12,o13,hj,hs'⟩
 subst hs'
 by_cases hjn:j<w.ends.length
 ·have hw:IntKind.i64.wrap ((j:Int)+1)=(j+1:Nat):=by rw[Ad (by omega) (by omega)];simp
  have hsz:=size_at (f:=Ac) hjn
  have h3:(j+1)*80≤1099511627776:=by omega
  have hst:=Qu (f:=Ak) hjn
  simp -implicitDefEqProofs [hjn]
  refine Aa (hE w.ends[j] (by first | omega | (simp only[Av]at hsz;omega))) ?_
  simp -implicitDefEqProofs [hjn,h3]
  exact⟨k-1,by omega,j+1,by omega,by simp[hw],rfl,by rw[←hst];rfl⟩
 obtain rfl:j=w.ends.length:=by omega
 simp -implicitDefEqProofs
 refine Ae (fun k s=>∃j o8 o9 o10 o11 o12 o13 o14 o15 o16 o17 o18,j+k=w.stage.length∧s=⟨[.undef,.ptr 0 0,.ptr 1 0,.ptr 2 0,.undef,.undef,.undef,.undef,.undef,.undef,.undef,.sl 1 5 w.stage.length (w.stage.flatMap AP),.sc (.int .i64 w.stage.length),.sc (.int .i64 j),.undef,.undef,.undef,.undef,.undef],[.var ((EF w).map (AZ 1)),.var [.nil 1,.nil 1,.sc (.int .i64 0),.nil 4,.sc (.int .i64 0),.nil 1,.sc (.int .i64 0),.sc (.bool false),.sc (.int .i64 0),.sc (.int .i64 0),.nil 5,.nil 8,.sc (.int .i64 0),.sc (.int .i64 0),.sc (.int .i64 0)],.var [.arr 4,.arr 6,.sc (.int .i64 w.key),.arr 24,.sc (.int .i64 w.rollout.version),.arr 7,.sc (.int .i64 w.rollout.pos),.sc (.bool w.rollout.off),.sc (.int .i64 w.least),.sc (.int .i64 w.percent),.arr 25,.arr 26,.sc (.int .i64 w.now),.sc (.int .i64 w.hurt),.sc (.int .i64 w.reached)],.dead,.arr 1 0 w.server.length (ints w.server),.dead,.arr 1 0 w.tags.length (ints w.tags),.arr 1 0 w.rollout.stages.length (ints w.rollout.stages),o8,o9,o10,o11,o12,o13,o14,o15,o16,o17,o18,.free,.free,.free,.free,.free,.arr 4 0 w.ends.length (w.ends.flatMap Ak),.arr 5 0 j ((w.stage.take j).flatMap AP),.arr 8 0 0 []]⟩) ?_ w.stage.length _ ⟨0,by simp⟩
 intro k s ⟨j,o8,o9,o10,o11,o12,o13,o14,o15,o16,o17,o18,hj,hs'⟩
 subst hs'
 by_cases hjn:j<w.stage.length
 ·have hw:IntKind.i64.wrap ((j:Int)+1)=(j+1:Nat):=by rw[Ad (by omega) (by omega)];simp
  have hsz:=size_at (f:=Al) hjn
  have h3:(j+1)*72≤1099511627776:=by omega
  have hst:=Qu (f:=AP) hjn
  simp -implicitDefEqProofs [hjn]
  refine Aa (hD w.stage[j] (by first | omega | (simp only[Av]at hsz;omega))) ?_
  simp -implicitDefEqProofs [hjn,h3]
  exact⟨k-1,by omega,j+1,by omega,by simp[hw],rfl,by rw[←hst];rfl⟩
 obtain rfl:j=w.stage.length:=by omega
 simp -implicitDefEqProofs
 refine Ae (fun k s=>∃j o8 o9 o10 o11 o12 o13 o14 o15 o16 o17 o18 o19 o20 o21 o22 o23,j+k=w.log.length∧s=⟨[.undef,.undef,.ptr 1 0,.ptr 2 0,.undef,.undef,.undef,.undef,.undef,.undef,.undef,.undef,.undef,.undef,.undef,.sl 1 8 w.log.length (w.log.flatMap Ar),.sc (.int .i64 w.log.length),.sc (.int .i64 j),.undef],[.var ((EF w).map (AZ 1)),.var [.nil 1,.nil 1,.sc (.int .i64 0),.nil 4,.sc (.int .i64 0),.nil 1,.sc (.int .i64 0),.sc (.bool false),.sc (.int .i64 0),.sc (.int .i64 0),.nil 5,.nil 8,.sc (.int .i64 0),.sc (.int .i64 0),.sc (.int .i64 0)],.var [.arr 4,.arr 6,.sc (.int .i64 w.key),.arr 24,.sc (.int .i64 w.rollout.version),.arr 7,.sc (.int .i64 w.rollout.pos),.sc (.bool w.rollout.off),.sc (.int .i64 w.least),.sc (.int .i64 w.percent),.arr 25,.arr 26,.sc (.int .i64 w.now),.sc (.int .i64 w.hurt),.sc (.int .i64 w.reached)],.dead,.arr 1 0 w.server.length (ints w.server),.dead,.arr 1 0 w.tags.length (ints w.tags),.arr 1 0 w.rollout.stages.length (ints w.rollout.stages),o8,o9,o10,o11,o12,o13,o14,o15,o16,o17,o18,o19,o20,o21,o22,o23,.arr 4 0 w.ends.length (w.ends.flatMap Ak),.arr 5 0 w.stage.length (w.stage.flatMap AP),.arr 8 0 j ((w.log.take j).flatMap Ar)]⟩) ?_ w.log.length _ ⟨0,by simp⟩
 intro k s ⟨j,o8,o9,o10,o11,o12,o13,o14,o15,o16,o17,o18,o19,o20,o21,o22,o23,hj,hs'⟩
 subst hs'
 by_cases hjn:j<w.log.length
 ·have hw:IntKind.i64.wrap ((j:Int)+1)=(j+1:Nat):=by rw[Ad (by omega) (by omega)];simp
  have hsz:=size_at (f:=Av) hjn
  have h3:(j+1)*96≤1099511627776:=by omega
  have hst:=Qu (f:=Ar) hjn
  simp -implicitDefEqProofs [hjn]
  refine Aa (hD w.log[j].dialed (by first | omega | (simp only[Av]at hsz;omega))) ?_
  simp -implicitDefEqProofs [hjn,h3]
  exact⟨k-1,by omega,j+1,by omega,by simp[hw],rfl,by rw[←hst];rfl⟩
 obtain rfl:j=w.log.length:=by omega
 simp -implicitDefEqProofs
end Go.Eng.T
namespace Go.Eng.T
set_option maxRecDepth 20000
abbrev SH (a b c:Int):Prop:=b≤a∧a≤c
def Nv (xs:List Int) (j:Nat):Bool:=(List.range j).all fun i=>decide (SH (xs.getD i 0) 1 100)&&(decide (i=0)||decide (xs.getD (i-1) 0<xs.getD i 0))
theorem Xi (xs:List Int) (j:Nat):Nv xs (j+1)=(Nv xs j&&(decide (SH (xs.getD j 0) 1 100)&&(decide (j=0)||decide (xs.getD (j-1) 0<xs.getD j 0)))):=by
 unfold Nv
 rw[List.range_succ,List.all_append]
 simp
theorem Adi {xs:List Int} {j:Nat} (h:j<xs.length) (hn:Nv xs (j+1)=false):Nv xs xs.length=false:=by
 have:∀n,Nv xs (j+1+n)=false:=by
  intro n
  induction n with
  | zero=>exact hn
  | succ n ih=>rw[show j+1+(n+1)=(j+1+n)+1 by omega,Xi,ih];rfl
 have:=this (xs.length-(j+1))
 rwa [show j+1+(xs.length-(j+1))=xs.length by omega]at this
def Bp (r:EH):Bool:=
 Nv r.stages r.stages.length&&(decide (SH r.version 1 9)&&decide (SH r.stages.length 1 5)&&decide (r.stages.getD (r.stages.length-1) 0=100)&&decide (SH r.pos 0 (r.stages.length-1)))
abbrev FR (R:Rel):Prop:=∀r:EH,r.stages.length≤4194304→R [arg (Gx r)] [] (B (Bp r)) []
theorem getD_at {xs:List Int} {j:Nat} (h:j<xs.length):xs.getD j 0=xs[j]:=by simp[h]
theorem AoM (D:Dn) (hI:SG (D CB)):FR (Body D Pt):=by
 intro r hl
 simp -implicitDefEqProofs
 refine Ae (fun k s=>∃j,j+k=r.stages.length∧Nv r.stages j=true∧s=⟨[.undef,.ptr 0 0,.undef,.sc (.int .i64 j),.undef,.undef],[.var ((Gx r).map (AZ 1))]⟩) ?_ r.stages.length _ ⟨0,by simp,by simp[Nv],by simp⟩
 intro k s ⟨j,hj,hr,hs⟩
 subst hs
 by_cases hjn:j<r.stages.length
 ·have hw:IntKind.i64.wrap ((j:Int)+1)=(j+1:Nat):=by rw[Ad (by omega) (by omega)];simp
  have hst:=Xi r.stages j
  rw[hr,Bool.true_and,getD_at hjn]at hst
  simp -implicitDefEqProofs [hjn]
  refine Aa (hI _ _ _) ?_
  by_cases h1:SH r.stages[j] 1 100
  rotate_left
  ·have e:Bp r=false:=by unfold Bp;rw[Adi hjn (by rw[hst];simp[h1])];rfl
   simp -implicitDefEqProofs [h1,e]
  by_cases h0:j=0
  ·subst h0
   simp -implicitDefEqProofs [h1]
   exact⟨k-1,by omega,1,by omega,by rw[hst];simp[h1],by simpa using hw⟩
  ·have hp:((j-1:Nat):Int)=(j:Int)-1:=by omega
   have hw2:IntKind.i64.wrap ((j:Int)-1)=((j-1:Nat):Int):=by rw[Ad (by omega) (by omega)];omega
   have h2:(0:Int)<j:=by omega
   have h2':0<j:=by omega
   have h3:j-1<r.stages.length:=by omega
   rw[getD_at h3]at hst
   by_cases h4:r.stages[j-1]<r.stages[j]
   ·have h4':¬r.stages[j]≤r.stages[j-1]:=by omega
    simp -implicitDefEqProofs [h1,h2,h2',hw2,h3,hjn,h4']
    exact⟨k-1,by omega,j+1,by omega,by rw[hst];simp[h1,h0,h4],by simp[hw]⟩
   ·have e:Bp r=false:=by unfold Bp;rw[Adi hjn (by rw[hst];simp[h1,h0,h4])];rfl
    have h4':r.stages[j]≤r.stages[j-1]:=by omega
    simp -implicitDefEqProofs [h1,h2,h2',hw2,h3,hjn,h4',e]
 ·obtain rfl:j=r.stages.length:=by omega
  simp -implicitDefEqProofs
  refine Aa (hI _ _ _) ?_
  by_cases h1:SH r.version 1 9
  rotate_left
  ·simp -implicitDefEqProofs [h1,Bp]
  simp -implicitDefEqProofs [h1]
  refine Aa (hI _ _ _) ?_
  by_cases h2:SH r.stages.length 1 5
  rotate_left
  ·simp -implicitDefEqProofs [h2,Bp]
  have hw2:IntKind.i64.wrap ((r.stages.length:Int)-1)=((r.stages.length-1:Nat):Int):=by rw[Ad (by omega) (by omega)];omega
  have h3:r.stages.length-1<r.stages.length:=by omega
  have h5:0<r.stages.length:=by omega
  by_cases h4:r.stages[r.stages.length-1]=100
  rotate_left
  ·simp -implicitDefEqProofs [h2,hw2,h3,h4,h5,Bp]
  simp -implicitDefEqProofs [h2,hw2,h3,h4,h5]
  refine Aa (hI _ _ _) ?_
  have hc:((r.stages.length-1:Nat):Int)=(r.stages.length:Int)-1:=by omega
  have e:Bp r=decide (SH r.pos 0 ((r.stages.length-1:Nat):Int)):=by unfold Bp;rw[hr,getD_at h3,h4,hc];simp[h1,h2]
  simp -implicitDefEqProofs [e]
theorem Aqq (D:Dn) (hI:SG (D Bz)):FR (Body D PU):=by
 intro r hl
 simp -implicitDefEqProofs
 refine Ae (fun k s=>∃j v3 v4,j+k=r.stages.length∧Nv r.stages j=true∧s=⟨[.undef,.ptr 0 0,.undef,v3,v4,.sl 1 1 r.stages.length (ints r.stages),.sc (.int .i64 r.stages.length),.sc (.int .i64 j),.undef,.undef],[.var ((Gx r).map (AZ 1))]⟩) ?_ r.stages.length _ ⟨0,.undef,.undef,by simp,by simp[Nv],by simp⟩
 intro k s ⟨j,v3,v4,hj,hr,hs⟩
 subst hs
 by_cases hjn:j<r.stages.length
 ·have hw:IntKind.i64.wrap ((j:Int)+1)=(j+1:Nat):=by rw[Ad (by omega) (by omega)];simp
  have hst:=Xi r.stages j
  rw[hr,Bool.true_and,getD_at hjn]at hst
  simp -implicitDefEqProofs [hjn]
  refine Aa (hI _ _ _) ?_
  by_cases h1:SH r.stages[j] 1 100
  rotate_left
  ·have e:Bp r=false:=by unfold Bp;rw[Adi hjn (by rw[hst];simp[h1])];rfl
   simp -implicitDefEqProofs [h1,e]
  by_cases h0:j=0
  ·subst h0
   simp -implicitDefEqProofs [h1]
   exact⟨k-1,by omega,1,by omega,by rw[hst];simp[h1],by simpa using hw⟩
  ·have hp:((j-1:Nat):Int)=(j:Int)-1:=by omega
   have hw2:IntKind.i64.wrap ((j:Int)-1)=((j-1:Nat):Int):=by rw[Ad (by omega) (by omega)];omega
   have h2:(0:Int)<j:=by omega
   have h2':0<j:=by omega
   have h3:j-1<r.stages.length:=by omega
   rw[getD_at h3]at hst
   by_cases h4:r.stages[j-1]<r.stages[j]
   ·have h4':¬r.stages[j]≤r.stages[j-1]:=by omega
    simp -implicitDefEqProofs [h1,h2,h2',hw2,h3,hjn,h4']
    exact⟨k-1,by omega,j+1,by omega,by rw[hst];simp[h1,h0,h4],by simp[hw]⟩
   ·have e:Bp r=false:=by unfold Bp;rw[Adi hjn (by rw[hst];simp[h1,h0,h4])];rfl
    have h4':r.stages[j]≤r.stages[j-1]:=by omega
    simp -implicitDefEqProofs [h1,h2,h2',hw2,h3,hjn,h4',e]
 ·obtain rfl:j=r.stages.length:=by omega
  simp -implicitDefEqProofs
  refine Aa (hI _ _ _) ?_
  by_cases h1:SH r.version 1 9
  rotate_left
  ·simp -implicitDefEqProofs [h1,Bp]
  simp -implicitDefEqProofs [h1]
  refine Aa (hI _ _ _) ?_
  by_cases h2:SH r.stages.length 1 5
  rotate_left
  ·simp -implicitDefEqProofs [h2,Bp]
  have hw2:IntKind.i64.wrap ((r.stages.length:Int)-1)=((r.stages.length-1:Nat):Int):=by rw[Ad (by omega) (by omega)];omega
  have h3:r.stages.length-1<r.stages.length:=by omega
  have h5:0<r.stages.length:=by omega
  by_cases h4:r.stages[r.stages.length-1]=100
  rotate_left
  ·simp -implicitDefEqProofs [h2,hw2,h3,h4,h5,Bp]
  simp -implicitDefEqProofs [h2,hw2,h3,h4,h5]
  refine Aa (hI _ _ _) ?_
  have hc:((r.stages.length-1:Nat):Int)=(r.stages.length:Int)-1:=by omega
  have e:Bp r=decide (SH r.pos 0 ((r.stages.length-1:Nat):Int)):=by unfold Bp;rw[hr,getD_at h3,h4,hc];simp[h1,h2]
  simp -implicitDefEqProofs [e]
def KW (a b:Int):Int:=if SH a 0 1000000000000∧SH b 1 1000000000000 then(a+b-1).tdiv b else 0
abbrev O5 (R:Rel):Prop:=∀a b:Int,R [I a,I b] [] (I (KW a b)) []
theorem Ar9 {a b:Int} (h1:0≤a) (h2:a≤4000000000000) (h3:1≤b):IntKind.i64.wrap (a.tdiv b)=a.tdiv b:=by
 have a1:0≤a.tdiv b:=Int.tdiv_nonneg h1 (by omega)
 have a2:a.tdiv b≤a:=Int.tdiv_le_self _ h1
 exact Ad (by omega) (by omega)
theorem AuL (D:Dn) (hI:SG (D CB)):O5 (Body D Uv):=by
 intro a b
 simp -implicitDefEqProofs
 refine Aa (hI _ _ _) ?_
 by_cases h1:SH a 0 1000000000000
 rotate_left
 ·simp -implicitDefEqProofs [h1,KW]
 simp -implicitDefEqProofs [h1]
 refine Aa (hI _ _ _) ?_
 by_cases h2:SH b 1 1000000000000
 rotate_left
 ·simp -implicitDefEqProofs [h2,KW]
 have w1:IntKind.i64.wrap (a+b)=a+b:=Ad (by omega) (by omega)
 have w2:IntKind.i64.wrap (a+b-1)=a+b-1:=Ad (by omega) (by omega)
 have w3:=Ar9 (a:=a+b-1) (b:=b) (by omega) (by omega) (by omega)
 have h0:¬b=0:=by omega
 have e:KW a b=(a+b-1).tdiv b:=by unfold KW;rw[if_pos ⟨h1,h2⟩]
 simp -implicitDefEqProofs [h2,w1,w2,w3,h0,e]
theorem Aux (D:Dn) (hI:SG (D Bz)):O5 (Body D Uq):=by
 intro a b
 simp -implicitDefEqProofs
 refine Aa (hI _ _ _) ?_
 by_cases h1:SH a 0 1000000000000
 rotate_left
 ·simp -implicitDefEqProofs [h1,KW]
 simp -implicitDefEqProofs [h1]
 refine Aa (hI _ _ _) ?_
 by_cases h2:SH b 1 1000000000000
 rotate_left
 ·simp -implicitDefEqProofs [h2,KW]
 have w1:IntKind.i64.wrap (a+b)=a+b:=Ad (by omega) (by omega)
 have w2:IntKind.i64.wrap (a+b-1)=a+b-1:=Ad (by omega) (by omega)
 have w3:=Ar9 (a:=a+b-1) (b:=b) (by omega) (by omega) (by omega)
 have h0:¬b=0:=by omega
 have e:KW a b=(a+b-1).tdiv b:=by unfold KW;rw[if_pos ⟨h1,h2⟩]
 simp -implicitDefEqProofs [h2,w1,w2,w3,h0,e]
end Go.Eng.T
namespace Go.Eng.T
set_option maxRecDepth 20000
theorem AAr {xs:List Int} {n:Nat} (h:Nv xs n=true) {i:Nat} (hi:i<n):SH (xs.getD i 0) 1 100:=by
 unfold Nv at h
 have:=List.all_eq_true.1 h i (List.mem_range.2 hi)
 simp at this
 exact⟨this.1.1,this.1.2⟩
theorem ArH {r:EH} (h:Bp r=true):0≤r.pos∧r.pos<r.stages.length∧r.stages.length≤5∧SH (r.stages.getD r.pos.toNat 0) 1 100:=by
 unfold Bp at h
 simp only[Bool.and_eq_true,decide_eq_true_eq]at h
 obtain⟨h1,⟨⟨h2,h3⟩,h4⟩,h5⟩:=h
 refine⟨h5.1,by omega,by omega,AAr h1 (by omega)⟩
def countIn (r:EH) (n:Int):Int:=if Bp r=true∧r.off=false∧SH n 0 10000 then KW (n*r.stages.getD r.pos.toNat 0) 100 else 0
abbrev OW (R:Rel):Prop:=∀(r:EH) (n:Int),r.stages.length≤4194304→R [arg (Gx r),I n] [] (I (countIn r n)) []
theorem AvX {n x:Int} (h1:SH n 0 10000) (h2:SH x 1 100):IntKind.i64.wrap (n*x)=n*x:=by
 have a1:0≤n*x:=Int.mul_nonneg h1.1 (by omega)
 have a2:n*x≤10000*100:=Int.mul_le_mul h1.2 h2.2 (by omega) (by omega)
 exact Ad (by omega) (by omega)
theorem Avx (D:Dn) (hR:FR (D Qo)) (hI:SG (D CB)) (hC:O5 (D AmH)):OW (Body D TS):=by
 intro r n hl
 simp -implicitDefEqProofs
 refine Aa (hR r hl) ?_
 by_cases h1:Bp r=true
 rotate_left
 ·simp -implicitDefEqProofs [h1,countIn]
 by_cases h2:r.off=true
 ·simp -implicitDefEqProofs [h1,h2,countIn]
 simp -implicitDefEqProofs [h1,h2]
 refine Aa (hI _ _ _) ?_
 by_cases h3:SH n 0 10000
 rotate_left
 ·simp -implicitDefEqProofs [h3,countIn]
 obtain⟨p1,p2,p3,p4⟩:=ArH h1
 obtain⟨q,hq⟩:∃q:Nat,r.pos=q:=⟨r.pos.toNat,by omega⟩
 have hq2:q<r.stages.length:=by omega
 have e:countIn r n=KW (n*r.stages[q]) 100:=by unfold countIn;rw[if_pos ⟨h1,by simpa using h2,h3⟩,hq];simp[hq2]
 have p4':SH r.stages[q] 1 100:=by rw[hq]at p4;simpa[hq2]using p4
 have hw:=AvX h3 p4'
 simp -implicitDefEqProofs [h3,hq,hq2,hw]
 refine Aa (hC _ _) ?_
 simp -implicitDefEqProofs [e]
theorem AtU (D:Dn) (hR:FR (D Qk)) (hI:SG (D Bz)) (hC:O5 (D Ams)):OW (Body D TI):=by
 intro r n hl
 simp -implicitDefEqProofs
 refine Aa (hR r hl) ?_
 by_cases h1:Bp r=true
 rotate_left
 ·simp -implicitDefEqProofs [h1,countIn]
 by_cases h2:r.off=true
 ·simp -implicitDefEqProofs [h1,h2,countIn]
 simp -implicitDefEqProofs [h1,h2]
 refine Aa (hI _ _ _) ?_
 by_cases h3:SH n 0 10000
 rotate_left
 ·simp -implicitDefEqProofs [h3,countIn]
 obtain⟨p1,p2,p3,p4⟩:=ArH h1
 obtain⟨q,hq⟩:∃q:Nat,r.pos=q:=⟨r.pos.toNat,by omega⟩
 have hq2:q<r.stages.length:=by omega
 have e:countIn r n=KW (n*r.stages[q]) 100:=by unfold countIn;rw[if_pos ⟨h1,by simpa using h2,h3⟩,hq];simp[hq2]
 have p4':SH r.stages[q] 1 100:=by rw[hq]at p4;simpa[hq2]using p4
 have hw:=AvX h3 p4'
 simp -implicitDefEqProofs [h3,hq,hq2,hw]
 refine Aa (hC _ _) ?_
 simp -implicitDefEqProofs [e]
def isIn (r:EH) (i n:Int):Bool:=decide (0≤i)&&decide (i<n)&&decide (i<countIn r n)
abbrev Aft (R:Rel):Prop:=∀(r:EH) (i n:Int),r.stages.length≤4194304→R [arg (Gx r),I i,I n] [] (B (isIn r i n)) []
theorem AmX (D:Dn) (hC:OW (D Anf)):Aft (Body D AMb):=by
 intro r i n hl
 by_cases h1:0≤i
 ·by_cases h2:i<n
  ·simp -implicitDefEqProofs [h1,h2]
   refine Aa (hC r n hl) ?_
   simp -implicitDefEqProofs [isIn,h1,h2]
  ·simp -implicitDefEqProofs [h1,h2,isIn]
 ·simp -implicitDefEqProofs [h1,isIn]
theorem AKI (D:Dn) (hC:OW (D Amd)):Aft (Body D AuG):=by
 intro r i n hl
 by_cases h1:0≤i
 ·by_cases h2:i<n
  ·simp -implicitDefEqProofs [h1,h2]
   refine Aa (hC r n hl) ?_
   simp -implicitDefEqProofs [isIn,h1,h2]
  ·simp -implicitDefEqProofs [h1,h2,isIn]
 ·simp -implicitDefEqProofs [h1,isIn]
abbrev Aid (R:Rel):Prop:=∀(w:World) (i:Int),w.ends.length≤4194304→R [arg (EF w),I i] [] (B (decide (SH i 0 ((w.ends.length:Int)-1)))) []
theorem ABa (D:Dn) (hI:SG (D Bz)):Aid (Body D VD):=by
 intro w i hl
 have hw:IntKind.i64.wrap ((w.ends.length:Int)-1)=(w.ends.length:Int)-1:=Ad (by omega) (by omega)
 simp -implicitDefEqProofs [hw]
 refine Aa (hI _ _ _) ?_
 simp -implicitDefEqProofs
def ADC (w:World) (i:Int):Bool:=decide (SH i 0 ((w.ends.length:Int)-1))&&isIn w.rollout i w.ends.length&&(match w.ends[i.toNat]? with | some e=>decide (w.rollout.version∈e.versions) | none=>false)
theorem AfP {w:World} (h:Ay w≤4194304) {j:Nat} (hj:j<w.ends.length):w.ends[j].versions.length≤maxLen:=by
 have:=size_at (f:=Ac) hj
 have e:Ac w.ends[j]=w.ends[j].versions.length+w.ends[j].tags.length+Bw Ct w.ends[j].path:=rfl
 unfold Ay at h
 unfold maxLen;omega
theorem Ro {w:World} (h:Ay w≤4194304):w.rollout.stages.length≤4194304:=by unfold Ay Bg at h;omega
abbrev TF (R:Rel):Prop:=∀(w:World) (i:Int),Ay w≤4194304→R [arg (EF w),I i] [] (B (ADC w i)) []
theorem Aiu (D:Dn) (hI:SG (D CB)) (hN:Aft (D AFo)) (hH:R6 (D Jl)):TF (Body D ALU):=by
 intro w i hsz
 have hl:=JQ hsz
 have hw:IntKind.i64.wrap ((w.ends.length:Int)-1)=(w.ends.length:Int)-1:=Ad (by omega) (by omega)
 simp -implicitDefEqProofs [hw]
 refine Aa (hI _ _ _) ?_
 by_cases h1:SH i 0 ((w.ends.length:Int)-1)
 rotate_left
 ·simp -implicitDefEqProofs [h1,ADC]
 simp -implicitDefEqProofs [h1]
 refine Aa (hN w.rollout _ _ (Ro hsz)) ?_
 by_cases h2:isIn w.rollout i w.ends.length=true
 rotate_left
 ·simp -implicitDefEqProofs [h2,ADC]
 obtain⟨j,rfl⟩:∃j:Nat,i=j:=⟨i.toNat,by omega⟩
 have hj:j<w.ends.length:=by omega
 simp -implicitDefEqProofs [h2,hj]
 refine Aa (hH _ _ (AfP hsz hj)) ?_
 simp -implicitDefEqProofs [ADC,h1,h2,hj]
theorem AJ3 (D:Dn) (hE:Aid (D Aph)) (hN:Aft (D AFv)) (hH:R6 (D Bn)):TF (Body D AjH):=by
 intro w i hsz
 have hl:=JQ hsz
 simp -implicitDefEqProofs
 refine Aa (hE w i hl) ?_
 by_cases h1:SH i 0 ((w.ends.length:Int)-1)
 rotate_left
 ·simp -implicitDefEqProofs [h1,ADC]
 simp -implicitDefEqProofs [h1]
 refine Aa (hN w.rollout _ _ (Ro hsz)) ?_
 by_cases h2:isIn w.rollout i w.ends.length=true
 rotate_left
 ·simp -implicitDefEqProofs [h2,ADC]
 obtain⟨j,rfl⟩:∃j:Nat,i=j:=⟨i.toNat,by omega⟩
 have hj:j<w.ends.length:=by omega
 simp -implicitDefEqProofs [h2,hj]
 refine Aa (hH _ _ (AfP hsz hj)) ?_
 simp -implicitDefEqProofs [ADC,h1,h2,hj]
end Go.Eng.T
namespace Go.Eng.T
set_option maxRecDepth 20000
def Eg (w:World) (n:Int):World×Bool:=if SH n 1 100∧SH w.now 0 (10000-n)then({w with now:=w.now+n},true)else(w,false)
abbrev Qv (R:Rel):Prop:=∀(w:World) (n:Int),Ay w≤4194304→R [arg (EF w),I n] [] (.tup [.agg (EF (Eg w n).1),B (Eg w n).2]) []
theorem ANH (D:Dn) (hC:Ef (D ACA)) (hI:SG (D CB)):Qv (Body D ALS):=by
 intro w n h
 simp -implicitDefEqProofs
 refine Aa (hC w h) ?_
 simp -implicitDefEqProofs
 refine Aa (hI _ _ _) ?_
 by_cases h1:SH n 1 100
 rotate_left
 ·have e:Eg w n=(w,false):=by unfold Eg;rw[if_neg (by omega)]
  simp -implicitDefEqProofs [h1,e]
 have hw:IntKind.i64.wrap (10000-n)=10000-n:=Ad (by omega) (by omega)
 simp -implicitDefEqProofs [h1,hw]
 refine Aa (hI _ _ _) ?_
 by_cases h2:SH w.now 0 (10000-n)
 rotate_left
 ·have e:Eg w n=(w,false):=by unfold Eg;rw[if_neg (by omega)]
  simp -implicitDefEqProofs [h2,e]
 have hw2:IntKind.i64.wrap (w.now+n)=w.now+n:=Ad (by omega) (by omega)
 have e:Eg w n=({w with now:=w.now+n},true):=by unfold Eg;rw[if_pos (by omega)]
 simp -implicitDefEqProofs [h2,e,hw2]
theorem AJT (D:Dn) (hC:Ef (D AyU)) (hI:SG (D Bz)):Qv (Body D Ahb):=by
 intro w n h
 simp -implicitDefEqProofs
 refine Aa (hC w h) ?_
 simp -implicitDefEqProofs
 refine Aa (hI _ _ _) ?_
 by_cases h1:SH n 1 100
 rotate_left
 ·have e:Eg w n=(w,false):=by unfold Eg;rw[if_neg (by omega)]
  simp -implicitDefEqProofs [h1,e]
 have hw:IntKind.i64.wrap (10000-n)=10000-n:=Ad (by omega) (by omega)
 by_cases h3:w.now<0
 ·have e:Eg w n=(w,false):=by unfold Eg;rw[if_neg (by omega)]
  simp -implicitDefEqProofs [h1,hw,h3,e]
 by_cases h2:10000-n<w.now
 ·have e:Eg w n=(w,false):=by unfold Eg;rw[if_neg (by omega)]
  simp -implicitDefEqProofs [h1,hw,h3,h2,e]
 have hw2:IntKind.i64.wrap (w.now+n)=w.now+n:=Ad (by omega) (by omega)
 have e:Eg w n=({w with now:=w.now+n},true):=by unfold Eg;rw[if_pos (by omega)]
 simp -implicitDefEqProofs [h1,hw,h3,h2,e,hw2]
def AMj (w:World) (i:Nat):World:=match w.ends[i]? with
 | some x=> {w with ends:=w.ends.set i ⟨x.versions,x.tags,[],x.cls⟩}
 | none=>w
def Dp (w:World) (i:Int):World×Bool:=
 if 0≤i then(match w.ends[i.toNat]? with
  | some x=>if x.path=[]then(w,false)else(AMj w i.toNat,true)
  | none=>(w,false))else(w,false)
abbrev NA (R:Rel):Prop:=∀(w:World) (i:Int),Ay w≤4194304→R [arg (EF w),I i] [] (.tup [.agg (EF (Dp w i).1),B (Dp w i).2]) []
theorem Adf {w:World} {i:Int} (h:¬SH i 0 ((w.ends.length:Int)-1)):Dp w i=(w,false):=by
 unfold Dp
 by_cases h0:0≤i
 ·rw[if_pos h0,List.getElem?_eq_none (by omega)]
 ·rw[if_neg h0]
theorem ANt (D:Dn) (hC:Ef (D ACA)) (hI:SG (D CB)):NA (Body D ALH):=by
 intro w i h
 have hl:=JQ h
 have hw:IntKind.i64.wrap ((w.ends.length:Int)-1)=(w.ends.length:Int)-1:=Ad (by omega) (by omega)
 simp -implicitDefEqProofs
 refine Aa (hC w h) ?_
 simp -implicitDefEqProofs [hw]
 refine Aa (hI _ _ _) ?_
 by_cases h1:SH i 0 ((w.ends.length:Int)-1)
 rotate_left
 ·simp -implicitDefEqProofs [h1,Adf h1]
 obtain⟨j,rfl⟩:∃j:Nat,i=j:=⟨i.toNat,by omega⟩
 have hj:j<w.ends.length:=by omega
 by_cases h2:w.ends[j].path=[]
 ·have e:Dp w j=(w,false):=by unfold Dp;rw[if_pos (by omega)];simp[hj,h2]
  simp -implicitDefEqProofs [h1,h2,hj,e]
 ·have e:Dp w j=({w with ends:=w.ends.set j ⟨w.ends[j].versions,w.ends[j].tags,[],w.ends[j].cls⟩},true):=by unfold Dp;rw[if_pos (by omega)];simp[hj,h2,AMj]
  have hf:j*4+2<w.ends.length*4:=by omega
  have hs:(w.ends.flatMap Ak).set (j*4+2) (.sl 0 4 0 [])=(w.ends.set j ⟨w.ends[j].versions,w.ends[j].tags,[],w.ends[j].cls⟩).flatMap Ak:=ADs hj [] rfl
  simp -implicitDefEqProofs [h1,h2,hj,e,hf,hs]
theorem AJA (D:Dn) (hC:Ef (D AyU)) (hE:Aid (D Aph)):NA (Body D AbY):=by
 intro w i h
 have hl:=JQ h
 simp -implicitDefEqProofs
 refine Aa (hC w h) ?_
 simp -implicitDefEqProofs
 refine Aa (hE w i hl) ?_
 by_cases h1:SH i 0 ((w.ends.length:Int)-1)
 rotate_left
 ·simp -implicitDefEqProofs [h1,Adf h1]
 obtain⟨j,rfl⟩:∃j:Nat,i=j:=⟨i.toNat,by omega⟩
 have hj:j<w.ends.length:=by omega
 by_cases h2:w.ends[j].path=[]
 ·have e:Dp w j=(w,false):=by unfold Dp;rw[if_pos (by omega)];simp[hj,h2]
  simp -implicitDefEqProofs [h1,h2,hj,e]
 ·have e:Dp w j=({w with ends:=w.ends.set j ⟨w.ends[j].versions,w.ends[j].tags,[],w.ends[j].cls⟩},true):=by unfold Dp;rw[if_pos (by omega)];simp[hj,h2,AMj]
  have hf:j*4+2<w.ends.length*4:=by omega
  have hs:(w.ends.flatMap Ak).set (j*4+2) (.sl 0 4 0 [])=(w.ends.set j ⟨w.ends[j].versions,w.ends[j].tags,[],w.ends[j].cls⟩).flatMap Ak:=ADs hj [] rfl
  simp -implicitDefEqProofs [h1,h2,hj,e,hf,hs]
theorem AC5 {α:Type} {f:α→Nat}:∀ {xs:List α} {j:Nat} (h:j<xs.length) (y:α),((xs.set j y).map f).sum+f xs[j]=(xs.map f).sum+f y
 | [],j,h,_=>by simp at h
 | x::r,0,h,y=>by simp;omega
 | x::r,j+1,h,y=>by
  have:=AC5 (f:=f) (xs:=r) (j:=j) (by simpa using h) y
  simp at *
  omega
theorem size_set {α:Type} {f:α→Nat} {xs:List α} {j:Nat} (h:j<xs.length) (y:α):Bw f (xs.set j y)+f xs[j]=Bw f xs+f y:=by
 have:=AC5 (f:=f) h y
 unfold Bw;simp only[List.length_set];omega
end Go.Eng.T
namespace Go.Eng.T
set_option maxRecDepth 20000
theorem Sw {xs:List Int} {lo hi:Int} {j:Nat} (h:j<xs.length):allIn (xs.take (j+1)) lo hi=(allIn (xs.take j) lo hi&&decide (Q5 xs[j] lo hi)):=by
 have e:xs.take (j+1)=xs.take j++ [xs[j]]:=by simp
 unfold allIn
 rw[e,List.all_append];simp
theorem AqU {xs:List Int} {lo hi:Int} {j:Nat} (h:j<xs.length) (hn:¬Q5 xs[j] lo hi):allIn xs lo hi=false:=by
 unfold allIn
 rw[List.all_eq_false]
 exact⟨xs[j],List.getElem_mem h,by simp[hn]⟩
theorem Ae1 {xs:List Int} {lo hi:Int} {j:Nat} (h:xs.length≤j) (ha:allIn (xs.take j) lo hi=true):allIn xs lo hi=true:=by rwa [List.take_of_length_le h]at ha
abbrev Yr (R:Rel):Prop:=∀xs:List Int,xs.length≤maxLen→R [.sl 1 1 xs.length (ints xs)] [] (B (allIn xs 0 255)) []
theorem ACc (D:Dn) (hI:SG (D CB)):Yr (Body D VG):=by
 intro xs hl
 unfold maxLen at hl
 simp -implicitDefEqProofs
 refine Ae (fun k s=>∃j,j+k=xs.length∧allIn (xs.take j) 0 255=true∧s=⟨[.sl 1 1 xs.length (ints xs),.undef,.sc (.int .i64 j),.undef,.undef],[]⟩) ?_ xs.length _ ⟨0,by simp,by simp[allIn],by simp⟩
 intro k s ⟨j,hj,hp,hs⟩
 subst hs
 by_cases hjn:j<xs.length
 ·have hw:IntKind.i64.wrap ((j:Int)+1)=(j+1:Nat):=by rw[Ad (by omega) (by omega)];simp
  simp -implicitDefEqProofs [hjn]
  refine Aa (hI _ _ _) ?_
  by_cases h1:Q5 xs[j] 0 255
  ·simp -implicitDefEqProofs [h1]
   exact⟨k-1,by omega,j+1,by omega,by rw[Sw hjn,hp];simp[h1],by simp[hw]⟩
  ·simp -implicitDefEqProofs [h1,AqU hjn h1]
 ·simp -implicitDefEqProofs [hjn,Ae1 (by omega) hp]
def Hz (b:Gu):Bool:=decide (Q5 b.limit 0 9)&&decide (b.drops.length≤6)&&decide (b.strips.length≤6)&&allIn b.drops 0 255&&allIn b.strips 0 255
abbrev RQ (R:Rel):Prop:=∀b:Gu,Hw b→R [arg (CF b)] [] (B (Hz b)) []
theorem AB1 (D:Dn) (hI:SG (D CB)) (hB:Yr (D Vw)):RQ (Body D Xo):=by
 intro b hl
 simp -implicitDefEqProofs
 refine Aa (hI _ _ _) ?_
 by_cases h1:Q5 b.limit 0 9
 rotate_left
 ·simp -implicitDefEqProofs [h1,Hz]
 by_cases h2:b.drops.length≤6
 rotate_left
 ·have h2':¬(b.drops.length:Int)≤6:=by omega
  simp -implicitDefEqProofs [h1,h2',h2,Hz]
 have h2':(b.drops.length:Int)≤6:=by omega
 by_cases h3:b.strips.length≤6
 rotate_left
 ·have h3':¬(b.strips.length:Int)≤6:=by omega
  simp -implicitDefEqProofs [h1,h2',h3',h3,Hz]
 have h3':(b.strips.length:Int)≤6:=by omega
 simp -implicitDefEqProofs [h1,h2',h3']
 refine Aa (hB _ hl.1) ?_
 by_cases h4:allIn b.drops 0 255=true
 rotate_left
 ·simp -implicitDefEqProofs [h4,Hz]
 simp -implicitDefEqProofs [h4]
 refine Aa (hB _ hl.2) ?_
 simp -implicitDefEqProofs [Hz,h1,h2,h3,h4]
theorem ABX (D:Dn) (hI:SG (D Bz)) (hB:Jv (D Kb)):RQ (Body D Ya):=by
 intro b hl
 simp -implicitDefEqProofs
 refine Aa (hI _ _ _) ?_
 by_cases h1:Q5 b.limit 0 9
 rotate_left
 ·simp -implicitDefEqProofs [h1,Hz]
 by_cases h2:b.drops.length≤6
 rotate_left
 ·have h2':¬(b.drops.length:Int)≤6:=by omega
  simp -implicitDefEqProofs [h1,h2',h2,Hz]
 have h2':(b.drops.length:Int)≤6:=by omega
 by_cases h3:b.strips.length≤6
 rotate_left
 ·have h3':¬(b.strips.length:Int)≤6:=by omega
  simp -implicitDefEqProofs [h1,h2',h3',h3,Hz]
 have h3':(b.strips.length:Int)≤6:=by omega
 simp -implicitDefEqProofs [h1,h2',h3']
 refine Aa (hB _ _ _ hl.1) ?_
 by_cases h4:allIn b.drops 0 255=true
 rotate_left
 ·simp -implicitDefEqProofs [h4,Hz]
 simp -implicitDefEqProofs [h4]
 refine Aa (hB _ _ _ hl.2) ?_
 simp -implicitDefEqProofs [Hz,h1,h2,h3,h4]
def AK7 (w:World) (i:Int) (b:Gu):World×Bool:=
 if 0≤i then(match w.ends[i.toNat]? with
  | some x=>if Hz b=true∧x.path.length<4 then({w with ends:=w.ends.set i.toNat ⟨x.versions,x.tags,x.path++ [b],x.cls⟩},true)else(w,false)
  | none=>(w,false))else(w,false)
abbrev Uk (R:Rel):Prop:=∀(w:World) (i:Int) (b:Gu),Ay w≤4194304→Ct b≤4194304→R [arg (EF w),I i,arg (CF b)] [] (.tup [.agg (EF (AK7 w i b).1),B (AK7 w i b).2]) []
theorem Agg {w:World} {i:Int} {b:Gu} (h:¬SH i 0 ((w.ends.length:Int)-1)):AK7 w i b=(w,false):=by
 unfold AK7
 by_cases h0:0≤i
 ·rw[if_pos h0,List.getElem?_eq_none (by omega)]
 ·rw[if_neg h0]
theorem ANE {b:Gu} (h:Ct b≤4194304):Hw b:=by unfold Ct at h;unfold Hw Jr maxLen;omega
theorem ANO (D:Dn) (hC:Ef (D ACA)) (hI:SG (D CB)) (hB:RQ (D XP)):Uk (Body D MJ):=by
 intro w i b h hb
 have hl:=JQ h
 have hw:IntKind.i64.wrap ((w.ends.length:Int)-1)=(w.ends.length:Int)-1:=Ad (by omega) (by omega)
 simp -implicitDefEqProofs
 refine Aa (hC w h) ?_
 simp -implicitDefEqProofs [hw]
 refine Aa (hI _ _ _) ?_
 by_cases h1:SH i 0 ((w.ends.length:Int)-1)
 rotate_left
 ·simp -implicitDefEqProofs [h1,Agg h1]
 obtain⟨j,rfl⟩:∃j:Nat,i=j:=⟨i.toNat,by omega⟩
 have hj:j<w.ends.length:=by omega
 simp -implicitDefEqProofs [h1]
 refine Aa (hB b (ANE hb)) ?_
 by_cases h2:Hz b=true
 rotate_left
 ·have e:AK7 w j b=(w,false):=by unfold AK7;rw[if_pos (by omega)];simp[hj,h2]
  simp -implicitDefEqProofs [h2,e]
 by_cases h3:w.ends[j].path.length<4
 rotate_left
 ·have e:AK7 w j b=(w,false):=by unfold AK7;rw[if_pos (by omega)];simp[hj,h3]
  have h3':(4:Int)≤w.ends[j].path.length:=by omega
  simp -implicitDefEqProofs [h2,hj,h3',e]
 have e:AK7 w j b=({w with ends:=w.ends.set j ⟨w.ends[j].versions,w.ends[j].tags,w.ends[j].path++ [b],w.ends[j].cls⟩},true):=by unfold AK7;rw[if_pos (by omega)];simp[hj,h2,h3]
 have h3':¬(4:Int)≤w.ends[j].path.length:=by omega
 have hz:Ct b=b.drops.length+b.strips.length:=rfl
 have b1:b.drops.length*8≤1099511627776:=by omega
 have b2:b.strips.length*8≤1099511627776:=by omega
 have b3:(w.ends[j].path.length+1)*64≤1099511627776:=by omega
 have hf:j*4+2<w.ends.length*4:=by omega
 simp -implicitDefEqProofs [h2,hj,h3',e,hf,b1,b2,b3]
 have hs:=ADs hj (w.ends[j].path++ [b]) (n:=w.ends[j].path.length+1) (by simp)
 simpa[List.flatMap_append]using hs
theorem AJ7 (D:Dn) (hC:Ef (D AyU)) (hE:Aid (D Aph)) (hB:RQ (D AfA)) (hP:ACi (D Az7)):Uk (Body D AjD):=by
 intro w i b h hb
 have hl:=JQ h
 simp -implicitDefEqProofs
 refine Aa (hC w h) ?_
 simp -implicitDefEqProofs
 refine Aa (hE w i hl) ?_
 by_cases h1:SH i 0 ((w.ends.length:Int)-1)
 rotate_left
 ·simp -implicitDefEqProofs [h1,Agg h1]
 obtain⟨j,rfl⟩:∃j:Nat,i=j:=⟨i.toNat,by omega⟩
 have hj:j<w.ends.length:=by omega
 simp -implicitDefEqProofs [h1]
 refine Aa (hB b (ANE hb)) ?_
 by_cases h2:Hz b=true
 rotate_left
 ·have e:AK7 w j b=(w,false):=by unfold AK7;rw[if_pos (by omega)];simp[hj,h2]
  simp -implicitDefEqProofs [h2,e]
 by_cases h3:w.ends[j].path.length<4
 rotate_left
 ·have e:AK7 w j b=(w,false):=by unfold AK7;rw[if_pos (by omega)];simp[hj,h3]
  have h3':(4:Int)≤w.ends[j].path.length:=by omega
  simp -implicitDefEqProofs [h2,hj,h3',e]
 have e:AK7 w j b=({w with ends:=w.ends.set j ⟨w.ends[j].versions,w.ends[j].tags,w.ends[j].path++ [b],w.ends[j].cls⟩},true):=by unfold AK7;rw[if_pos (by omega)];simp[hj,h2,h3]
 have h3':¬(4:Int)≤w.ends[j].path.length:=by omega
 have hz:Ct b=b.drops.length+b.strips.length:=rfl
 have b3:(w.ends[j].path.length+1)*64≤1099511627776:=by omega
 have hf:j*4+2<w.ends.length*4:=by omega
 simp -implicitDefEqProofs [h2,hj,h3',e,hf]
 have hb6:Ct b≤12:=by
  have:=h2
  simp only[Hz,Bool.and_eq_true,decide_eq_true_eq]at this
  unfold Ct;omega
 refine Aa (hP [b] (by unfold Bw;simp;omega)) ?_
 simp -implicitDefEqProofs [h2,hj,h3',e,hf,b3]
 have hs:=ADs hj (w.ends[j].path++ [b]) (n:=w.ends[j].path.length+1) (by simp)
 simpa[List.flatMap_append]using hs
end Go.Eng.T
namespace Go.Eng.T
set_option maxRecDepth 20000
abbrev OH (D:Dn) (R:Rel):Prop:=∀(xs:List Gu) (g:Nat) (caps:List V) (p:Gu→Bool),xs.length≤maxLen→Ke caps→(∀(j:Nat) (h:j<xs.length),D g (arg (CF xs[j])::caps) [] (B (p xs[j])) [])→R [.sl 1 4 xs.length (xs.flatMap CF),.fn g caps] [] (I (Gs p xs 0)) []
theorem Als (D:Dn):OH D (Body D Dv):=by
 intro xs g caps p hl hc hp
 unfold maxLen at hl
 simp -implicitDefEqProofs
 refine Ae (fun k s=>∃j,j+k=xs.length∧Gs p xs 0=Gs p (xs.drop j) j∧s=⟨[.sl 1 4 xs.length (xs.flatMap CF),.fn g caps,.undef,.undef,.sc (.int .i64 xs.length),.sc (.int .i64 j),.undef,.undef],[]⟩) ?_ xs.length _ ⟨0,by simp,by simp,by simp⟩
 intro k s ⟨j,hj,hi,hs⟩
 subst hs
 by_cases hjn:j<xs.length
 ·have hw:IntKind.i64.wrap ((j:Int)+1)=(j+1:Nat):=by rw[Ad (by omega) (by omega)];simp
  rw[Nz hjn]at hi
  simp -implicitDefEqProofs [hjn,hc.1,hc.2.1]
  refine Aa (hp j hjn) ?_
  by_cases he:p xs[j]=true
  ·rw[if_pos he]at hi
   simp -implicitDefEqProofs [he,hi]
  ·rw[if_neg he]at hi
   simp -implicitDefEqProofs [he]
   exact⟨k-1,by omega,j+1,by omega,by simpa using hi,by simp[hw]⟩
 ·rw[Sm (by omega)]at hi
  simp -implicitDefEqProofs [hjn,hi]
abbrev H9 (D:Dn) (R:Rel):Prop:=∀(xs:List Gu) (g:Nat) (caps:List V) (p:Gu→Bool),xs.length≤maxLen→Ke caps→(∀(j:Nat) (h:j<xs.length),D g (arg (CF xs[j])::caps) [] (B (p xs[j])) [])→R [.sl 1 4 xs.length (xs.flatMap CF),.fn g caps] [] (B (xs.any p)) []
theorem AcB (D:Dn) (hI:OH D (D JN)):H9 D (Body D C8):=by
 intro xs g caps p hl hc hp
 simp -implicitDefEqProofs [hc.2.2]
 refine Aa (hI xs g caps p hl hc hp) ?_
 have e:decide (0≤Gs p xs 0)=xs.any p:=by rw[Bool.eq_iff_iff];simp only[decide_eq_true_eq];rw[QN (by omega)]
 simp -implicitDefEqProofs [e]
end Go.Eng.T
namespace Go.Eng.T
set_option maxRecDepth 20000
end Go.Eng.T
namespace Go.Eng.T
set_option maxRecDepth 20000
def Am (t:Int):Bool:=decide (Q5 t 0 255)&&decide (t.tmod 16=10)
abbrev EW (R:Rel):Prop:=∀t:Int,R [I t] [] (B (Am t)) []
theorem AlF (D:Dn) (hI:SG (D CB)):EW (Body D OC):=by
 intro t
 simp -implicitDefEqProofs
 refine Aa (hI _ _ _) ?_
 by_cases h:Q5 t 0 255
 ·simp -implicitDefEqProofs [h,Am,WT]
 ·simp -implicitDefEqProofs [h,Am]
theorem Ama (D:Dn) (hI:SG (D Bz)):EW (Body D NG):=by
 intro t
 simp -implicitDefEqProofs
 refine Aa (hI _ _ _) ?_
 by_cases h:Q5 t 0 255
 ·simp -implicitDefEqProofs [h,Am,WT]
 ·simp -implicitDefEqProofs [h,Am]
abbrev F9 (R:Rel):Prop:=∀xs:List Int,xs.length≤maxLen→R [.sl 1 1 xs.length (ints xs)] [] (B (xs.any Am)) []
theorem Ph {α:Type} {p:α→Bool} {xs:List α} {j:Nat} (h:j<xs.length) (hp:p xs[j]=true):xs.any p=true:=List.any_eq_true.2 ⟨_,List.getElem_mem h,hp⟩
theorem X5 {α:Type} {p:α→Bool} {xs:List α} {j:Nat} (h:j<xs.length):(xs.take (j+1)).any p=((xs.take j).any p||p xs[j]):=by
 have e:xs.take (j+1)=xs.take j++ [xs[j]]:=by simp
 rw[e,List.any_append];simp
theorem any_none {α:Type} {p:α→Bool} {xs:List α} {j:Nat} (h:xs.length≤j) (ha:(xs.take j).any p=false):xs.any p=false:=by rwa [List.take_of_length_le h]at ha
theorem AlS (D:Dn) (hR:EW (D UH)) (hC:KF D (D HV)):F9 (Body D ND):=by
 intro xs hl
 simp -implicitDefEqProofs
 refine Aa (hC xs 279 _ Am hl ER (fun x=>hR x)) ?_
 generalize xs.any Am=b
 simp -implicitDefEqProofs
end Go.Eng.T
namespace Go.Eng.T
set_option maxRecDepth 20000
abbrev KP (D:Dn) (R:Rel):Prop:=∀(xs:List Ext) (g:Nat) (caps:List V) (p:Ext→Bool),xs.length≤maxLen→Ke caps→(∀(j:Nat) (h:j<xs.length),D g (arg (Br xs[j])::caps) [] (B (p xs[j])) [])→R [.sl 1 2 xs.length (xs.flatMap Br),.fn g caps] [] (I (Gs p xs 0)) []
theorem AjN (D:Dn):KP D (Body D Dy):=by
 intro xs g caps p hl hc hp
 unfold maxLen at hl
 simp -implicitDefEqProofs
 refine Ae (fun k s=>∃j,j+k=xs.length∧Gs p xs 0=Gs p (xs.drop j) j∧s=⟨[.sl 1 2 xs.length (xs.flatMap Br),.fn g caps,.undef,.undef,.sc (.int .i64 xs.length),.sc (.int .i64 j),.undef,.undef],[]⟩) ?_ xs.length _ ⟨0,by simp,by simp,by simp⟩
 intro k s ⟨j,hj,hi,hs⟩
 subst hs
 by_cases hjn:j<xs.length
 ·have hw:IntKind.i64.wrap ((j:Int)+1)=(j+1:Nat):=by rw[Ad (by omega) (by omega)];simp
  rw[Nz hjn]at hi
  simp -implicitDefEqProofs [hjn,hc.1,hc.2.1]
  refine Aa (hp j hjn) ?_
  by_cases he:p xs[j]=true
  ·rw[if_pos he]at hi
   simp -implicitDefEqProofs [he,hi]
  ·rw[if_neg he]at hi
   simp -implicitDefEqProofs [he]
   exact⟨k-1,by omega,j+1,by omega,by simpa using hi,by simp[hw]⟩
 ·rw[Sm (by omega)]at hi
  simp -implicitDefEqProofs [hjn,hi]
abbrev J6 (D:Dn) (R:Rel):Prop:=∀(xs:List Ext) (g:Nat) (caps:List V) (p:Ext→Bool),xs.length≤maxLen→Ke caps→(∀(j:Nat) (h:j<xs.length),D g (arg (Br xs[j])::caps) [] (B (p xs[j])) [])→R [.sl 1 2 xs.length (xs.flatMap Br),.fn g caps] [] (B (xs.any p)) []
theorem Aci (D:Dn) (hI:KP D (D FD)):J6 D (Body D CZ):=by
 intro xs g caps p hl hc hp
 simp -implicitDefEqProofs [hc.2.2]
 refine Aa (hI xs g caps p hl hc hp) ?_
 have e:decide (0≤Gs p xs 0)=xs.any p:=by rw[Bool.eq_iff_iff];simp only[decide_eq_true_eq];rw[QN (by omega)]
 simp -implicitDefEqProofs [e]
end Go.Eng.T
namespace Go.Eng.T
set_option maxRecDepth 20000
def GR (t:Int) (x:Ext):Bool:=decide (x.tag=t)
def Js (l:List Ext) (t:Int):Int:=Gs (GR t) l 0
abbrev Qn (R:Rel):Prop:=∀(l:List Ext) (t:Int),l.length≤maxLen→R [.sl 1 2 l.length (l.flatMap Br),I t] [] (I (Js l t)) []
theorem ABd (D:Dn):Qn (Body D Xa):=by
 intro l t hl
 unfold maxLen at hl
 have hres:Js l t=Gs (GR t) l 0:=rfl
 rw[hres]
 simp -implicitDefEqProofs
 refine Ae (fun k s=>∃j,j+k=l.length∧Gs (GR t) l 0=Gs (GR t) (l.drop j) j∧s=⟨[.sl 1 2 l.length (l.flatMap Br),I t,.undef,I j,.undef,.undef],[]⟩) ?_ (l.length) _ ⟨0,by simp,by simp,by simp⟩
 intro k s ⟨j,hj,hi,hs⟩
 subst hs
 by_cases hjn:j<l.length
 ·have hw:IntKind.i64.wrap ((j:Int)+1)=(j+1:Nat):=by rw[Ad (by omega) (by omega)];simp
  rw[Nz hjn]at hi
  by_cases he:l[j].tag=t
  ·rw[if_pos (by simp[GR,he])]at hi
   simp -implicitDefEqProofs [hjn,he,hi]
  ·rw[if_neg (by simp[GR,he])]at hi
   simp -implicitDefEqProofs [hjn,he]
   exact⟨k-1,by omega,j+1,by omega,by simpa using hi,by simp[hw]⟩
 ·rw[Sm (by omega)]at hi
  simp -implicitDefEqProofs [hjn,hi]
abbrev Ah6 (R:Rel):Prop:=∀(x:Ext) (t:Int),R [arg (Br x),.rptr 1 [I t] 0] [] (B (GR t x)) []
theorem ABN (D:Dn):Ah6 (Body D TH):=by
 intro x t
 simp -implicitDefEqProofs [GR,WT]
theorem AAV (D:Dn) (h1:Ah6 (D Al0)) (hX:KP D (D FD)):Qn (Body D XQ):=by
 intro l t hl
 have hres:Js l t=Gs (GR t) l 0:=rfl
 rw[hres]
 simp -implicitDefEqProofs
 refine Aa (hX l 351 _ (GR t) hl (Aem ER) (fun j h=>h1 l[j] t)) ?_
 simp -implicitDefEqProofs
def Xd (x:Ext):Bool:=decide (Q5 x.tag 0 255)&&(decide (x.body.length≤4)&&allIn x.body 0 255)
def VU (l:List Ext) (i:Nat):Bool:=match l[i]? with
 | some x=>Xd x&& !(l.take i).any (GR x.tag)
 | none=>true
theorem Afk {l:List Ext} {i:Nat} (h:i<l.length):VU l i=(Xd l[i]&& !(l.take i).any (GR l[i].tag)):=by
 unfold VU
 rw[List.getElem?_eq_getElem h]
def EC (l:List Ext):Bool:=Nl (VU l) l.length&&decide (l.length≤6)
theorem Auq {α:Type} {p:α→Bool}:∀ {xs:List α} {i:Int},Gs p xs i= -1∨(i≤Gs p xs i∧Gs p xs i<i+xs.length)
 | [],i=> .inl rfl
 | x::r,i=>by
  by_cases hp:p x=true
  ·right;simp[Gs,hp];omega
  ·rcases Auq (p:=p) (xs:=r) (i:=i+1)with h | h
   ·left;simp[Gs,hp,h]
   ·right;simp[Gs,hp]at *;omega
theorem Awt {α:Type} {p:α→Bool}:∀ {xs:List α} {i:Int} {j:Nat},0≤i→(h:j<xs.length)→p xs[j]=true→(Gs p xs i<i+j↔(xs.take j).any p=true)
 | x::r,i,0,hi,h,hp=>by
  have:p x=true:=hp
  simp[Gs,this]
 | x::r,i,j+1,hi,h,hp=>by
  by_cases hx:p x=true
  ·simp[Gs,hx];omega
  ·have:=Awt (p:=p) (xs:=r) (i:=i+1) (j:=j) (by omega) (by simpa using h) (by simpa using hp)
   simp only[Gs,hx,List.take_succ_cons,List.any_cons,Bool.false_or]
   rw[←this]
   simp
   omega
theorem Aq2 {l:List Ext} {j:Nat} (h:j<l.length):(Js l l[j].tag<(j:Int))=((l.take j).any (GR l[j].tag)=true):=by
 have:=Awt (p:=GR l[j].tag) (i:=0) (by omega) h (by simp[GR])
 rw[Int.zero_add]at this
 exact propext this
theorem Ai8 {l:List Ext} {j:Nat} {t:Int}:(0≤Js (l.take j) t)=((l.take j).any (GR t)=true):=QN (by omega)
theorem Jz {l:List Ext} {j:Nat} (h:j<l.length) (hn:VU l j=false):EC l=false:=by
 unfold EC
 rw[AkG h hn];rfl
abbrev FV (R:Rel):Prop:=∀l:List Ext,Ub l→R [.sl 1 2 l.length (l.flatMap Br)] [] (B (EC l)) []
theorem Auf (D:Dn) (hI:SG (D CB)) (hB:Yr (D Vw)) (hX:Qn (D Tg)):FV (Body D TW):=by
 intro l hl
 have hll:=hl.1
 simp -implicitDefEqProofs
 refine Ae (fun k s=>∃j,j+k=l.length∧Nl (VU l) j=true∧s=⟨[.sl 1 2 l.length (l.flatMap Br),.undef,I j,.undef,.undef],[]⟩) ?_ (l.length) _ ⟨0,by simp,by simp,by simp⟩
 intro k s ⟨j,hj,hr,hs⟩
 subst hs
 by_cases hjn:j<l.length
 ·have hw:IntKind.i64.wrap ((j:Int)+1)=(j+1:Nat):=by rw[Ad (by omega) (by omega)];simp
  have hst:=IC (VU l) j
  have hq:=Afk hjn
  have hb:=Mr hl hjn
  rw[hr,Bool.true_and]at hst
  simp -implicitDefEqProofs [hjn]
  refine Aa (hI _ _ _) ?_
  by_cases h1:Q5 l[j].tag 0 255
  rotate_left
  ·have e:=Jz hjn (by rw[hq];simp[Xd,h1])
   simp -implicitDefEqProofs [h1,e]
  by_cases h2:l[j].body.length≤4
  rotate_left
  ·have e:=Jz hjn (by rw[hq];simp[Xd,h2])
   have h2':(4:Int)<l[j].body.length:=by omega
   simp -implicitDefEqProofs [hjn,h1,h2',e]
  have h2':¬(4:Int)<l[j].body.length:=by omega
  simp -implicitDefEqProofs [hjn,h1,h2']
  refine Aa (hB _ (by unfold maxLen;omega)) ?_
  by_cases h3:allIn l[j].body 0 255=true
  rotate_left
  ·have e:=Jz hjn (by rw[hq];simp[Xd,h3])
   simp -implicitDefEqProofs [hjn,h3,e]
  simp -implicitDefEqProofs [hjn,h3]
  refine Aa (hX l _ (by unfold maxLen;omega)) ?_
  by_cases h4:(l.take j).any (GR l[j].tag)=true
  ·have e:=Jz hjn (by rw[hq];simp only[h4];simp)
   have h4':Js l l[j].tag<(j:Int):=by rw[Aq2 hjn];exact h4
   simp -implicitDefEqProofs [hjn,h4',e]
  ·have h4':¬Js l l[j].tag<(j:Int):=by rw[Aq2 hjn];exact h4
   have h4f:(l.take j).any (GR l[j].tag)=false:=by simpa using h4
   simp -implicitDefEqProofs [hjn,h4']
   exact⟨k-1,by omega,j+1,by omega,by rw[hst,hq,h4f];simp[Xd,h1,h2,h3],by simp[hw]⟩
 ·obtain rfl:j=l.length:=by omega
  have e:EC l=decide (l.length≤6):=by unfold EC;rw[hr];rfl
  by_cases h5:l.length≤6
  ·have h5':(l.length:Int)≤6:=by omega
   simp -implicitDefEqProofs [e,h5,h5']
  ·have h5':¬(l.length:Int)≤6:=by omega
   simp -implicitDefEqProofs [e,h5,h5']
theorem Avu (D:Dn) (hI:SG (D Bz)) (hX:Qn (D AfC)) (hN:Jv (D Kb)):FV (Body D Uh):=by
 intro l hl
 have hll:=hl.1
 simp -implicitDefEqProofs
 refine Ae (fun k s=>∃j o0,j+k=l.length∧Nl (VU l) j=true∧s=⟨[.sl 1 2 l.length (l.flatMap Br),.undef,.undef,.undef,.sl 1 2 l.length (l.flatMap Br),I l.length,I j,.undef,.undef],[o0]⟩) ?_ (l.length) _ ⟨0,.free,by simp,by simp,by simp⟩
 intro k s ⟨j,o0,hj,hr,hs⟩
 subst hs
 by_cases hjn:j<l.length
 ·have hw:IntKind.i64.wrap ((j:Int)+1)=(j+1:Nat):=by rw[Ad (by omega) (by omega)];simp
  have hst:=IC (VU l) j
  have hq:=Afk hjn
  have hb:=Mr hl hjn
  rw[hr,Bool.true_and]at hst
  simp -implicitDefEqProofs [hjn]
  refine Aa (hI _ _ _) ?_
  by_cases h1:Q5 l[j].tag 0 255
  rotate_left
  ·have e:=Jz hjn (by rw[hq];simp[Xd,h1])
   simp -implicitDefEqProofs [h1,e]
  have hjl:j≤l.length:=by omega
  have hmin:min j l.length=j:=by omega
  simp -implicitDefEqProofs [hjn,hjl,hmin,h1]
  have hxx:=hX (l.take j) l[j].tag (by simp;unfold maxLen;omega)
  rw[List.length_take,hmin]at hxx
  refine Aa (hxx) ?_
  by_cases h4:(l.take j).any (GR l[j].tag)=true
  ·have e:=Jz hjn (by rw[hq];simp only[h4];simp)
   have h4':0≤Js (l.take j) l[j].tag:=by rw[Ai8];exact h4
   simp -implicitDefEqProofs [hjn,h4',e]
  have h4':¬0≤Js (l.take j) l[j].tag:=by rw[Ai8];exact h4
  have h4f:(l.take j).any (GR l[j].tag)=false:=by simpa using h4
  by_cases h2:l[j].body.length≤4
  rotate_left
  ·have e:=Jz hjn (by rw[hq];simp[Xd,h2])
   have h2':(4:Int)<l[j].body.length:=by omega
   simp -implicitDefEqProofs [hjn,h4',h2',e]
  have h2':¬(4:Int)<l[j].body.length:=by omega
  simp -implicitDefEqProofs [hjn,h4',h2']
  refine Aa (hN _ _ _ (by unfold maxLen;omega)) ?_
  by_cases h3:allIn l[j].body 0 255=true
  rotate_left
  ·have e:=Jz hjn (by rw[hq];simp[Xd,h3])
   simp -implicitDefEqProofs [hjn,h3,e]
  simp -implicitDefEqProofs [hjn,h3]
  exact⟨k-1,by omega,j+1,by omega,by rw[hst,hq,h4f];simp[Xd,h1,h2,h3],by simp[hw]⟩
 ·obtain rfl:j=l.length:=by omega
  have e:EC l=decide (l.length≤6):=by unfold EC;rw[hr];rfl
  by_cases h5:l.length≤6
  ·have h5':(l.length:Int)≤6:=by omega
   simp -implicitDefEqProofs [e,h5,h5']
  ·have h5':¬(l.length:Int)≤6:=by omega
   simp -implicitDefEqProofs [e,h5,h5']
def Aq (l:List Ext):List Int:=l.map (·.tag)
theorem Aoi {l:List Ext} {j:Nat} (h:j<l.length):Aq (l.take (j+1))=Aq (l.take j)++ [l[j].tag]:=by
 have e:l.take (j+1)=l.take j++ [l[j]]:=by simp
 unfold Aq
 rw[e,List.map_append];rfl
abbrev KV (R:Rel):Prop:=∀l:List Ext,l.length≤4194304→R [.sl 1 2 l.length (l.flatMap Br)] [] (.sl 0 1 (Aq l).length (ints (Aq l))) []
theorem Axa (D:Dn):KV (Body D Wy):=by
 intro l hl
 simp -implicitDefEqProofs
 refine Ae (fun k s=>∃j o1 o2,j+k=l.length∧s=⟨[.sl 1 2 l.length (l.flatMap Br),.undef,.arr 3,I j,.undef],[.free,o1,o2,.arr 1 0 (Aq (l.take j)).length (ints (Aq (l.take j)))]⟩) ?_ (l.length) _ ⟨0,.free,.free,by simp,by simp[Aq]⟩
 intro k s ⟨j,o1,o2,hj,hs⟩
 subst hs
 by_cases hjn:j<l.length
 ·have hw:IntKind.i64.wrap ((j:Int)+1)=(j+1:Nat):=by rw[Ad (by omega) (by omega)];simp
  have hst:=Aoi hjn
  have hlen:(Aq (l.take j)).length=j:=by simp[Aq];omega
  have hb:(j+1)*8≤1099511627776:=by omega
  simp -implicitDefEqProofs [hjn,hlen,hb]
  exact⟨k-1,by omega,j+1,by omega,by simp[hw],by rw[hst];simp[hlen],by rw[hst]⟩
 ·have e:l.take j=l:=List.take_of_length_le (by omega)
  simp -implicitDefEqProofs [hjn,e]
theorem Aw8 (D:Dn):KV (Body D VK):=by
 intro l hl
 simp -implicitDefEqProofs
 refine Ae (fun k s=>∃j v3 o1 o2 o3,j+k=l.length∧s=⟨[.undef,.undef,.arr 4,v3,.sl 1 2 l.length (l.flatMap Br),I l.length,I j,.undef],[.free,o1,o2,o3,.arr 1 0 (Aq (l.take j)).length (ints (Aq (l.take j)))]⟩) ?_ (l.length) _ ⟨0,.undef,.free,.free,.free,by simp,by simp[Aq]⟩
 intro k s ⟨j,v3,o1,o2,o3,hj,hs⟩
 subst hs
 by_cases hjn:j<l.length
 ·have hw:IntKind.i64.wrap ((j:Int)+1)=(j+1:Nat):=by rw[Ad (by omega) (by omega)];simp
  have hst:=Aoi hjn
  have hlen:(Aq (l.take j)).length=j:=by simp[Aq];omega
  have hb:(j+1)*8≤1099511627776:=by omega
  simp -implicitDefEqProofs [hjn,hlen,hb]
  exact⟨k-1,by omega,j+1,by omega,by simp[hw],by rw[hst];simp[hlen],by rw[hst]⟩
 ·have e:l.take j=l:=List.take_of_length_le (by omega)
  simp -implicitDefEqProofs [hjn,e]
end Go.Eng.T
namespace Go.Eng.T
set_option maxRecDepth 20000
def kept (p:Int→Bool) (l:List Ext):List Ext:=l.filter fun x=>p x.tag
theorem YK {p:Int→Bool} {l:List Ext} {j:Nat} (h:j<l.length):kept p (l.take (j+1))=kept p (l.take j)++(if p l[j].tag then [l[j]]else []):=Aaf (p:=fun x:Ext=>p x.tag) h
theorem UL {p:Int→Bool} {l:List Ext} {j:Nat} (h:l.length≤j):kept p (l.take j)=kept p l:=AdG h
theorem Vb {p:Int→Bool} {l:List Ext} {j:Nat}:(kept p (l.take j)).length≤j:=AdH
theorem UN {l:List Ext} (h:Ub l) (p:Int→Bool):Ub (kept p l):=Avo h _
theorem Q7 {p:Int→Bool} {l:List Ext} {j:Nat} (h:j<l.length) (hp:p l[j].tag=true):
 (kept p (l.take j)).flatMap Br++ [.sc (.int .i64 l[j].tag),.sl 0 1 l[j].body.length (ints l[j].body)]=(kept p (l.take (j+1))).flatMap Br:=by
 rw[YK h,if_pos hp,List.flatMap_append];simp
theorem I8 {p:Int→Bool} {l:List Ext} {j:Nat} (h:j<l.length) (hp:p l[j].tag=true):(kept p (l.take (j+1))).length=(kept p (l.take j)).length+1:=by
 rw[YK h,if_pos hp];simp
theorem UU {p:Int→Bool} {l:List Ext} {j:Nat} (h:j<l.length) (hp:¬p l[j].tag=true):kept p (l.take (j+1))=kept p (l.take j):=by
 rw[YK h,if_neg hp,List.append_nil]
def Aog (caps:List V):Prop:=∀k,caps.any (m1 k)=false
theorem Q0:Aog []:=fun _=>rfl
theorem Abf {fl:Nat} {cs:List V} {o:Nat} {r:List V} (h:Aog r):Aog (.rptr fl cs o::r):=fun k=>by
 have:=h k
 simp only[List.any_cons,this,m1,Bool.or_self]
theorem Q8 {k g:Nat} {caps:List V} (h:Aog caps):RU k (.fn g caps)= .fn g caps:=by
 have:=h k
 simp only[RU,m3,m2,this]
 rfl
theorem Xw {a b g:Nat} {caps:List V} (h:Aog caps):AbP a b (.fn g caps)= .fn g caps:=by
 have:=h a
 simp only[AbP,m3,m2,this]
 rfl
abbrev LP (D:Dn) (R:Rel):Prop:=∀(l:List Ext) (g:Nat) (caps:List V) (p:Int→Bool),Ub l→Ke caps→Aog caps→(∀t:Int,D g (I t::caps) [] (B (p t)) [])→
 R [.sl 1 2 l.length (l.flatMap Br),.fn g caps] [] (.sl 0 2 (kept p l).length ((kept p l).flatMap Br)) []
theorem AtG (D:Dn):LP D (Body D SA):=by
 intro l g caps p hl hc hno hp
 have hll:=hl.1
 simp -implicitDefEqProofs [↓Q8 hno,↓Xw hno]
 refine Ae (fun k s=>∃j v4 o1 o2 o3 o4 o5,j+k=l.length∧s=⟨[.undef,.fn g caps,.undef,.arr 6,v4,.sl 1 2 l.length (l.flatMap Br),I l.length,I j,.undef,.undef],[.free,o1,o2,o3,o4,o5,.arr 2 0 (kept p (l.take j)).length ((kept p (l.take j)).flatMap Br)]⟩) ?_ (l.length) _ ⟨0,.undef,.free,.free,.free,.free,.free,by simp,by simp[kept,↓Q8 hno,↓Xw hno]⟩
 intro k s ⟨j,v4,o1,o2,o3,o4,o5,hj,hs⟩
 subst hs
 by_cases hjn:j<l.length
 ·have hw:IntKind.i64.wrap ((j:Int)+1)=(j+1:Nat):=by rw[Ad (by omega) (by omega)];simp
  have hb:=Mr hl hjn
  have h1:l[j].body.length*8≤1099511627776:=by omega
  have hkl:=Vb (p:=p) (l:=l) (j:=j)
  have h2:((kept p (l.take j)).length+1)*32≤1099511627776:=by omega
  simp -implicitDefEqProofs [hjn,↓Q8 hno,↓Xw hno,hc.1,hc.2.1]
  refine Aa (hp l[j].tag) ?_
  by_cases he:p l[j].tag=true
  ·have hst:=Q7 hjn he
   have hsl:=I8 hjn he
   simp -implicitDefEqProofs [he,hjn,↓Q8 hno,↓Xw hno,h1,h2]
   exact⟨k-1,by omega,j+1,by omega,by simp[hw],by rw[hsl],by rw[←hst]⟩
  ·have hst:=UU hjn he
   simp -implicitDefEqProofs [he,↓Q8 hno,↓Xw hno]
   exact⟨k-1,by omega,j+1,by omega,by simp[hw],by rw[hst],by rw[hst]⟩
 ·have e:=UL (p:=p) (l:=l) (j:=j) (by omega)
  simp -implicitDefEqProofs [hjn,e]
abbrev Acx (R:Rel):Prop:=∀t:Int,R [I t] [] (B true) []
abbrev Wh (R:Rel):Prop:=∀t:Int,R [I t] [] (B (!Am t)) []
theorem Aro (D:Dn):Acx (Body D Nq):=by
 intro t
 simp -implicitDefEqProofs
theorem Aix (D:Dn) (hR:EW (D UH)):Wh (Body D Kq):=by
 intro t
 simp -implicitDefEqProofs
 refine Aa (hR t) ?_
 simp -implicitDefEqProofs
theorem AxE (l:List Ext):kept (fun _=>true) l=l:=by simp[kept]
abbrev OG (R:Rel):Prop:=∀l:List Ext,Ub l→R [.sl 1 2 l.length (l.flatMap Br)] [] (.sl 0 2 l.length (l.flatMap Br)) []
theorem AtJ (D:Dn) (h1:Acx (D UG)) (hK:LP D (D JF)):OG (Body D Sy):=by
 intro l hl
 simp -implicitDefEqProofs
 refine Aa (hK l UG [] (fun _=>true) hl ER Q0 (fun t=>h1 t)) ?_
 simp -implicitDefEqProofs [AxE]
def AaR (l:List Ext):List Ext:=kept (fun t=> !Am t) l
def KT (l:List Ext) (tags:List Int):List Ext:=kept (fun t=>decide (t∈tags)) l
abbrev GX (R:Rel):Prop:=∀l:List Ext,Ub l→R [.sl 1 2 l.length (l.flatMap Br)] [] (.sl 0 2 (AaR l).length ((AaR l).flatMap Br)) []
theorem Ak8 (D:Dn) (h1:Wh (D QE)) (hK:LP D (D JF)):GX (Body D MO):=by
 intro l hl
 simp -implicitDefEqProofs
 refine Aa (hK l QE [] (fun t=> !Am t) hl ER Q0 (fun t=>h1 t)) ?_
 simp -implicitDefEqProofs [AaR]
abbrev L8 (R:Rel):Prop:=∀(l:List Ext) (tags:List Int),Ub l→tags.length≤maxLen→R [.sl 1 2 l.length (l.flatMap Br),.sl 1 1 tags.length (ints tags)] [] (.sl 0 2 (KT l tags).length ((KT l tags).flatMap Br)) []
abbrev YS (R:Rel):Prop:=∀(t:Int) (tags:List Int),tags.length≤maxLen→R [I t,.rptr 1 [.sl 0 1 tags.length (ints tags)] 0] [] (B (decide (t∈tags))) []
theorem ZU {a:List Int} {r:List V} (h:Ke r):Ke (.rptr 1 [.sl 0 1 a.length (ints a)] 0::r):=Aas (fun H=>by simp) (fun H=>by simp) h
theorem Aum (D:Dn) (hH:R6 (D Bn)):YS (Body D PG):=by
 intro t tags hl
 simp -implicitDefEqProofs
 refine Aa (hH tags t hl) ?_
 simp -implicitDefEqProofs
theorem Aus (D:Dn) (h1:YS (D WH)) (hK:LP D (D JF)):L8 (Body D Uw):=by
 intro l tags hl ht
 simp -implicitDefEqProofs
 refine Aa (hK l WH _ (fun t=>decide (t∈tags)) hl (ZU ER) (Abf Q0) (fun t=>h1 t tags ht)) ?_
 simp -implicitDefEqProofs [KT]
theorem AtH (D:Dn) (hH:R6 (D Jl)):L8 (Body D TD):=by
 intro l tags hl ht
 have hll:=hl.1
 have hres:KT l tags=kept (fun t=>decide (t∈tags)) l:=rfl
 rw[hres]
 generalize hp:(fun t=>decide (t∈tags))=p
 simp -implicitDefEqProofs
 refine Ae (fun k s=>∃j o1 o2 o3 o4,j+k=l.length∧s=⟨[.sl 1 2 l.length (l.flatMap Br),.sl 1 1 tags.length (ints tags),.undef,.arr 5,I j,.undef,.undef],[.free,o1,o2,o3,o4,.arr 2 0 (kept p (l.take j)).length ((kept p (l.take j)).flatMap Br)]⟩) ?_ (l.length) _ ⟨0,.free,.free,.free,.free,by simp,by simp[kept]⟩
 intro k s ⟨j,o1,o2,o3,o4,hj,hs⟩
 subst hs
 by_cases hjn:j<l.length
 ·have hw:IntKind.i64.wrap ((j:Int)+1)=(j+1:Nat):=by rw[Ad (by omega) (by omega)];simp
  have hb:=Mr hl hjn
  have h1:l[j].body.length*8≤1099511627776:=by omega
  have hkl:=Vb (p:=p) (l:=l) (j:=j)
  have h2:((kept p (l.take j)).length+1)*32≤1099511627776:=by omega
  simp -implicitDefEqProofs [hjn]
  refine Aa (hH tags l[j].tag ht) ?_
  have hpe:decide (l[j].tag∈tags)=p l[j].tag:=by rw[←hp]
  rw[hpe]
  by_cases he:p l[j].tag=true
  ·have hst:=Q7 hjn he
   have hsl:=I8 hjn he
   simp -implicitDefEqProofs [he,hjn,h1,h2]
   exact⟨k-1,by omega,j+1,by omega,by simp[hw],by rw[hsl],by rw[←hst]⟩
  ·have hst:=UU hjn he
   simp -implicitDefEqProofs [he]
   exact⟨k-1,by omega,j+1,by omega,by simp[hw],by rw[hst],by rw[hst]⟩
 ·have e:=UL (p:=p) (l:=l) (j:=j) (by omega)
  simp -implicitDefEqProofs [hjn,e]
theorem Alg (D:Dn) (hR:EW (D J8)):GX (Body D Mh):=by
 intro l hl
 have hll:=hl.1
 have hres:AaR l=kept (fun t=> !Am t) l:=rfl
 rw[hres]
 generalize hp:(fun t=> !Am t)=p
 simp -implicitDefEqProofs
 refine Ae (fun k s=>∃j o1 o2 o3 o4,j+k=l.length∧s=⟨[.sl 1 2 l.length (l.flatMap Br),.undef,.arr 5,I j,.undef,.undef],[.free,o1,o2,o3,o4,.arr 2 0 (kept p (l.take j)).length ((kept p (l.take j)).flatMap Br)]⟩) ?_ (l.length) _ ⟨0,.free,.free,.free,.free,by simp,by simp[kept]⟩
 intro k s ⟨j,o1,o2,o3,o4,hj,hs⟩
 subst hs
 by_cases hjn:j<l.length
 ·have hw:IntKind.i64.wrap ((j:Int)+1)=(j+1:Nat):=by rw[Ad (by omega) (by omega)];simp
  have hb:=Mr hl hjn
  have h1:l[j].body.length*8≤1099511627776:=by omega
  have hkl:=Vb (p:=p) (l:=l) (j:=j)
  have h2:((kept p (l.take j)).length+1)*32≤1099511627776:=by omega
  simp -implicitDefEqProofs [hjn]
  refine Aa (hR l[j].tag) ?_
  have hpe:(!Am l[j].tag)=p l[j].tag:=by rw[←hp]
  by_cases he:p l[j].tag=true
  ·have hst:=Q7 hjn he
   have hsl:=I8 hjn he
   have he':Am l[j].tag=false:=by rw[he]at hpe;simpa using hpe
   simp -implicitDefEqProofs [he',hjn,h1,h2]
   exact⟨k-1,by omega,j+1,by omega,by simp[hw],by rw[hsl],by rw[←hst]⟩
  ·have hst:=UU hjn he
   have he':Am l[j].tag=true:=by simp at he;rw[he]at hpe;simpa using hpe
   simp -implicitDefEqProofs [he']
   exact⟨k-1,by omega,j+1,by omega,by simp[hw],by rw[hst],by rw[hst]⟩
 ·have e:=UL (p:=p) (l:=l) (j:=j) (by omega)
  simp -implicitDefEqProofs [hjn,e]
theorem Auy (l:List Ext):KT l (Aq l)=l:=by
 unfold KT kept
 rw[List.filter_eq_self]
 intro x hx
 simp only[decide_eq_true_eq]
 exact List.mem_map.2 ⟨x,hx,rfl⟩
theorem Nb (l:List Ext):(Aq l).length=l.length:=by simp[Aq]
theorem Aw7 (D:Dn) (hT:KV (D Acl)) (hK:L8 (D ZO)):OG (Body D Ud):=by
 intro l hl
 have hll:=hl.1
 simp -implicitDefEqProofs
 refine Aa (hT l hll) ?_
 simp -implicitDefEqProofs
 refine Aa (hK l (Aq l) hl (by rw[Nb];unfold maxLen;omega)) ?_
 simp -implicitDefEqProofs [Auy]
end Go.Eng.T
namespace Go.Eng.T
set_option maxRecDepth 20000
abbrev InV (a b c:Int):Prop:=b≤a∧a≤c
def K9 (xs:List Int) (j:Nat):Bool:=(List.range j).all fun i=>decide (InV (xs.getD i 0) 1 9)&&(decide (i=0)||decide (xs.getD (i-1) 0<xs.getD i 0))
theorem SK (xs:List Int) (j:Nat):K9 xs (j+1)=(K9 xs j&&(decide (InV (xs.getD j 0) 1 9)&&(decide (j=0)||decide (xs.getD (j-1) 0<xs.getD j 0)))):=by
 unfold K9
 rw[List.range_succ,List.all_append]
 simp
theorem YD {xs:List Int} {j:Nat} (h:j<xs.length) (hn:K9 xs (j+1)=false):K9 xs xs.length=false:=by
 have:∀n,K9 xs (j+1+n)=false:=by
  intro n
  induction n with
  | zero=>exact hn
  | succ n ih=>rw[show j+1+(n+1)=(j+1+n)+1 by omega,SK,ih];rfl
 have:=this (xs.length-(j+1))
 rwa [show j+1+(xs.length-(j+1))=xs.length by omega]at this
theorem Xm {xs:List Int} {j:Nat} (h:j<xs.length):xs.getD j 0=xs[j]:=by simp[h]
def A9 (xs:List Int):Bool:=K9 xs xs.length&&decide (0<xs.length)
abbrev BK (R:Rel):Prop:=∀xs:List Int,xs.length≤maxLen→R [.sl 1 1 xs.length (ints xs)] [] (B (A9 xs)) []
theorem Aj5 (D:Dn) (hI:SG (D CB)):BK (Body D MW):=by
 intro xs hl
 unfold maxLen at hl
 simp -implicitDefEqProofs
 refine Ae (fun k s=>∃j,j+k=xs.length∧K9 xs j=true∧s=⟨[.sl 1 1 xs.length (ints xs),.undef,.sc (.int .i64 j),.undef,.undef],[]⟩) ?_ xs.length _ ⟨0,by simp,by simp[K9],by simp⟩
 intro k s ⟨j,hj,hr,hs⟩
 subst hs
 by_cases hjn:j<xs.length
 ·have hw:IntKind.i64.wrap ((j:Int)+1)=(j+1:Nat):=by rw[Ad (by omega) (by omega)];simp
  have hst:=SK xs j
  rw[hr,Bool.true_and,Xm hjn]at hst
  simp -implicitDefEqProofs [hjn]
  refine Aa (hI _ _ _) ?_
  by_cases h1:InV xs[j] 1 9
  rotate_left
  ·have e:A9 xs=false:=by unfold A9;rw[YD hjn (by rw[hst];simp[h1])];rfl
   simp -implicitDefEqProofs [h1,e]
  by_cases h0:j=0
  ·subst h0
   simp -implicitDefEqProofs [h1]
   exact⟨k-1,by omega,1,by omega,by rw[hst];simp[h1],by simpa using hw⟩
  ·have hw2:IntKind.i64.wrap ((j:Int)-1)=((j-1:Nat):Int):=by rw[Ad (by omega) (by omega)];omega
   have h2:(0:Int)<j:=by omega
   have h2':0<j:=by omega
   have h3:j-1<xs.length:=by omega
   rw[Xm h3]at hst
   by_cases h4:xs[j-1]<xs[j]
   ·have h4':¬xs[j]≤xs[j-1]:=by omega
    simp -implicitDefEqProofs [h1,h2,h2',hw2,h3,hjn,h4']
    exact⟨k-1,by omega,j+1,by omega,by rw[hst];simp[h1,h0,h4],by simp[hw]⟩
   ·have e:A9 xs=false:=by unfold A9;rw[YD hjn (by rw[hst];simp[h1,h0,h4])];rfl
    have h4':xs[j]≤xs[j-1]:=by omega
    simp -implicitDefEqProofs [h1,h2,h2',hw2,h3,hjn,h4',e]
 ·obtain rfl:j=xs.length:=by omega
  have e:A9 xs=decide (0<xs.length):=by unfold A9;rw[hr];rfl
  by_cases h5:0<xs.length
  ·have h5':(0:Int)<xs.length:=by omega
   simp -implicitDefEqProofs [e,h5,h5']
  ·have h5':¬(0:Int)<xs.length:=by omega
   simp -implicitDefEqProofs [e,h5,h5']
theorem Alf (D:Dn) (hI:SG (D Bz)):BK (Body D Mx):=by
 intro xs hl
 unfold maxLen at hl
 simp -implicitDefEqProofs
 refine Ae (fun k s=>∃j v2 v3,j+k=xs.length∧K9 xs j=true∧s=⟨[.sl 1 1 xs.length (ints xs),.undef,v2,v3,.sl 1 1 xs.length (ints xs),.sc (.int .i64 xs.length),.sc (.int .i64 j),.undef,.undef],[]⟩) ?_ xs.length _ ⟨0,.undef,.undef,by simp,by simp[K9],by simp⟩
 intro k s ⟨j,v2,v3,hj,hr,hs⟩
 subst hs
 by_cases hjn:j<xs.length
 ·have hw:IntKind.i64.wrap ((j:Int)+1)=(j+1:Nat):=by rw[Ad (by omega) (by omega)];simp
  have hst:=SK xs j
  rw[hr,Bool.true_and,Xm hjn]at hst
  simp -implicitDefEqProofs [hjn]
  refine Aa (hI _ _ _) ?_
  by_cases h1:InV xs[j] 1 9
  rotate_left
  ·have e:A9 xs=false:=by unfold A9;rw[YD hjn (by rw[hst];simp[h1])];rfl
   simp -implicitDefEqProofs [h1,e]
  by_cases h0:j=0
  ·subst h0
   simp -implicitDefEqProofs [h1]
   exact⟨k-1,by omega,1,by omega,by rw[hst];simp[h1],by simpa using hw⟩
  ·have hw2:IntKind.i64.wrap ((j:Int)-1)=((j-1:Nat):Int):=by rw[Ad (by omega) (by omega)];omega
   have h2:(0:Int)<j:=by omega
   have h2':0<j:=by omega
   have h3:j-1<xs.length:=by omega
   rw[Xm h3]at hst
   by_cases h4:xs[j-1]<xs[j]
   ·have h4':¬xs[j]≤xs[j-1]:=by omega
    simp -implicitDefEqProofs [h1,h2,h2',hw2,h3,hjn,h4']
    exact⟨k-1,by omega,j+1,by omega,by rw[hst];simp[h1,h0,h4],by simp[hw]⟩
   ·have e:A9 xs=false:=by unfold A9;rw[YD hjn (by rw[hst];simp[h1,h0,h4])];rfl
    have h4':xs[j]≤xs[j-1]:=by omega
    simp -implicitDefEqProofs [h1,h2,h2',hw2,h3,hjn,h4',e]
 ·obtain rfl:j=xs.length:=by omega
  have e:A9 xs=decide (0<xs.length):=by unfold A9;rw[hr];rfl
  by_cases h5:0<xs.length
  ·have h5':(0:Int)<xs.length:=by omega
   simp -implicitDefEqProofs [e,h5,h5']
  ·have h5':¬(0:Int)<xs.length:=by omega
   simp -implicitDefEqProofs [e,h5,h5']
theorem LH {p:Int→Bool} {xs:List Int} {j:Nat} (h:j<xs.length):(xs.take (j+1)).filter p=(xs.take j).filter p++(if p xs[j]then [xs[j]]else []):=by
 have e:xs.take (j+1)=xs.take j++ [xs[j]]:=by simp
 rw[e,List.filter_append]
 by_cases hp:p xs[j]=true<;>simp[hp]
theorem Nh {p:Int→Bool} {xs:List Int} {j:Nat} (h:xs.length≤j):(xs.take j).filter p=xs.filter p:=by rw[List.take_of_length_le h]
theorem OM {p:Int→Bool} {xs:List Int} {j:Nat}:((xs.take j).filter p).length≤j:=by
 have:=List.length_filter_le p (xs.take j)
 have h2:(xs.take j).length≤j:=by simp;omega
 omega
def common (a b:List Int):List Int:=a.filter fun v=>decide (v∈b)
def AB3 (a:List Int) (v:Int):List Int:=a.filter fun x=> !decide (x=v)
abbrev Lu (R:Rel):Prop:=∀a b:List Int,a.length≤4194304→b.length≤maxLen→R [.sl 1 1 a.length (ints a),.sl 1 1 b.length (ints b)] [] (.sl 0 1 (common a b).length (ints (common a b))) []
abbrev GL (R:Rel):Prop:=∀(a:List Int) (v:Int),a.length≤4194304→R [.sl 1 1 a.length (ints a),I v] [] (.sl 0 1 (AB3 a v).length (ints (AB3 a v))) []
abbrev Aj2 (R:Rel):Prop:=∀(a:List Int) (v:Int),a.length≤4194304→R [.sl 1 1 a.length (ints a),.sl 1 1 1 (ints [v])] [] (.sl 0 1 (AB3 a v).length (ints (AB3 a v))) []
theorem As0 (D:Dn) (hH:R6 (D Jl)):Lu (Body D RB):=by
 intro a b ha hb'
 have hres:common a b=a.filter (fun v=>decide (v∈b)):=rfl
 rw[hres]
 simp -implicitDefEqProofs
 refine Ae (fun k s=>∃j o1 o2,j+k=a.length∧s=⟨[.sl 1 1 a.length (ints a),.sl 1 1 b.length (ints b),.undef,.arr 3,.sc (.int .i64 j),.undef,.undef],[.free,o1,o2,.arr 1 0 ((a.take j).filter (fun v=>decide (v∈b))).length (ints ((a.take j).filter (fun v=>decide (v∈b))))]⟩) ?_ a.length _ ⟨0,by simp⟩
 intro k s ⟨j,o1,o2,hj,hs⟩
 subst hs
 by_cases hjn:j<a.length
 ·have hw:IntKind.i64.wrap ((j:Int)+1)=(j+1:Nat):=by rw[Ad (by omega) (by omega)];simp
  have hst:=LH (p:=fun v=>decide (v∈b)) hjn
  have hln:=OM (p:=fun v=>decide (v∈b)) (xs:=a) (j:=j)
  have hb:(((a.take j).filter (fun v=>decide (v∈b))).length+1)*8≤1099511627776:=by omega
  simp -implicitDefEqProofs [hjn]
  refine Aa (hH b _ hb') ?_
  by_cases h1:a[j]∈b
  ·rw[if_pos (by simp[h1])]at hst
   simp -implicitDefEqProofs [h1,hjn,hb]
   exact⟨k-1,by omega,j+1,by omega,by simp[hw],by rw[hst];simp,by rw[hst]⟩
  ·rw[if_neg (by simp[h1]),List.append_nil]at hst
   simp -implicitDefEqProofs [h1,hjn,hb]
   exact⟨k-1,by omega,j+1,by omega,by simp[hw],by rw[hst],by rw[hst]⟩
 ·have hx:=Nh (p:=fun v=>decide (v∈b)) (xs:=a) (j:=j) (by omega)
  simp -implicitDefEqProofs [hjn,hx]
theorem AsY (D:Dn) (hH:R6 (D Bn)):Lu (Body D R5):=by
 intro a b ha hb'
 have hres:common a b=a.filter (fun v=>decide (v∈b)):=rfl
 rw[hres]
 simp -implicitDefEqProofs
 refine Ae (fun k s=>∃j v4 o1 o2,j+k=a.length∧s=⟨[.undef,.sl 1 1 b.length (ints b),.undef,.arr 3,v4,.sl 1 1 a.length (ints a),.sc (.int .i64 a.length),.sc (.int .i64 j),.undef,.undef],[.free,o1,o2,.arr 1 0 ((a.take j).filter (fun v=>decide (v∈b))).length (ints ((a.take j).filter (fun v=>decide (v∈b))))]⟩) ?_ a.length _ ⟨0,by simp⟩
 intro k s ⟨j,v4,o1,o2,hj,hs⟩
 subst hs
 by_cases hjn:j<a.length
 ·have hw:IntKind.i64.wrap ((j:Int)+1)=(j+1:Nat):=by rw[Ad (by omega) (by omega)];simp
  have hst:=LH (p:=fun v=>decide (v∈b)) hjn
  have hln:=OM (p:=fun v=>decide (v∈b)) (xs:=a) (j:=j)
  have hb:(((a.take j).filter (fun v=>decide (v∈b))).length+1)*8≤1099511627776:=by omega
  simp -implicitDefEqProofs [hjn]
  refine Aa (hH b _ hb') ?_
  by_cases h1:a[j]∈b
  ·rw[if_pos (by simp[h1])]at hst
   simp -implicitDefEqProofs [h1,hjn,hb]
   exact⟨k-1,by omega,j+1,by omega,by simp[hw],by rw[hst];simp,by rw[hst]⟩
  ·rw[if_neg (by simp[h1]),List.append_nil]at hst
   simp -implicitDefEqProofs [h1,hjn,hb]
   exact⟨k-1,by omega,j+1,by omega,by simp[hw],by rw[hst],by rw[hst]⟩
 ·have hx:=Nh (p:=fun v=>decide (v∈b)) (xs:=a) (j:=j) (by omega)
  simp -implicitDefEqProofs [hjn,hx]
theorem ANu (D:Dn):GL (Body D ALx):=by
 intro a v ha
 have hres:AB3 a v=a.filter (fun x=> !decide (x=v)):=rfl
 rw[hres]
 simp -implicitDefEqProofs
 refine Ae (fun k s=>∃j o1 o2,j+k=a.length∧s=⟨[.sl 1 1 a.length (ints a),.sc (.int .i64 v),.undef,.arr 3,.sc (.int .i64 j),.undef,.undef],[.free,o1,o2,.arr 1 0 ((a.take j).filter (fun x=> !decide (x=v))).length (ints ((a.take j).filter (fun x=> !decide (x=v))))]⟩) ?_ a.length _ ⟨0,by simp⟩
 intro k s ⟨j,o1,o2,hj,hs⟩
 subst hs
 by_cases hjn:j<a.length
 ·have hw:IntKind.i64.wrap ((j:Int)+1)=(j+1:Nat):=by rw[Ad (by omega) (by omega)];simp
  have hst:=LH (p:=fun x=> !decide (x=v)) hjn
  have hln:=OM (p:=fun x=> !decide (x=v)) (xs:=a) (j:=j)
  have hb:(((a.take j).filter (fun x=> !decide (x=v))).length+1)*8≤1099511627776:=by omega
  simp -implicitDefEqProofs [hjn]
  by_cases h1:a[j]=v
  ·rw[if_neg (by simp[h1]),List.append_nil]at hst
   simp -implicitDefEqProofs [h1,hjn,hb]
   exact⟨k-1,by omega,j+1,by omega,by simp[hw],by rw[hst],by rw[hst]⟩
  ·rw[if_pos (by simp[h1])]at hst
   simp -implicitDefEqProofs [h1,hjn,hb]
   exact⟨k-1,by omega,j+1,by omega,by simp[hw],by rw[hst];simp,by rw[hst]⟩
 ·have hx:=Nh (p:=fun x=> !decide (x=v)) (xs:=a) (j:=j) (by omega)
  simp -implicitDefEqProofs [hjn,hx]
theorem AKm (D:Dn) (hH:R6 (D Bn)):Aj2 (Body D Ut):=by
 intro a v ha
 have hres:AB3 a v=a.filter (fun x=> !decide (x=v)):=rfl
 rw[hres]
 simp -implicitDefEqProofs
 refine Ae (fun k s=>∃j v4 o1 o2,j+k=a.length∧s=⟨[.undef,.sl 1 1 1 (ints [v]),.undef,.arr 3,v4,.sl 1 1 a.length (ints a),.sc (.int .i64 a.length),.sc (.int .i64 j),.undef,.undef],[.free,o1,o2,.arr 1 0 ((a.take j).filter (fun x=> !decide (x=v))).length (ints ((a.take j).filter (fun x=> !decide (x=v))))]⟩) ?_ a.length _ ⟨0,by simp⟩
 intro k s ⟨j,v4,o1,o2,hj,hs⟩
 subst hs
 by_cases hjn:j<a.length
 ·have hw:IntKind.i64.wrap ((j:Int)+1)=(j+1:Nat):=by rw[Ad (by omega) (by omega)];simp
  have hst:=LH (p:=fun x=> !decide (x=v)) hjn
  have hln:=OM (p:=fun x=> !decide (x=v)) (xs:=a) (j:=j)
  have hb:(((a.take j).filter (fun x=> !decide (x=v))).length+1)*8≤1099511627776:=by omega
  simp -implicitDefEqProofs [hjn]
  refine Aa (hH [v] _ (by unfold maxLen;simp)) ?_
  by_cases h1:a[j]=v
  ·rw[if_neg (by simp[h1]),List.append_nil]at hst
   simp -implicitDefEqProofs [h1,hjn,hb]
   exact⟨k-1,by omega,j+1,by omega,by simp[hw],by rw[hst],by rw[hst]⟩
  ·rw[if_pos (by simp[h1])]at hst
   simp -implicitDefEqProofs [h1,hjn,hb]
   exact⟨k-1,by omega,j+1,by omega,by simp[hw],by rw[hst];simp,by rw[hst]⟩
 ·have hx:=Nh (p:=fun x=> !decide (x=v)) (xs:=a) (j:=j) (by omega)
  simp -implicitDefEqProofs [hjn,hx]
end Go.Eng.T
namespace Go.Eng.T
set_option maxRecDepth 20000
def hB (h:Hello):Prop:=h.versions.length≤4194304∧Ub h.exts
def CP (h:Hello):Bool:=A9 h.versions&&EC h.exts
abbrev Eb (R:Rel):Prop:=∀h:Hello,hB h→R [arg (CU h)] [] (B (CP h)) []
theorem AuM (D:Dn) (hA:BK (D EJ)) (hE:FV (D KC)):Eb (Body D TY):=by
 intro h hh
 simp -implicitDefEqProofs
 refine Aa (hA _ (by have:=hh.1;unfold maxLen;omega)) ?_
 by_cases h1:A9 h.versions=true
 rotate_left
 ·simp -implicitDefEqProofs [h1,CP]
 simp -implicitDefEqProofs [h1]
 refine Aa (hE _ hh.2) ?_
 simp -implicitDefEqProofs [h1,CP]
theorem Avr (D:Dn) (hA:BK (D FM)) (hE:FV (D KR)):Eb (Body D Ui):=by
 intro h hh
 simp -implicitDefEqProofs
 refine Aa (hA _ (by have:=hh.1;unfold maxLen;omega)) ?_
 by_cases h1:A9 h.versions=true
 rotate_left
 ·simp -implicitDefEqProofs [h1,CP]
 simp -implicitDefEqProofs [h1]
 refine Aa (hE _ hh.2) ?_
 simp -implicitDefEqProofs [h1,CP]
abbrev KI (R:Rel):Prop:=∀h:Hello,hB h→R [arg (CU h)] [] (.agg (CU h)) []
theorem Arf (D:Dn) (hE:OG (D XK)):KI (Body D Qz):=by
 intro h hh
 have h1:h.versions.length*8≤1099511627776:=by have:=hh.1;omega
 simp -implicitDefEqProofs [h1]
 refine Aa (hE _ hh.2) ?_
 simp -implicitDefEqProofs
theorem Avt (D:Dn) (hE:OG (D ZQ)):KI (Body D Rh):=by
 intro h hh
 have h1:h.versions.length*8≤1099511627776:=by have:=hh.1;omega
 simp -implicitDefEqProofs [h1]
 refine Aa (hE _ hh.2) ?_
 simp -implicitDefEqProofs
def lossy (b:Gu) (x:Ext):Bool:=decide (x.tag∈b.drops)||(b.lists&&(!decide (x.tag∈b.strips)&& !decide (Q5 x.tag 1 3)))
def At2 (vs:List Int):Int:=vs.getLastD 0
def Ob (b:Gu) (h:Hello):Bool:=(decide (0<b.limit)&&decide (b.limit<At2 h.versions))||h.exts.any (lossy b)
def stays (b:Gu) (t:Int):Bool:= !decide (t∈b.strips)
def AQ:Hello:=⟨[],[]⟩
def BS (b:Gu) (h:Hello):Hello×Bool:=if Hz b&&(CP h&& !Ob b h)then(⟨h.versions,kept (stays b) h.exts⟩,true)else(AQ,false)
abbrev OZ (R:Rel):Prop:=∀(b:Gu) (h:Hello),Hw b→hB h→R [arg (CF b),arg (CU h)] [] (.tup [.agg (CU (BS b h).1),B (BS b h).2]) []
theorem XJ {xs:List Int} (h:A9 xs=true):0<xs.length:=by
 unfold A9 at h
 simp only[Bool.and_eq_true,decide_eq_true_eq]at h
 exact h.2
theorem ACW {xs:List Int} (h:xs.length-1<xs.length):At2 xs=xs[xs.length-1]:=by
 unfold At2
 rw[List.getLastD_eq_getLast?,List.getLast?_eq_getElem?,List.getElem?_eq_getElem h];rfl
theorem AuQ (D:Dn) (hX:RQ (D XP)) (hE:Eb (D Gi)) (hH:R6 (D Jl)) (hI:SG (D CB)):OZ (Body D Tt):=by
 intro b h hb hh
 obtain⟨hv,hx⟩:=hh
 have hll:=hx.1
 simp -implicitDefEqProofs
 refine Aa (hX b hb) ?_
 by_cases h1:Hz b=true
 rotate_left
 ·simp -implicitDefEqProofs [h1,BS,AQ]
 simp -implicitDefEqProofs [h1]
 refine Aa (hE h ⟨hv,hx⟩) ?_
 by_cases h2:CP h=true
 rotate_left
 ·simp -implicitDefEqProofs [h2,BS,AQ]
 have hpos:0<h.versions.length:=XJ (by unfold CP at h2;simp only[Bool.and_eq_true]at h2;exact h2.1)
 have hn1:h.versions.length-1<h.versions.length:=by omega
 have hw1:IntKind.i64.wrap ((h.versions.length:Int)-1)=((h.versions.length-1:Nat):Int):=by rw[Ad (by omega) (by omega)];omega
 have htop:=ACW hn1
 by_cases h3:0<b.limit
 ·by_cases h4:b.limit<h.versions[h.versions.length-1]
  ·have e:BS b h=(AQ,false):=by simp[BS,Ob,htop,h3,h4]
   simp -implicitDefEqProofs [h2,h3,hw1,hn1,hpos,h4,e,AQ]
  ·have h3':b.limit<At2 h.versions↔False:=by rw[htop];simpa using h4
   have b0:h.versions.length*8≤1099511627776:=by omega
   simp -implicitDefEqProofs [h2,h3,hw1,hn1,hpos,h4,b0]
   refine Ae (fun k s=>∃j v8 o6 o7 o8 o9,j+k=h.exts.length∧(h.exts.take j).any (lossy b)=false∧s=⟨[.undef,.undef,.ptr 0 0,.ptr 1 0,.ptr 2 0,.undef,.ptr 5 0,I j,v8,.undef,.undef,.undef,.undef,.undef],[.var ((CF b).map (AZ 1)),.var ((CU h).map (AZ 1)),.var [.nil 1,.nil 2],.dead,.arr 1 0 h.versions.length (ints h.versions),.var [.arr 4,.arr 10],o6,o7,o8,o9,.arr 2 0 (kept (stays b) (h.exts.take j)).length ((kept (stays b) (h.exts.take j)).flatMap Br)]⟩) ?_ (h.exts.length) _ ⟨0,.undef,.free,.free,.free,.free,by simp,by simp,by simp[kept]⟩
   intro k s ⟨j,v8,o6,o7,o8,o9,hj,hp,hs⟩
   subst hs
   by_cases hjn:j<h.exts.length
   ·have hw:IntKind.i64.wrap ((j:Int)+1)=(j+1:Nat):=by rw[Ad (by omega) (by omega)];simp
    have hbd:=Mr hx hjn
    have b1:h.exts[j].body.length*8≤1099511627776:=by omega
    have hkl:=Vb (p:=stays b) (l:=h.exts) (j:=j)
    have b2:((kept (stays b) (h.exts.take j)).length+1)*32≤1099511627776:=by omega
    have hst:=X5 (p:=lossy b) hjn
    rw[hp,Bool.false_or]at hst
    simp -implicitDefEqProofs [hjn]
    refine Aa (hH _ _ hb.2) ?_
    simp -implicitDefEqProofs
    refine Aa (hH _ _ hb.1) ?_
    by_cases g1:h.exts[j].tag∈b.drops
    ·have e:BS b h=(AQ,false):=by
      have:=Ph (p:=lossy b) hjn (by simp[lossy,g1])
      simp[BS,Ob,this]
     simp -implicitDefEqProofs [g1,e,AQ]
    by_cases g2:h.exts[j].tag∈b.strips
    ·have hl:lossy b h.exts[j]=false:=by simp[lossy,g1,g2]
     have hk:=UU (p:=stays b) hjn (by simp[stays,g2])
     by_cases g3:b.lists=true
     ·simp -implicitDefEqProofs [g1,g2,g3]
      exact⟨k-1,by omega,j+1,by omega,by simpa using hst.trans hl,by simp[hw],by rw[hk],by rw[hk]⟩
     ·simp -implicitDefEqProofs [g1,g2,g3]
      exact⟨k-1,by omega,j+1,by omega,by simpa using hst.trans hl,by simp[hw],by rw[hk],by rw[hk]⟩
    have hk:=Q7 (p:=stays b) hjn (by simp[stays,g2])
    have hkl:=I8 (p:=stays b) hjn (by simp[stays,g2])
    by_cases g3:b.lists=true
    rotate_left
    ·have hl:lossy b h.exts[j]=false:=by simp[lossy,g1,g2,g3]
     simp -implicitDefEqProofs [g1,g2,g3,hjn,b1,b2]
     exact⟨k-1,by omega,j+1,by omega,by simpa using hst.trans hl,by simp[hw],by rw[hkl],by rw[←hk]⟩
    simp -implicitDefEqProofs [g1,g2,g3]
    refine Aa (hI _ _ _) ?_
    by_cases g4:Q5 h.exts[j].tag 1 3
    ·have hl:lossy b h.exts[j]=false:=by simp[lossy,g1,g2,g3,g4]
     simp -implicitDefEqProofs [g4,hjn,b1,b2]
     exact⟨k-1,by omega,j+1,by omega,by simpa using hst.trans hl,by simp[hw],by rw[hkl],by rw[←hk]⟩
    ·have e:BS b h=(AQ,false):=by
      have:=Ph (p:=lossy b) hjn (by simp[lossy,g1,g2,g3,g4])
      simp[BS,Ob,this]
     simp -implicitDefEqProofs [g4,e,AQ]
   ·have hje:j=h.exts.length:=by omega
    have ea:h.exts.any (lossy b)=false:=any_none (by omega) hp
    have ek:=UL (p:=stays b) (l:=h.exts) (j:=j) (by omega)
    have e:BS b h=(⟨h.versions,kept (stays b) h.exts⟩,true):=by simp only[BS,h1,h2,Ob,ea,h3'];simp
    simp -implicitDefEqProofs [hjn,e,ek]
 ·have b0:h.versions.length*8≤1099511627776:=by omega
  simp -implicitDefEqProofs [h2,h3,b0]
  refine Ae (fun k s=>∃j v8 o6 o7 o8 o9,j+k=h.exts.length∧(h.exts.take j).any (lossy b)=false∧s=⟨[.undef,.undef,.ptr 0 0,.ptr 1 0,.ptr 2 0,.undef,.ptr 5 0,I j,v8,.undef,.undef,.undef,.undef,.undef],[.var ((CF b).map (AZ 1)),.var ((CU h).map (AZ 1)),.var [.nil 1,.nil 2],.dead,.arr 1 0 h.versions.length (ints h.versions),.var [.arr 4,.arr 10],o6,o7,o8,o9,.arr 2 0 (kept (stays b) (h.exts.take j)).length ((kept (stays b) (h.exts.take j)).flatMap Br)]⟩) ?_ (h.exts.length) _ ⟨0,.undef,.free,.free,.free,.free,by simp,by simp,by simp[kept]⟩
  intro k s ⟨j,v8,o6,o7,o8,o9,hj,hp,hs⟩
  subst hs
  by_cases hjn:j<h.exts.length
  ·have hw:IntKind.i64.wrap ((j:Int)+1)=(j+1:Nat):=by rw[Ad (by omega) (by omega)];simp
   have hbd:=Mr hx hjn
   have b1:h.exts[j].body.length*8≤1099511627776:=by omega
   have hkl:=Vb (p:=stays b) (l:=h.exts) (j:=j)
   have b2:((kept (stays b) (h.exts.take j)).length+1)*32≤1099511627776:=by omega
   have hst:=X5 (p:=lossy b) hjn
   rw[hp,Bool.false_or]at hst
   simp -implicitDefEqProofs [hjn]
   refine Aa (hH _ _ hb.2) ?_
   simp -implicitDefEqProofs
   refine Aa (hH _ _ hb.1) ?_
   by_cases g1:h.exts[j].tag∈b.drops
   ·have e:BS b h=(AQ,false):=by
     have:=Ph (p:=lossy b) hjn (by simp[lossy,g1])
     simp[BS,Ob,this]
    simp -implicitDefEqProofs [g1,e,AQ]
   by_cases g2:h.exts[j].tag∈b.strips
   ·have hl:lossy b h.exts[j]=false:=by simp[lossy,g1,g2]
    have hk:=UU (p:=stays b) hjn (by simp[stays,g2])
    by_cases g3:b.lists=true
    ·simp -implicitDefEqProofs [g1,g2,g3]
     exact⟨k-1,by omega,j+1,by omega,by simpa using hst.trans hl,by simp[hw],by rw[hk],by rw[hk]⟩
    ·simp -implicitDefEqProofs [g1,g2,g3]
     exact⟨k-1,by omega,j+1,by omega,by simpa using hst.trans hl,by simp[hw],by rw[hk],by rw[hk]⟩
   have hk:=Q7 (p:=stays b) hjn (by simp[stays,g2])
   have hkl:=I8 (p:=stays b) hjn (by simp[stays,g2])
   by_cases g3:b.lists=true
   rotate_left
   ·have hl:lossy b h.exts[j]=false:=by simp[lossy,g1,g2,g3]
    simp -implicitDefEqProofs [g1,g2,g3,hjn,b1,b2]
    exact⟨k-1,by omega,j+1,by omega,by simpa using hst.trans hl,by simp[hw],by rw[hkl],by rw[←hk]⟩
   simp -implicitDefEqProofs [g1,g2,g3]
   refine Aa (hI _ _ _) ?_
   by_cases g4:Q5 h.exts[j].tag 1 3
   ·have hl:lossy b h.exts[j]=false:=by simp[lossy,g1,g2,g3,g4]
    simp -implicitDefEqProofs [g4,hjn,b1,b2]
    exact⟨k-1,by omega,j+1,by omega,by simpa using hst.trans hl,by simp[hw],by rw[hkl],by rw[←hk]⟩
   ·have e:BS b h=(AQ,false):=by
     have:=Ph (p:=lossy b) hjn (by simp[lossy,g1,g2,g3,g4])
     simp[BS,Ob,this]
    simp -implicitDefEqProofs [g4,e,AQ]
  ·have hje:j=h.exts.length:=by omega
   have ea:h.exts.any (lossy b)=false:=any_none (by omega) hp
   have ek:=UL (p:=stays b) (l:=h.exts) (j:=j) (by omega)
   have e:BS b h=(⟨h.versions,kept (stays b) h.exts⟩,true):=by simp only[BS,h1,h2,Ob,ea,h3];simp
   simp -implicitDefEqProofs [hjn,e,ek]
abbrev Yt (R:Rel):Prop:=∀(t:Int) (b:Gu),Hw b→R [I t,.rptr 1 (CF b) 0] [] (B (stays b t)) []
theorem AvM (D:Dn) (hH:R6 (D Bn)):Yt (Body D Qf):=by
 intro t b hb
 simp -implicitDefEqProofs
 refine Aa (hH b.strips t hb.2) ?_
 simp -implicitDefEqProofs [stays]
abbrev Aif (R:Rel):Prop:=∀(x:Ext) (b:Gu),Hw b→R [arg (Br x),.rptr 1 (CF b) 0] [] (B (lossy b x)) []
theorem ABE (D:Dn) (hH:R6 (D Bn)) (hI:SG (D Bz)):Aif (Body D Us):=by
 intro x b hb
 simp -implicitDefEqProofs
 refine Aa (hH b.drops x.tag hb.1) ?_
 by_cases g1:x.tag∈b.drops
 ·simp -implicitDefEqProofs [g1,lossy]
 by_cases g3:b.lists=true
 rotate_left
 ·simp -implicitDefEqProofs [g1,g3,lossy]
 simp -implicitDefEqProofs [g1,g3]
 refine Aa (hH b.strips x.tag hb.2) ?_
 by_cases g2:x.tag∈b.strips
 ·simp -implicitDefEqProofs [g1,g2,g3,lossy]
 simp -implicitDefEqProofs [g2]
 refine Aa (hI _ _ _) ?_
 simp -implicitDefEqProofs [g1,g2,g3,lossy]
def ADR (xs:List Int):Int:=xs.foldl max (xs.headD 0)
abbrev AFq (R:Rel):Prop:=∀xs:List Int,0<xs.length→xs.length≤4194304→R [.sl 1 1 xs.length (ints xs)] [] (I (ADR xs)) []
abbrev At5 (R:Rel):Prop:=∀xs:List Int,xs.length≤4194304→R [.sl 1 1 xs.length (ints xs)] [] (.sl 0 1 xs.length (ints xs)) []
abbrev Apc (R:Rel):Prop:=∀(b:Gu) (h:Hello),Hw b→hB h→Hz b=true→A9 h.versions=true→R [arg (CF b),arg (CU h)] [] (B (Ob b h)) []
theorem AbO:∀(xs:List Int) (a:Int),(∀x,x∈xs→a≤x)→(∀i,(h:i+1<xs.length)→xs[i]≤xs[i+1])→xs.foldl max a=(xs.getLast?.getD a)
 | [],a,_,_=>rfl
 | x::r,a,h1,h2=>by
  have hx:=h1 x (by simp)
  have hr:∀y,y∈r→x≤y:=by
   intro y hy
   obtain⟨n,hn,rfl⟩:=List.getElem_of_mem hy
   have key:∀m,(hm:m<r.length)→x≤r[m]:=by
    intro m
    induction m with
    | zero=>intro hm;have:=h2 0 (by simp;omega);simpa using this
    | succ m ih=>
     intro hm
     have h3:=ih (by omega)
     have:=h2 (m+1) (by simp;omega)
     simp only[List.getElem_cons_succ]at this
     omega
   exact key n hn
  have ih:=AbO r x hr (fun i h=>by have:=h2 (i+1) (by simp;omega);simpa using this)
  simp only[List.foldl_cons]
  rw[show max a x=x by omega,ih]
  cases r with
  | nil=>rfl
  | cons y s=>simp[List.getLast?_cons_cons,List.getLast?_cons]
theorem AoP {xs:List Int} (h:A9 xs=true) {i:Nat} (hi:i+1<xs.length):xs[i]<xs[i+1]:=by
 unfold A9 K9 at h
 simp only[Bool.and_eq_true,List.all_eq_true,List.mem_range]at h
 have:=(h.1 (i+1) hi).2
 rw[Xm hi,show i+1-1=i by omega,Xm (by omega)]at this
 simpa using this
theorem Axi {xs:List Int} (h:A9 xs=true):ADR xs=At2 xs:=by
 cases xs with
 | nil=>rfl
 | cons x r=>
  unfold ADR At2
  simp only[List.headD_cons,List.foldl_cons]
  rw[show max x x=x by omega,AbO r x ?_ ?_]
  ·cases r with
   | nil=>rfl
   | cons y s=>simp[List.getLastD_eq_getLast?,List.getLast?_cons_cons,List.getLast?_cons]
  ·intro y hy
   obtain⟨n,hn,rfl⟩:=List.getElem_of_mem hy
   induction n with
   | zero=>have:=AoP h (i:=0) (by simp;omega);simp at this;omega
   | succ m ih=>
    have h3:=ih (by omega) (List.getElem_mem _)
    have:=AoP h (i:=m+1) (by simp;omega)
    simp only[List.getElem_cons_succ]at this
    omega
  ·intro i hi
   have:=AoP h (i:=i+1) (by simp;omega)
   simp only[List.getElem_cons_succ]at this
   omega
theorem Aer {b:Gu} {r:List V} (h:Ke r):Ke (.rptr 1 (CF b) 0::r):=Aas (fun H=>by simp) (fun H=>by simp) h
theorem ADF (D:Dn) (hM:AFq (D VZ)) (h1:Aif (D Ur)) (hC:J6 D (D IX)):Apc (Body D XE):=by
 intro b h hb hh hbox hver
 obtain⟨hv,hx⟩:=hh
 have hll:=hx.1
 have hpos:=XJ hver
 have hlim:0≤b.limit:=by unfold Hz at hbox;simp only[Bool.and_eq_true,decide_eq_true_eq]at hbox;exact hbox.1.1.1.1.1
 by_cases h0:b.limit=0
 ·obtain⟨lim,dr,st,li⟩:=b
  dsimp only at h0
  subst h0
  simp -implicitDefEqProofs
  refine Aa (hC h.exts Ur _ (lossy ⟨0,dr,st,li⟩) (by unfold maxLen;omega) (Aer (b:=⟨0,dr,st,li⟩) ER) (fun j hj=>h1 h.exts[j] ⟨0,dr,st,li⟩ hb)) ?_
  simp -implicitDefEqProofs [Ob]
 ·have hn:0<b.limit:=by omega
  simp -implicitDefEqProofs [h0]
  refine Aa (hM h.versions hpos hv) ?_
  rw[Axi hver]
  by_cases h4:b.limit<At2 h.versions
  ·simp -implicitDefEqProofs [h0,h4,Ob,hn]
  ·simp -implicitDefEqProofs [h0,h4]
   refine Aa (hC h.exts Ur _ (lossy b) (by unfold maxLen;omega) (Aer ER) (fun j hj=>h1 h.exts[j] b hb)) ?_
   simp -implicitDefEqProofs [Ob,hn,h4]
theorem AvO (D:Dn) (hX:RQ (D AfA)) (hE:Eb (D Hl)) (hL:Apc (D Asj)) (hC:At5 (D Ug)) (h1':Yt (D WJ)) (hK:LP D (D JF)):OZ (Body D Ul):=by
 intro b h hb hh
 simp -implicitDefEqProofs
 refine Aa (hX b hb) ?_
 by_cases h1:Hz b=true
 rotate_left
 ·simp -implicitDefEqProofs [h1,BS,AQ]
 simp -implicitDefEqProofs [h1]
 refine Aa (hE h hh) ?_
 by_cases h2:CP h=true
 rotate_left
 ·simp -implicitDefEqProofs [h2,BS,AQ]
 have hver:A9 h.versions=true:=by unfold CP at h2;simp only[Bool.and_eq_true]at h2;exact h2.1
 simp -implicitDefEqProofs [h2]
 refine Aa (hL b h hb hh h1 hver) ?_
 by_cases h3:Ob b h=true
 ·simp -implicitDefEqProofs [h3,BS,AQ]
 have e:BS b h=(⟨h.versions,kept (stays b) h.exts⟩,true):=by simp[BS,h1,h2,h3]
 simp -implicitDefEqProofs [h3]
 refine Aa (hC h.versions hh.1) ?_
 simp -implicitDefEqProofs
 refine Aa (hK h.exts WJ _ (stays b) hh.2 (Aer ER) (Abf Q0) (fun t=>h1' t b hb)) ?_
 simp -implicitDefEqProofs [e]
end Go.Eng.T
namespace Go.Eng.T
set_option maxRecDepth 20000
def Iu:List Gu→Hello→Hello×Bool
 | [],h=>(h,true)
 | b::r,h=>if(BS b h).2=true then Iu r (BS b h).1 else(AQ,false)
theorem AfM {path:List Gu} {j:Nat} {x:Hello} (h:j<path.length):Iu (path.drop j) x=if(BS path[j] x).2=true then Iu (path.drop (j+1)) (BS path[j] x).1 else(AQ,false):=by
 rw[List.drop_eq_getElem_cons h];rfl
theorem Ak3 {path:List Gu} {j:Nat} {x:Hello} (h:path.length≤j):Iu (path.drop j) x=(x,true):=by rw[List.drop_eq_nil_of_le h];rfl
def A7 (path:List Gu) (h:Hello):Hello×Bool:=if decide (path.length≤4)&&CP h then Iu path h else(AQ,false)
theorem AiP:hB AQ:=⟨by simp[AQ],Adb⟩
theorem Apm {b:Gu} {h:Hello} (hh:hB h):hB (BS b h).1:=by
 unfold BS
 split
 ·exact⟨hh.1,UN hh.2 _⟩
 ·exact AiP
theorem AvD {b:Gu} {h:Hello} (hk:(BS b h).2=false):(BS b h).1=AQ:=by
 unfold BS at *
 split at hk
 ·cases hk
 ·rename_i hc;rw[if_neg hc]
abbrev FN (R:Rel):Prop:=∀(path:List Gu) (h:Hello),lnS Hw path→hB h→R [.sl 1 4 path.length (path.flatMap CF),arg (CU h)] [] (.tup [.agg (CU (A7 path h).1),B (A7 path h).2]) []
theorem AsW (D:Dn) (hE:Eb (D Gi)) (hC:KI (D X6)) (hP:OZ (D AmW)):FN (Body D Sr):=by
 intro path h hb hh
 have hl:=hb.1
 unfold maxLen at hl
 by_cases h1:path.length≤4
 rotate_left
 ·have h1':(4:Int)<path.length:=by omega
  simp -implicitDefEqProofs [h1',h1,A7,AQ]
 have h1':¬(4:Int)<path.length:=by omega
 simp -implicitDefEqProofs [h1']
 refine Aa (hE h hh) ?_
 by_cases h2:CP h=true
 rotate_left
 ·simp -implicitDefEqProofs [h2,h1,A7,AQ]
 have e:A7 path h=Iu path h:=by simp[A7,h1,h2]
 rw[e]
 simp -implicitDefEqProofs [h2]
 refine Aa (hC h hh) ?_
 simp -implicitDefEqProofs
 refine Ae (fun k s=>∃j x o5 o6 o7,j+k=path.length∧hB x∧Iu path h=Iu (path.drop j) x∧s=⟨[.sl 1 4 path.length (path.flatMap CF),.undef,.undef,.ptr 1 0,.undef,.ptr 4 0,I j,.undef,.undef,.undef,.undef,.undef],[.var ((CU h).map (AZ 1)),.var [.nil 1,.nil 2],.free,.free,.var [.arr 8,.arr 9],o5,o6,o7,.arr 1 0 x.versions.length (ints x.versions),.arr 2 0 x.exts.length (x.exts.flatMap Br)]⟩) ?_ (path.length) _ ⟨0,h,.free,.free,.free,by simp,hh,by simp,by simp⟩
 intro k s ⟨j,x,o5,o6,o7,hj,hx,hg,hs⟩
 subst hs
 by_cases hjn:j<path.length
 ·have hw:IntKind.i64.wrap ((j:Int)+1)=(j+1:Nat):=by rw[Ad (by omega) (by omega)];simp
  rw[AfM hjn]at hg
  simp -implicitDefEqProofs [hjn]
  refine Aa (hP path[j] x (hb.2 j hjn) hx) ?_
  have hx':=Apm (b:=path[j]) hx
  generalize BS path[j] x=r at hg hx'
  by_cases hk:r.2=true
  ·rw[if_pos hk]at hg
   simp -implicitDefEqProofs [hk]
   refine⟨k-1,by omega,j+1,by omega,r.1,hx',?_⟩
   simp[hw,hg]
  ·rw[if_neg hk]at hg
   simp -implicitDefEqProofs [hk,hg,AQ]
 ·rw[Ak3 (by omega)]at hg
  simp -implicitDefEqProofs [hjn,hg]
theorem AsP (D:Dn) (hE:Eb (D Hl)) (hC:KI (D WK)) (hP:OZ (D AlJ)):FN (Body D RN):=by
 intro path h hb hh
 have hl:=hb.1
 unfold maxLen at hl
 simp -implicitDefEqProofs
 refine Aa (hE h hh) ?_
 by_cases h2:CP h=true
 rotate_left
 ·simp -implicitDefEqProofs [h2,A7,AQ]
 by_cases h1:path.length≤4
 rotate_left
 ·have h1':(4:Int)<path.length:=by omega
  simp -implicitDefEqProofs [h2,h1',h1,A7,AQ]
 have h1':¬(4:Int)<path.length:=by omega
 have e:A7 path h=Iu path h:=by simp[A7,h1,h2]
 rw[e]
 simp -implicitDefEqProofs [h2,h1']
 refine Aa (hC h hh) ?_
 simp -implicitDefEqProofs
 refine Ae (fun k s=>∃j x ok o5 o6,j+k=path.length∧hB x∧Iu path h=(if ok=true then Iu (path.drop j) x else(AQ,false))∧(ok=false→x=AQ)∧s=⟨[.sl 1 4 path.length (path.flatMap CF),.undef,.undef,.ptr 1 0,.undef,.ptr 4 0,B ok,I j,.undef,.undef],[.var ((CU h).map (AZ 1)),.var [.nil 1,.nil 2],.free,.free,.var [.arr 7,.arr 8],o5,o6,.arr 1 0 x.versions.length (ints x.versions),.arr 2 0 x.exts.length (x.exts.flatMap Br)]⟩) ?_ (path.length) _ ⟨0,h,true,.free,.free,by simp,hh,by simp,by simp,by simp⟩
 intro k s ⟨j,x,ok,o5,o6,hj,hx,hg,hno,hs⟩
 subst hs
 by_cases hok:ok=true
 rotate_left
 ·rw[if_neg hok]at hg
  have hok':ok=false:=by simpa using hok
  have hno':=hno hok'
  subst hok'
  subst hno'
  by_cases hjn:j<path.length
  ·simp -implicitDefEqProofs [hjn,hg,AQ]
  ·simp -implicitDefEqProofs [hjn,hg,AQ]
 rw[if_pos hok]at hg
 subst hok
 by_cases hjn:j<path.length
 ·have hw:IntKind.i64.wrap ((j:Int)+1)=(j+1:Nat):=by rw[Ad (by omega) (by omega)];simp
  rw[AfM hjn]at hg
  simp -implicitDefEqProofs [hjn]
  refine Aa (hP path[j] x (hb.2 j hjn) hx) ?_
  have hx':=Apm (b:=path[j]) hx
  have hno':=AvD (b:=path[j]) (h:=x)
  generalize BS path[j] x=r at hg hx' hno'
  simp -implicitDefEqProofs
  refine⟨k-1,by omega,j+1,by omega,r.1,hx',?_⟩
  simp[hw,hg,hno']
  by_cases hr:r.2=true
  ·right;exact⟨fun h=>by simp[hr]at h,hr⟩
  ·left;exact⟨fun h=>absurd h hr,hno' (by simpa using hr),by simpa using hr⟩
 ·rw[Ak3 (by omega)]at hg
  simp -implicitDefEqProofs [hjn,hg]
theorem Sz {α:Type} {p:α→Bool} {xs:List α} {j:Nat} (h:j<xs.length) (hp:p xs[j]=false):xs.all p=false:=List.all_eq_false.2 ⟨_,List.getElem_mem h,by simp[hp]⟩
theorem UI {α:Type} {p:α→Bool} {xs:List α} {j:Nat} (h:j<xs.length):(xs.take (j+1)).all p=((xs.take j).all p&&p xs[j]):=by
 have e:xs.take (j+1)=xs.take j++ [xs[j]]:=by simp
 rw[e,List.all_append];simp
theorem Yz {α:Type} {p:α→Bool} {xs:List α} {j:Nat} (h:xs.length≤j):(xs.take j).all p=xs.all p:=by rw[List.take_of_length_le h]
abbrev Gb (R:Rel):Prop:=∀xs:List Int,xs.length≤4194304→R [.sl 1 1 xs.length (ints xs)] [] (.agg (CU ⟨xs,[]⟩)) []
theorem Amv (D:Dn):Gb (Body D NN):=by
 intro xs h
 have h1:xs.length*8≤1099511627776:=by omega
 simp -implicitDefEqProofs [h1]
theorem AmG (D:Dn):Gb (Body D NW):=by
 intro xs h
 have h1:xs.length*8≤1099511627776:=by omega
 simp -implicitDefEqProofs [h1]
def isOpen (path:List Gu) (vs:List Int):Bool:=A9 vs&&(A7 path ⟨vs.take 1,[]⟩).2
abbrev G9 (R:Rel):Prop:=∀(path:List Gu) (vs:List Int),lnS Hw path→vs.length≤4194304→R [.sl 1 4 path.length (path.flatMap CF),.sl 1 1 vs.length (ints vs)] [] (B (isOpen path vs)) []
theorem Anx (D:Dn) (hA:BK (D EJ)) (hH:Gb (D UY)) (hP:FN (D Mj)):G9 (Body D NS):=by
 intro path vs hb hv
 simp -implicitDefEqProofs
 refine Aa (hA vs (by unfold maxLen;omega)) ?_
 by_cases h1:A9 vs=true
 rotate_left
 ·simp -implicitDefEqProofs [h1,isOpen]
 have hpos:=XJ h1
 have h1l:(1:Int)≤vs.length:=by omega
 have h1n:1≤vs.length:=by omega
 have hlen:(vs.take 1).length=1:=by simp;omega
 have hmin:min 1 vs.length=1:=by omega
 simp -implicitDefEqProofs [h1,h1l,h1n]
 have hh:=hH (vs.take 1) (by omega)
 rw[hlen]at hh
 refine Aa (hh) ?_
 simp -implicitDefEqProofs [hmin]
 have hp:=hP path ⟨vs.take 1,[]⟩ hb ⟨by simp;omega,Adb⟩
 simp -implicitDefEqProofs [hmin]at hp
 refine Aa (hp) ?_
 simp -implicitDefEqProofs [isOpen,h1]
theorem Amm (D:Dn) (hA:BK (D FM)) (hH:Gb (D Uz)) (hP:FN (D L9)):G9 (Body D ALu):=by
 intro path vs hb hv
 simp -implicitDefEqProofs
 refine Aa (hA vs (by unfold maxLen;omega)) ?_
 by_cases h1:A9 vs=true
 rotate_left
 ·simp -implicitDefEqProofs [h1,isOpen]
 have hpos:=XJ h1
 have h1l:(1:Int)≤vs.length:=by omega
 have h1n:1≤vs.length:=by omega
 have hlen:(vs.take 1).length=1:=by simp;omega
 have hmin:min 1 vs.length=1:=by omega
 simp -implicitDefEqProofs [h1,h1l,h1n]
 have hh:=hH (vs.take 1) (by omega)
 rw[hlen]at hh
 refine Aa (hh) ?_
 simp -implicitDefEqProofs [hmin]
 have hp:=hP path ⟨vs.take 1,[]⟩ hb ⟨by simp;omega,Adb⟩
 simp -implicitDefEqProofs [hmin]at hp
 refine Aa (hp) ?_
 simp -implicitDefEqProofs [isOpen,h1]
def KQ (path:List Gu) (v:Int):Bool:= !(A7 path ⟨[v],[]⟩).2
def Bj (path:List Gu) (vs:List Int):List Int:=if A9 vs=true then vs.filter (KQ path)else []
abbrev Gc (R:Rel):Prop:=∀(path:List Gu) (vs:List Int),lnS Hw path→vs.length≤4194304→R [.sl 1 4 path.length (path.flatMap CF),.sl 1 1 vs.length (ints vs)] [] (.sl 0 1 (Bj path vs).length (ints (Bj path vs))) []
theorem Au0 (path:List Gu) (v:Int):isOpen path [v]= !KQ path v:=by
 unfold isOpen KQ
 by_cases h:A9 [v]=true
 ·simp[h]
 ·have:A7 path ⟨[v],[]⟩=(AQ,false):=by
   unfold A7 CP
   have h':A9 [v]=false:=by simpa using h
   simp[h']
  simp[h,this]
theorem AhU (D:Dn) (hA:BK (D EJ)) (hO:G9 (D Vd)):Gc (Body D K6):=by
 intro path vs hb hv
 by_cases h1:A9 vs=true
 rotate_left
 ·have e:Bj path vs=[]:=by unfold Bj;rw[if_neg h1]
  rw[e]
  simp -implicitDefEqProofs
  refine Ae (fun k s=>s=⟨[.sl 1 4 path.length (path.flatMap CF),.sl 1 1 vs.length (ints vs),.undef,.arr 3,I 0,.undef,.undef],[.free,.free,.free,.arr 1 0 0 (ints [])]⟩) ?_ 0 _ (by simp)
  intro k s hs
  subst hs
  by_cases h0:0<vs.length
  ·simp -implicitDefEqProofs [h0]
   refine Aa (hA vs (by unfold maxLen;omega)) ?_
   simp -implicitDefEqProofs [h1]
  ·simp -implicitDefEqProofs [h0]
 have e:Bj path vs=vs.filter (KQ path):=by unfold Bj;rw[if_pos h1]
 rw[e]
 simp -implicitDefEqProofs
 refine Ae (fun k s=>∃j o1 o2,j+k=vs.length∧s=⟨[.sl 1 4 path.length (path.flatMap CF),.sl 1 1 vs.length (ints vs),.undef,.arr 3,I j,.undef,.undef],[.free,o1,o2,.arr 1 0 ((vs.take j).filter (KQ path)).length (ints ((vs.take j).filter (KQ path)))]⟩) ?_ (vs.length) _ ⟨0,.free,.free,by simp,by simp⟩
 intro k s ⟨j,o1,o2,hj,hs⟩
 subst hs
 by_cases hjn:j<vs.length
 ·have hw:IntKind.i64.wrap ((j:Int)+1)=(j+1:Nat):=by rw[Ad (by omega) (by omega)];simp
  have hst:=LH (p:=KQ path) hjn
  have hfl:=OM (p:=KQ path) (xs:=vs) (j:=j)
  have hb1:(((vs.take j).filter (KQ path)).length+1)*8≤1099511627776:=by omega
  have hw1:IntKind.i64.wrap ((j:Int)+1)=(j:Int)+1:=Ad (by omega) (by omega)
  have hj1:j+1≤vs.length:=by omega
  have hj2:(j:Int)+1≤vs.length:=by omega
  have hdt:(vs.drop j).take 1=[vs[j]]:=by rw[List.drop_eq_getElem_cons hjn];rfl
  simp -implicitDefEqProofs [hjn]
  refine Aa (hA vs (by unfold maxLen;omega)) ?_
  have hjj:(j:Int)≤(j:Int)+1:=by omega
  have h11:j+1-j=1:=by omega
  simp -implicitDefEqProofs [h1,hw1,hj1,hj2,hdt,hjn,hjj,h11]
  refine Aa (hO path [vs[j]] hb (by simp)) ?_
  rw[Au0]
  by_cases h2:KQ path vs[j]=true
  ·rw[if_pos h2]at hst
   simp -implicitDefEqProofs [h2,hjn,hb1]
   exact⟨k-1,by omega,j+1,by omega,by simp[hw],by rw[hst];simp,by rw[hst]⟩
  ·rw[if_neg h2,List.append_nil]at hst
   simp -implicitDefEqProofs [h2]
   exact⟨k-1,by omega,j+1,by omega,by simp[hw],by rw[hst],by rw[hst]⟩
 ·have e2:=Nh (p:=KQ path) (xs:=vs) (j:=j) (by omega)
  simp -implicitDefEqProofs [hjn,e2]
theorem Ahi (D:Dn) (hA:BK (D FM)) (hH:Gb (D Uz)) (hP:FN (D L9)):Gc (Body D Lb):=by
 intro path vs hb hv
 simp -implicitDefEqProofs
 refine Aa (hA vs (by unfold maxLen;omega)) ?_
 by_cases h1:A9 vs=true
 rotate_left
 ·have e:Bj path vs=[]:=by unfold Bj;rw[if_neg h1]
  rw[e]
  simp -implicitDefEqProofs [h1]
 have e:Bj path vs=vs.filter (KQ path):=by unfold Bj;rw[if_pos h1]
 rw[e]
 simp -implicitDefEqProofs [h1]
 refine Ae (fun k s=>∃j v4 o1 o2 o3 o4 o5 o6 o7 o8,j+k=vs.length∧s=⟨[.sl 1 4 path.length (path.flatMap CF),.undef,.undef,.arr 9,v4,.undef,.undef,.sl 1 1 vs.length (ints vs),I vs.length,I j,.undef,.undef],[.free,o1,o2,o3,o4,o5,o6,o7,o8,.arr 1 0 ((vs.take j).filter (KQ path)).length (ints ((vs.take j).filter (KQ path)))]⟩) ?_ (vs.length) _ ⟨0,.undef,.free,.free,.free,.free,.free,.free,.free,.free,by simp,by simp⟩
 intro k s ⟨j,v4,o1,o2,o3,o4,o5,o6,o7,o8,hj,hs⟩
 subst hs
 by_cases hjn:j<vs.length
 ·have hw:IntKind.i64.wrap ((j:Int)+1)=(j+1:Nat):=by rw[Ad (by omega) (by omega)];simp
  have hst:=LH (p:=KQ path) hjn
  have hfl:=OM (p:=KQ path) (xs:=vs) (j:=j)
  have hb1:(((vs.take j).filter (KQ path)).length+1)*8≤1099511627776:=by omega
  simp -implicitDefEqProofs [hjn]
  refine Aa (hH [vs[j]] (by simp)) ?_
  simp -implicitDefEqProofs
  refine Aa (hP path ⟨[vs[j]],[]⟩ hb ⟨by simp,Adb⟩) ?_
  have hq:KQ path vs[j]= !(A7 path ⟨[vs[j]],[]⟩).2:=rfl
  generalize A7 path ⟨[vs[j]],[]⟩=r at hq
  by_cases h2:r.2=true
  ·have h3:¬KQ path vs[j]=true:=by rw[hq,h2];simp
   rw[if_neg h3,List.append_nil]at hst
   simp -implicitDefEqProofs [h2]
   exact⟨k-1,by omega,j+1,by omega,by simp[hw],by rw[hst],by rw[hst]⟩
  ·have h3:KQ path vs[j]=true:=by rw[hq];simpa using h2
   rw[if_pos h3]at hst
   simp -implicitDefEqProofs [h2,hb1]
   exact⟨k-1,by omega,j+1,by omega,by simp[hw],by rw[hst];simp,by rw[hst]⟩
 ·have e2:=Nh (p:=KQ path) (xs:=vs) (j:=j) (by omega)
  simp -implicitDefEqProofs [hjn,e2]
end Go.Eng.T
namespace Go.Eng.T
set_option maxRecDepth 20000
set_option maxHeartbeats 1000000
def Y0 (l:List Int):Int:=l.foldl (fun a v=>if v>a then v else a) 0
theorem Awm {x:Int}:∀(l:List Int) (a:Int),(∀y,y∈l→y<x)→a<x→l.foldl (fun a v=>if v>a then v else a) a<x
 | [],a,_,h=>h
 | y::l,a,hl,h=>by
  simp only[List.foldl_cons]
  refine Awm l _ (fun z hz=>hl z (by simp[hz])) ?_
  split
  ·exact hl y (by simp)
  ·exact h
theorem AiU {xs:List Int}:∀(n:Nat),K9 xs n=true→∀i j,i<j→j<n→xs.getD i 0<xs.getD j 0
 | 0,_,i,j,_,h=>by omega
 | n+1,hr,i,j,hij,hj=>by
  rw[SK]at hr
  simp only[Bool.and_eq_true,Bool.or_eq_true,decide_eq_true_eq]at hr
  obtain⟨h1,_,h3⟩:=hr
  by_cases hjn:j<n
  ·exact AiU n h1 i j hij hjn
  ·obtain rfl:j=n:=by omega
   have h4:xs.getD (j-1) 0<xs.getD j 0:=by
    rcases h3 with h3 | h3
    ·omega
    ·exact h3
   by_cases he:i=j-1
   ·rw[he];exact h4
   ·have:=AiU j h1 i (j-1) (by omega) (by omega)
    omega
theorem AAP {xs:List Int} {n i:Nat} (h:K9 xs n=true) (hi:i<n):InV (xs.getD i 0) 1 9:=by
 unfold K9 at h
 have:=List.all_eq_true.1 h i (List.mem_range.2 hi)
 simp at this
 exact⟨this.1.1,this.1.2⟩
theorem An0 {xs:List Int} (h:A9 xs=true):xs.Pairwise (· < ·):=by
 unfold A9 at h
 simp only[Bool.and_eq_true,decide_eq_true_eq]at h
 rw[List.pairwise_iff_getElem]
 intro i j hi hj hij
 have:=AiU _ h.1 i j hij hj
 rwa [Xm hi,Xm hj]at this
theorem Awj {xs:List Int} (h:A9 xs=true):∀x,x∈xs→InV x 1 9:=by
 unfold A9 at h
 simp only[Bool.and_eq_true,decide_eq_true_eq]at h
 intro x hx
 obtain⟨i,hi,rfl⟩:=List.getElem_of_mem hx
 have:=AAP h.1 hi
 rwa [Xm hi]at this
theorem Ayr {l:List Int} (hp:l.Pairwise (· < ·)) (h0:∀x,x∈l→0<x) (hn:0<l.length):Y0 l=l[l.length-1]:=by
 obtain⟨l',x,rfl⟩:∃l' x,l=l'++ [x]:=by
  rcases List.eq_nil_or_concat l with h | ⟨l',x,h⟩
  ·rw[h]at hn;simp at hn
  ·exact⟨l',x,by simpa using h⟩
 rw[List.pairwise_append]at hp
 have h1:Y0 l' <x:=Awm l' 0 (fun y hy=>hp.2.2 y hy x (by simp)) (h0 x (by simp))
 have h2:Y0 (l'++ [x])=if x>Y0 l' then x else Y0 l':=by unfold Y0;rw[List.foldl_append];rfl
 rw[h2,if_pos h1]
 simp
def BJ (a b:List Int):Int:=if A9 a=true∧A9 b=true then Y0 (common a b)else 0
abbrev EX (R:Rel):Prop:=∀a b:List Int,a.length≤4194304→b.length≤4194304→R [.sl 1 1 a.length (ints a),.sl 1 1 b.length (ints b)] [] (I (BJ a b)) []
theorem ml {n:Nat} (h:n≤4194304):n≤maxLen:=by unfold maxLen;omega
theorem AmY (D:Dn) (hC:Lu (D AjR)) (hA:BK (D EJ)):EX (Body D NI):=by
 intro a b ha hb
 have hcl:(common a b).length≤4194304:=Nat.le_trans (List.length_filter_le _ _) ha
 simp -implicitDefEqProofs
 refine Aa (hC a b ha (ml hb)) ?_
 simp -implicitDefEqProofs
 refine Aa (hA a (ml ha)) ?_
 by_cases h1:A9 a=true
 rotate_left
 ·simp -implicitDefEqProofs [h1,BJ]
 simp -implicitDefEqProofs [h1]
 refine Aa (hA b (ml hb)) ?_
 by_cases h2:A9 b=true
 rotate_left
 ·simp -implicitDefEqProofs [h2,BJ]
 have e:BJ a b=Y0 (common a b):=by unfold BJ;rw[if_pos ⟨h1,h2⟩]
 rw[e]
 by_cases h3:common a b=[]
 ·simp -implicitDefEqProofs [h2,h3,Y0]
 have h4:0<(common a b).length:=List.length_pos_iff.2 h3
 have h5:=Ayr (l:=common a b) ((An0 h1).filter _) (fun x hx=>by have:=Awj h1 x (List.mem_filter.1 hx).1;omega) h4
 rw[h5]
 generalize common a b=l at h3 h4 hcl
 have hw:IntKind.i64.wrap ((l.length:Int)-1)=((l.length-1:Nat):Int):=by rw[Ad (by omega) (by omega)];omega
 have h6:l.length-1<l.length:=by omega
 simp -implicitDefEqProofs [h2,h3,hw,h6,h4]
theorem AlB (D:Dn) (hC:Lu (D Ajn)) (hA:BK (D FM)):EX (Body D N7):=by
 intro a b ha hb
 have hcl:(common a b).length≤4194304:=Nat.le_trans (List.length_filter_le _ _) ha
 simp -implicitDefEqProofs
 refine Aa (hA a (ml ha)) ?_
 by_cases h1:A9 a=true
 rotate_left
 ·simp -implicitDefEqProofs [h1,BJ]
 simp -implicitDefEqProofs [h1]
 refine Aa (hA b (ml hb)) ?_
 by_cases h2:A9 b=true
 rotate_left
 ·simp -implicitDefEqProofs [h2,BJ]
 have e:BJ a b=Y0 (common a b):=by unfold BJ;rw[if_pos ⟨h1,h2⟩]
 rw[e]
 simp -implicitDefEqProofs [h2]
 refine Aa (hC a b ha (ml hb)) ?_
 generalize common a b=l at hcl
 simp -implicitDefEqProofs
 refine Ae (fun k s=>∃j,j+k=l.length∧s=⟨[.undef,.undef,.undef,.sc (.int .i64 (Y0 (l.take j))),.undef,.undef,.arr 0,.sc (.int .i64 l.length),.sc (.int .i64 j),.undef],[.arr 1 0 l.length (ints l)]⟩) ?_ l.length _ ⟨0,by simp,by simp[Y0]⟩
 intro k s ⟨j,hj,hs⟩
 subst hs
 by_cases hjn:j<l.length
 ·have hw:IntKind.i64.wrap ((j:Int)+1)=(j+1:Nat):=by rw[Ad (by omega) (by omega)];simp
  have hst:Y0 (l.take (j+1))=if l[j]>Y0 (l.take j)then l[j]else Y0 (l.take j):=by
   have e:l.take (j+1)=l.take j++ [l[j]]:=by simp
   unfold Y0
   rw[e,List.foldl_append];rfl
  simp -implicitDefEqProofs [hjn]
  exact⟨k-1,by omega,j+1,by omega,by rw[hst],by simp[hw]⟩
 ·have hx:l.take j=l:=List.take_of_length_le (by omega)
  simp -implicitDefEqProofs [hjn,hx]
end Go.Eng.T
namespace Go.Eng.T
set_option maxRecDepth 20000
def AgU {α:Type} (p:α→Bool):List α→Nat→List Int
 | [],_=> []
 | x::r,i=>if p x then(i:Int)::AgU p r (i+1)else AgU p r (i+1)
theorem AsT {α:Type} {p:α→Bool} (b:List α):∀(a:List α) (i:Nat),AgU p (a++b) i=AgU p a i++AgU p b (i+a.length)
 | [],i=>by simp[AgU]
 | x::r,i=>by
  have:=AsT (p:=p) b r (i+1)
  simp only[List.cons_append,AgU,this,List.length_cons]
  rw[show i+1+r.length=i+(r.length+1)by omega]
  by_cases h:p x=true<;>simp[h]
theorem ANn {α:Type} {p:α→Bool} {xs:List α} {j:Nat} (h:j<xs.length):AgU p (xs.take (j+1)) 0=AgU p (xs.take j) 0++(if p xs[j]then [(j:Int)]else []):=by
 have e:xs.take (j+1)=xs.take j++ [xs[j]]:=by simp
 rw[e,AsT]
 have hl:(xs.take j).length=j:=by simp;omega
 by_cases hp:p xs[j]=true<;>simp[AgU,hp,hl]
theorem AaN {α:Type} {p:α→Bool} {xs:List α} {j:Nat} (h:xs.length≤j):AgU p (xs.take j) 0=AgU p xs 0:=by rw[List.take_of_length_le h]
theorem Az6 {α:Type} {p:α→Bool}:∀(xs:List α) (i:Nat),(AgU p xs i).length≤xs.length
 | [],_=>by simp[AgU]
 | x::r,i=>by
  have:=Az6 (p:=p) r (i+1)
  by_cases h:p x=true
  ·simp[AgU,h];omega
  ·simp[AgU,h];omega
theorem Avd {w:World} (h:Ay w≤4194304) {j:Nat} (hj:j<w.ends.length):w.ends[j].versions.length≤maxLen:=by
 have:=size_at (f:=Ac) hj
 have e:Ac w.ends[j]=w.ends[j].versions.length+w.ends[j].tags.length+Bw Ct w.ends[j].path:=rfl
 unfold Ay at h
 unfold maxLen;omega
end Go.Eng.T
namespace Go.Eng.T
set_option maxRecDepth 20000
set_option maxHeartbeats 1000000
def Jh (xs:List (List Int)):List V:=xs.map fun l=> .sl 0 1 l.length (ints l)
@[simp high] theorem AGv (xs:List (List Int)):(Jh xs).length=xs.length:=by simp[Jh]
@[simp] theorem AGj:Jh []=[]:=rfl
@[simp] theorem AG8 (xs:List (List Int)):(Jh xs).map (AZ 0)=Jh xs:=by simp[Jh,Function.comp_def,AZ]
@[simp high] theorem AG4 {xs:List (List Int)} {j:Nat} (h:j<xs.length):(Jh xs)[j]? =some (V.sl 0 1 xs[j].length (ints xs[j])):=by simp[Jh,h]
theorem Auh (xs:List (List Int)) (l:List Int) {n:Nat} (h:n=l.length):Jh xs++ [.sl 0 1 n (ints l)]=Jh (xs++ [l]):=by subst h;simp[Jh]
def IA (xs:List (List Int)):Nat:=Bw List.length xs
theorem Yu {xs:List (List Int)} {j:Nat} (h:j<xs.length):xs[j].length≤IA xs:=size_at (f:=List.length) h
theorem Rv {xs:List (List Int)}:xs.length≤IA xs:=IK
def GY (w:World):List (List Int):=w.ends.map (·.versions)
abbrev Kz (R:Rel):Prop:=∀w:World,Ay w≤4194304→R [arg (EF w)] [] (.sl 0 1 (GY w).length (Jh (GY w))) []
theorem Aj0 {xs:List AL} {j:Nat} (h:j<xs.length):Jh ((xs.map (·.versions)).take j)++ [.sl 0 1 xs[j].versions.length (ints xs[j].versions)]=Jh ((xs.map (·.versions)).take (j+1)):=by
 have h':j<(xs.map (·.versions)).length:=by simpa using h
 have e:(xs.map (·.versions)).take (j+1)=(xs.map (·.versions)).take j++ [xs[j].versions]:=by
  have:=List.take_append_getElem h'
  rw[←this];simp
 rw[e,Auh _ _ rfl]
theorem AuR (D:Dn):Kz (Body D TU):=by
 intro w h
 have hl:=JQ h
 have hres:GY w=w.ends.map (·.versions):=rfl
 rw[hres]
 simp -implicitDefEqProofs
 refine Ae (fun k s=>∃j o2 o3 o4 o5,j+k=w.ends.length∧s=⟨[.undef,.ptr 0 0,.undef,.arr 6,.sc (.int .i64 j),.undef],[.var ((EF w).map (AZ 1)),.free,o2,o3,o4,o5,.arr 1 0 j (Jh ((w.ends.take j).map (·.versions)))]⟩) ?_ w.ends.length _ ⟨0,.free,.free,.free,.free,by simp,by simp⟩
 intro k s ⟨j,o2,o3,o4,o5,hj,hs⟩
 subst hs
 by_cases hjn:j<w.ends.length
 ·have hw:IntKind.i64.wrap ((j:Int)+1)=(j+1:Nat):=by rw[Ad (by omega) (by omega)];simp
  have hst:=Aj0 hjn
  have hvl:=Avd h hjn
  unfold maxLen at hvl
  have h2:w.ends[j].versions.length≤4194304:=by
   have:=size_at (f:=Ac) hjn
   have e:Ac w.ends[j]=w.ends[j].versions.length+w.ends[j].tags.length+Bw Ct w.ends[j].path:=rfl
   unfold Ay at h
   omega
  have hb:w.ends[j].versions.length*8≤1099511627776:=by omega
  have hb2:(j+1)*24≤1099511627776:=by omega
  have hjl:min j w.ends.length=j:=by omega
  simp -implicitDefEqProofs [hjn,hb,hb2,hjl]
  exact⟨k-1,by omega,j+1,by omega,by simp[hw],rfl,hst⟩
 ·obtain rfl:j=w.ends.length:=by omega
  simp -implicitDefEqProofs
theorem Avs (D:Dn):Kz (Body D TJ):=by
 intro w h
 have hl:=JQ h
 have hres:GY w=w.ends.map (·.versions):=rfl
 rw[hres]
 simp -implicitDefEqProofs
 refine Ae (fun k s=>∃j o2 o3 o4 o5 o6,j+k=w.ends.length∧s=⟨[.undef,.undef,.undef,.arr 7,.undef,.sl 1 4 w.ends.length (w.ends.flatMap Ak),.sc (.int .i64 w.ends.length),.sc (.int .i64 j),.undef],[.var ((EF w).map (AZ 1)),.free,o2,o3,o4,o5,o6,.arr 1 0 j (Jh ((w.ends.take j).map (·.versions)))]⟩) ?_ w.ends.length _ ⟨0,.free,.free,.free,.free,.free,by simp,by simp⟩
 intro k s ⟨j,o2,o3,o4,o5,o6,hj,hs⟩
 subst hs
 by_cases hjn:j<w.ends.length
 ·have hw:IntKind.i64.wrap ((j:Int)+1)=(j+1:Nat):=by rw[Ad (by omega) (by omega)];simp
  have hst:=Aj0 hjn
  have h2:w.ends[j].versions.length≤4194304:=by
   have:=size_at (f:=Ac) hjn
   have e:Ac w.ends[j]=w.ends[j].versions.length+w.ends[j].tags.length+Bw Ct w.ends[j].path:=rfl
   unfold Ay at h
   omega
  have hb:w.ends[j].versions.length*8≤1099511627776:=by omega
  have hb2:(j+1)*24≤1099511627776:=by omega
  have hjl:min j w.ends.length=j:=by omega
  simp -implicitDefEqProofs [hjn,hb,hb2,hjl]
  exact⟨k-1,by omega,j+1,by omega,by simp[hw],rfl,hst⟩
 ·obtain rfl:j=w.ends.length:=by omega
  simp -implicitDefEqProofs
abbrev Kh (ls:List (List Int)):V:= .sl 1 1 ls.length (Jh ls)
def AaZ (s:List Int) (v:Int) (l:List Int):Bool:=decide (BJ s l=v)
def ALN (s:List Int) (ls:List (List Int)) (v:Int):Nat:=if 1≤v then cntF (AaZ s v) ls else 0
abbrev Afg (R:Rel):Prop:=∀(s:List Int) (ls:List (List Int)) (v:Int),s.length≤4194304→IA ls≤4194304→R [.sl 1 1 s.length (ints s),Kh ls,I v] [] (I (ALN s ls v)) []
theorem AN3 (D:Dn) (hB:EX (D NC)):Afg (Body D AL4):=by
 intro s ls v hs0 hl
 have hll:=Rv (xs:=ls)
 by_cases hv:1≤v
 rotate_left
 ·have e:ALN s ls v=0:=by unfold ALN;rw[if_neg hv]
  simp -implicitDefEqProofs [e]
  refine Ae (fun k st=>st=⟨[.sl 1 1 s.length (ints s),Kh ls,I v,.undef,.sc (.int .i64 0),.sc (.int .i64 0),.undef,.undef],[]⟩) ?_ 0 _ (by simp)
  intro k st hs
  subst hs
  by_cases h0:0<ls.length
  ·have h0':(0:Int)<ls.length:=by omega
   simp -implicitDefEqProofs [hv,h0,h0']
  ·have h0':¬(0:Int)<ls.length:=by omega
   simp -implicitDefEqProofs [hv,h0,h0']
 have e:ALN s ls v=cntF (AaZ s v) ls:=by unfold ALN;rw[if_pos hv]
 rw[e]
 simp -implicitDefEqProofs
 refine Ae (fun k st=>∃j,j+k=ls.length∧st=⟨[.sl 1 1 s.length (ints s),Kh ls,I v,.undef,.sc (.int .i64 (cntF (AaZ s v) (ls.take j))),.sc (.int .i64 j),.undef,.undef],[]⟩) ?_ ls.length _ ⟨0,by simp,by simp[cntF]⟩
 intro k st ⟨j,hj,hs⟩
 subst hs
 by_cases hjn:j<ls.length
 ·have hw:IntKind.i64.wrap ((j:Int)+1)=(j+1:Nat):=by rw[Ad (by omega) (by omega)];simp
  have hc:=Adn (f:=AaZ s v) hjn
  have hcl:=ApG (f:=AaZ s v) (xs:=ls) (j:=j) (by omega)
  have hw2:IntKind.i64.wrap ((cntF (AaZ s v) (ls.take j):Int)+1)=(cntF (AaZ s v) (ls.take j)+1:Nat):=by rw[Ad (by omega) (by omega)];simp
  have hra:=Yu hjn
  simp -implicitDefEqProofs [hjn,hv]
  refine Aa (hB s _ hs0 (by omega)) ?_
  by_cases he:BJ s ls[j]=v
  ·simp -implicitDefEqProofs [he]
   exact⟨k-1,by omega,j+1,by omega,by rw[hc,hw2];simp[AaZ,he],by simp[hw]⟩
  ·simp -implicitDefEqProofs [he]
   exact⟨k-1,by omega,j+1,by omega,by rw[hc];simp[AaZ,he],by simp[hw]⟩
 ·have hx:=Aia (f:=AaZ s v) (xs:=ls) (j:=j) (by omega)
  simp -implicitDefEqProofs [hjn,hx]
theorem AKu (D:Dn) (hB:EX (D Ou)):Afg (Body D Amt):=by
 intro s ls v hs0 hl
 have hll:=Rv (xs:=ls)
 by_cases hv:1≤v
 rotate_left
 ·have e:ALN s ls v=0:=by unfold ALN;rw[if_neg hv]
  have hv':v<1:=by omega
  simp -implicitDefEqProofs [e,hv']
 have e:ALN s ls v=cntF (AaZ s v) ls:=by unfold ALN;rw[if_pos hv]
 have hv':¬v<1:=by omega
 rw[e]
 simp -implicitDefEqProofs [hv']
 refine Ae (fun k st=>∃j,j+k=ls.length∧st=⟨[.sl 1 1 s.length (ints s),.undef,I v,.undef,.sc (.int .i64 (cntF (AaZ s v) (ls.take j))),.undef,.undef,Kh ls,.sc (.int .i64 ls.length),.sc (.int .i64 j),.undef,.undef],[]⟩) ?_ ls.length _ ⟨0,by simp,by simp[cntF]⟩
 intro k st ⟨j,hj,hs⟩
 subst hs
 by_cases hjn:j<ls.length
 ·have hw:IntKind.i64.wrap ((j:Int)+1)=(j+1:Nat):=by rw[Ad (by omega) (by omega)];simp
  have hc:=Adn (f:=AaZ s v) hjn
  have hcl:=ApG (f:=AaZ s v) (xs:=ls) (j:=j) (by omega)
  have hw2:IntKind.i64.wrap ((cntF (AaZ s v) (ls.take j):Int)+1)=(cntF (AaZ s v) (ls.take j)+1:Nat):=by rw[Ad (by omega) (by omega)];simp
  have hra:=Yu hjn
  simp -implicitDefEqProofs [hjn,hv]
  refine Aa (hB s _ hs0 (by omega)) ?_
  by_cases he:BJ s ls[j]=v
  ·simp -implicitDefEqProofs [he]
   exact⟨k-1,by omega,j+1,by omega,by rw[hc,hw2];simp[AaZ,he],by simp[hw]⟩
  ·simp -implicitDefEqProofs [he]
   exact⟨k-1,by omega,j+1,by omega,by rw[hc];simp[AaZ,he],by simp[hw]⟩
 ·have hx:=Aia (f:=AaZ s v) (xs:=ls) (j:=j) (by omega)
  simp -implicitDefEqProofs [hjn,hx]
def AHJ (s:List Int) (v:Int) (l:List Int):Bool:=decide (0<BJ s l)&&decide (BJ (AB3 s v) l=0)
def AGY (s:List Int) (ls:List (List Int)) (v:Int):List Int:=AgU (AHJ s v) ls 0
abbrev Q9 (R:Rel):Prop:=∀(s:List Int) (ls:List (List Int)) (v:Int),s.length≤4194304→IA ls≤4194304→R [.sl 1 1 s.length (ints s),Kh ls,I v] [] (.sl 0 1 (AGY s ls v).length (ints (AGY s ls v))) []
theorem AgA (D:Dn) (hB:EX (D NC)) (hW:GL (D AxS)):Q9 (Body D ALT):=by
 intro s ls v hs0 hl
 have hll:=Rv (xs:=ls)
 have hres:AGY s ls v=AgU (AHJ s v) ls 0:=rfl
 have hwl:=List.length_filter_le (fun x=> !decide (x=v)) s
 rw[hres]
 simp -implicitDefEqProofs
 refine Aa (hW s v hs0) ?_
 simp -implicitDefEqProofs
 refine Ae (fun k st=>∃j o2 o3,j+k=ls.length∧st=⟨[.sl 1 1 s.length (ints s),Kh ls,.undef,.undef,.arr 4,.arr 1,.sc (.int .i64 j),.undef,.undef],[.free,.arr 1 0 (AB3 s v).length (ints (AB3 s v)),o2,o3,.arr 1 0 (AgU (AHJ s v) (ls.take j) 0).length (ints (AgU (AHJ s v) (ls.take j) 0))]⟩) ?_ ls.length _ ⟨0,.free,.free,by simp,by simp[AgU]⟩
 intro k st ⟨j,o2,o3,hj,hs⟩
 subst hs
 by_cases hjn:j<ls.length
 ·have hw:IntKind.i64.wrap ((j:Int)+1)=(j+1:Nat):=by rw[Ad (by omega) (by omega)];simp
  have hst:=ANn (p:=AHJ s v) hjn
  have hln:=Az6 (p:=AHJ s v) (ls.take j) 0
  have htl:(ls.take j).length≤j:=by simp;omega
  have hb:((AgU (AHJ s v) (ls.take j) 0).length+1)*8≤1099511627776:=by omega
  have hra:=Yu hjn
  simp -implicitDefEqProofs [hjn]
  refine Aa (hB s _ hs0 (by omega)) ?_
  by_cases h1:0<BJ s ls[j]
  rotate_left
  ·rw[if_neg (by simp[AHJ,h1]),List.append_nil]at hst
   simp -implicitDefEqProofs [h1]
   exact⟨k-1,by omega,j+1,by omega,by simp[hw],by rw[hst],by rw[hst]⟩
  simp -implicitDefEqProofs [h1,hjn]
  refine Aa (hB (AB3 s v) ls[j] (by unfold AB3;omega) (by omega)) ?_
  by_cases h2:BJ (AB3 s v) ls[j]=0
  ·rw[if_pos (by simp[AHJ,h1,h2])]at hst
   simp -implicitDefEqProofs [h2,hb]
   exact⟨k-1,by omega,j+1,by omega,by simp[hw],by rw[hst];simp,by rw[hst]⟩
  ·rw[if_neg (by simp[AHJ,h1,h2]),List.append_nil]at hst
   simp -implicitDefEqProofs [h2]
   exact⟨k-1,by omega,j+1,by omega,by simp[hw],by rw[hst],by rw[hst]⟩
 ·have hx:=AaN (p:=AHJ s v) (xs:=ls) (j:=j) (by omega)
  simp -implicitDefEqProofs [hjn,hx]
theorem AJZ (D:Dn) (hB:EX (D Ou)) (hW:Aj2 (D OE)):Q9 (Body D AgZ):=by
 intro s ls v hs0 hl
 have hll:=Rv (xs:=ls)
 have hres:AGY s ls v=AgU (AHJ s v) ls 0:=rfl
 have hwl:=List.length_filter_le (fun x=> !decide (x=v)) s
 rw[hres]
 simp -implicitDefEqProofs
 refine Aa (hW s v hs0) ?_
 simp -implicitDefEqProofs
 refine Ae (fun k st=>∃j v6 v7 o1 o3 o4,j+k=ls.length∧st=⟨[.sl 1 1 s.length (ints s),.undef,.undef,.undef,.arr 5,.arr 2,v6,v7,Kh ls,.sc (.int .i64 ls.length),.sc (.int .i64 j),.undef,.undef],[.free,o1,.arr 1 0 (AB3 s v).length (ints (AB3 s v)),o3,o4,.arr 1 0 (AgU (AHJ s v) (ls.take j) 0).length (ints (AgU (AHJ s v) (ls.take j) 0))]⟩) ?_ ls.length _ ⟨0,.undef,.undef,.arr 1 0 1 [.sc (.int .i64 v)],.free,.free,by simp,by simp[AgU]⟩
 intro k st ⟨j,v6,v7,o1,o3,o4,hj,hs⟩
 subst hs
 by_cases hjn:j<ls.length
 ·have hw:IntKind.i64.wrap ((j:Int)+1)=(j+1:Nat):=by rw[Ad (by omega) (by omega)];simp
  have hst:=ANn (p:=AHJ s v) hjn
  have hln:=Az6 (p:=AHJ s v) (ls.take j) 0
  have htl:(ls.take j).length≤j:=by simp;omega
  have hb:((AgU (AHJ s v) (ls.take j) 0).length+1)*8≤1099511627776:=by omega
  have hra:=Yu hjn
  simp -implicitDefEqProofs [hjn]
  refine Aa (hB s _ hs0 (by omega)) ?_
  by_cases h1:0<BJ s ls[j]
  rotate_left
  ·rw[if_neg (by simp[AHJ,h1]),List.append_nil]at hst
   simp -implicitDefEqProofs [h1]
   exact⟨k-1,by omega,j+1,by omega,by simp[hw],by rw[hst],by rw[hst]⟩
  simp -implicitDefEqProofs [h1,hjn]
  refine Aa (hB (AB3 s v) ls[j] (by unfold AB3;omega) (by omega)) ?_
  by_cases h2:BJ (AB3 s v) ls[j]=0
  ·rw[if_pos (by simp[AHJ,h1,h2])]at hst
   simp -implicitDefEqProofs [h2,hb]
   exact⟨k-1,by omega,j+1,by omega,by simp[hw],by rw[hst];simp,by rw[hst]⟩
  ·rw[if_neg (by simp[AHJ,h1,h2]),List.append_nil]at hst
   simp -implicitDefEqProofs [h2]
   exact⟨k-1,by omega,j+1,by omega,by simp[hw],by rw[hst],by rw[hst]⟩
 ·have hx:=AaN (p:=AHJ s v) (xs:=ls) (j:=j) (by omega)
  simp -implicitDefEqProofs [hjn,hx]
theorem Alz (s:List Int) (ls:List (List Int)) (v:Int):ALN s ls v≤ls.length:=by
 unfold ALN
 split
 ·have:=ApG (f:=AaZ s v) (xs:=ls) (j:=ls.length) (by omega)
  rwa [List.take_length]at this
 ·omega
def Fa (s:List Int) (ls:List (List Int)) (v pm:Int):Bool:=A9 s&&(decide (v∈s)&&(!decide (s.length=1)&&(decide (InV pm 0 1000)&&(decide (AGY s ls v=[])&&decide (1000*(ALN s ls v:Int)≤pm*(ls.length:Int))))))
abbrev O1 (R:Rel):Prop:=∀(s:List Int) (ls:List (List Int)) (v pm:Int),s.length≤4194304→IA ls≤4194304→R [.sl 1 1 s.length (ints s),Kh ls,I v,I pm] [] (B (Fa s ls v pm)) []
theorem ANs (D:Dn) (hA:BK (D EJ)) (hH:R6 (D Jl)) (hI:SG (D CB)) (hS:Q9 (D AzQ)) (hU:Afg (D AEX)):O1 (Body D JZ):=by
 intro s ls v pm hs0 hl
 have hll:=Rv (xs:=ls)
 simp -implicitDefEqProofs
 refine Aa (hA s (by unfold maxLen;omega)) ?_
 by_cases h1:A9 s=true
 rotate_left
 ·simp -implicitDefEqProofs [h1,Fa]
 simp -implicitDefEqProofs [h1]
 refine Aa (hH s v (by unfold maxLen;omega)) ?_
 by_cases h2:v∈s
 rotate_left
 ·simp -implicitDefEqProofs [h1,h2,Fa]
 by_cases h3:s.length=1
 ·have h3':(s.length:Int)=1:=by omega
  simp -implicitDefEqProofs [h1,h2,h3,h3',Fa]
 have h3':¬(s.length:Int)=1:=by omega
 simp -implicitDefEqProofs [h1,h2,h3,h3']
 refine Aa (hI _ _ _) ?_
 by_cases h4:InV pm 0 1000
 rotate_left
 ·simp -implicitDefEqProofs [h1,h2,h3,h3',h4,Fa]
 simp -implicitDefEqProofs [h3,h3',h4]
 refine Aa (hS s ls v hs0 hl) ?_
 by_cases h5:(AGY s ls v).length=0
 rotate_left
 ·have h5':¬((AGY s ls v).length:Int)=0:=by omega
  have h5'':¬AGY s ls v=[]:=by intro h;rw[h]at h5;simp at h5
  simp -implicitDefEqProofs [h5,h5',h5'',h1,h2,h3,h4,Fa]
 have h5'':AGY s ls v=[]:=List.eq_nil_of_length_eq_zero h5
 simp -implicitDefEqProofs [h5'']
 refine Aa (hU s ls v hs0 hl) ?_
 have hu:=Alz s ls v
 have w1:IntKind.i64.wrap (1000*(ALN s ls v:Int))=1000*(ALN s ls v:Int):=Ad (by omega) (by omega)
 have w2:IntKind.i64.wrap (pm*(ls.length:Int))=pm*(ls.length:Int):=by
  have a1:0≤pm*(ls.length:Int):=Int.mul_nonneg h4.1 (by omega)
  have a2:pm*(ls.length:Int)≤1000*4194304:=Int.mul_le_mul h4.2 (by omega) (by omega) (by omega)
  exact Ad (by omega) (by omega)
 simp -implicitDefEqProofs [h1,h2,h3,h3',h4,h5'',w1,w2,Fa]
theorem AJu (D:Dn) (hA:BK (D FM)) (hH:R6 (D Bn)) (hI:SG (D Bz)) (hS:Q9 (D ABO)) (hU:Afg (D AEI)):O1 (Body D Ach):=by
 intro s ls v pm hs0 hl
 have hll:=Rv (xs:=ls)
 simp -implicitDefEqProofs
 refine Aa (hA s (by unfold maxLen;omega)) ?_
 by_cases h1:A9 s=true
 rotate_left
 ·simp -implicitDefEqProofs [h1,Fa]
 simp -implicitDefEqProofs [h1]
 refine Aa (hH s v (by unfold maxLen;omega)) ?_
 by_cases h2:v∈s
 rotate_left
 ·simp -implicitDefEqProofs [h1,h2,Fa]
 by_cases h3:s.length=1
 ·have h3':(s.length:Int)=1:=by omega
  simp -implicitDefEqProofs [h1,h2,h3,h3',Fa]
 have h3':¬(s.length:Int)=1:=by omega
 simp -implicitDefEqProofs [h1,h2,h3,h3']
 refine Aa (hI _ _ _) ?_
 by_cases h4:InV pm 0 1000
 rotate_left
 ·simp -implicitDefEqProofs [h1,h2,h3,h3',h4,Fa]
 simp -implicitDefEqProofs [h3,h3',h4]
 refine Aa (hS s ls v hs0 hl) ?_
 by_cases h5:(AGY s ls v).length=0
 rotate_left
 ·have h5':¬((AGY s ls v).length:Int)=0:=by omega
  have h5'':¬AGY s ls v=[]:=by intro h;rw[h]at h5;simp at h5
  simp -implicitDefEqProofs [h5,h5',h5'',h1,h2,h3,h4,Fa]
 have h5'':AGY s ls v=[]:=List.eq_nil_of_length_eq_zero h5
 simp -implicitDefEqProofs [h5'']
 refine Aa (hU s ls v hs0 hl) ?_
 have hu:=Alz s ls v
 have w1:IntKind.i64.wrap (1000*(ALN s ls v:Int))=1000*(ALN s ls v:Int):=Ad (by omega) (by omega)
 have w2:IntKind.i64.wrap (pm*(ls.length:Int))=pm*(ls.length:Int):=by
  have a1:0≤pm*(ls.length:Int):=Int.mul_nonneg h4.1 (by omega)
  have a2:pm*(ls.length:Int)≤1000*4194304:=Int.mul_le_mul h4.2 (by omega) (by omega) (by omega)
  exact Ad (by omega) (by omega)
 simp -implicitDefEqProofs [h1,h2,h3,h3',h4,h5'',w1,w2,Fa]
def F6 (s:List Int) (ls:List (List Int)) (v pm:Int):List Int×Bool:=if Fa s ls v pm=true then(AB3 s v,true)else(s,false)
abbrev G6 (R:Rel):Prop:=∀(s:List Int) (ls:List (List Int)) (v pm:Int),s.length≤4194304→IA ls≤4194304→R [.sl 1 1 s.length (ints s),Kh ls,I v,I pm] [] (.tup [.sl 0 1 (F6 s ls v pm).1.length (ints (F6 s ls v pm).1),B (F6 s ls v pm).2]) []
theorem AMv (D:Dn) (hM:O1 (D Azw)) (hW:GL (D AxS)):G6 (Body D ALl):=by
 intro s ls v pm hs0 hl
 have hll:=Rv (xs:=ls)
 have hb:s.length*8≤1099511627776:=by omega
 simp -implicitDefEqProofs
 refine Aa (hM s ls v pm hs0 hl) ?_
 by_cases h1:Fa s ls v pm=true
 rotate_left
 ·have e:F6 s ls v pm=(s,false):=by unfold F6;rw[if_neg h1]
  simp -implicitDefEqProofs [h1,e,hb]
 have e:F6 s ls v pm=(AB3 s v,true):=by unfold F6;rw[if_pos h1]
 simp -implicitDefEqProofs [h1,e]
 refine Aa (hW s v hs0) ?_
 simp -implicitDefEqProofs [h1,e]
theorem AH0 (D:Dn) (hM:O1 (D AyW)) (hW:Aj2 (D OE)):G6 (Body D Tx):=by
 intro s ls v pm hs0 hl
 have hll:=Rv (xs:=ls)
 have hb:s.length*8≤1099511627776:=by omega
 simp -implicitDefEqProofs
 refine Aa (hM s ls v pm hs0 hl) ?_
 by_cases h1:Fa s ls v pm=true
 rotate_left
 ·have e:F6 s ls v pm=(s,false):=by unfold F6;rw[if_neg h1]
  simp -implicitDefEqProofs [h1,e,hb]
 have e:F6 s ls v pm=(AB3 s v,true):=by unfold F6;rw[if_pos h1]
 simp -implicitDefEqProofs [h1,e]
 refine Aa (hW s v hs0) ?_
 simp -implicitDefEqProofs [h1,e]
theorem AgP {w:World} (h:Ay w≤4194304):w.server.length≤4194304:=by unfold Ay at h;omega
theorem AFp (xs:List AL):IA (xs.map (·.versions))≤Bw Ac xs:=by
 induction xs with
 | nil=>simp[IA,Bw]
 | cons x r ih=>
  simp only[IA,Bw,List.map_cons,List.sum_cons,List.length_cons,Ac,List.length_map]at *
  omega
theorem AcH {w:World} (h:Ay w≤4194304):IA (GY w)≤4194304:=by
 have:=AFp w.ends
 unfold Ay at h
 unfold GY
 omega
def BF (w:World) (v pm:Int):World×Bool:=if(F6 w.server (GY w) v pm).2=true∧¬v=w.rollout.version then({w with server:=(F6 w.server (GY w) v pm).1},true)else(w,false)
abbrev LZ (R:Rel):Prop:=∀(w:World) (v pm:Int),Ay w≤4194304→R [arg (EF w),I v,I pm] [] (.tup [.agg (EF (BF w v pm).1),B (BF w v pm).2]) []
theorem ANf (D:Dn) (hC:Ef (D ACA)) (hL:Kz (D Zu)) (hR:G6 (D Atm)):LZ (Body D HY):=by
 intro w v pm h
 simp -implicitDefEqProofs
 refine Aa (hC w h) ?_
 simp -implicitDefEqProofs
 refine Aa (hL w h) ?_
 simp -implicitDefEqProofs
 refine Aa (hR w.server (GY w) v pm (AgP h) (AcH h)) ?_
 by_cases h1:(F6 w.server (GY w) v pm).2=true
 rotate_left
 ·have e:BF w v pm=(w,false):=by unfold BF;rw[if_neg (by simp[h1])]
  simp -implicitDefEqProofs [h1,e]
 by_cases h2:v=w.rollout.version
 ·subst h2
  have e:BF w w.rollout.version pm=(w,false):=by unfold BF;rw[if_neg (by simp)]
  simp -implicitDefEqProofs [h1,e]
 have e:BF w v pm=({w with server:=(F6 w.server (GY w) v pm).1},true):=by unfold BF;rw[if_pos ⟨h1,h2⟩]
 simp -implicitDefEqProofs [h1,h2,e]
theorem AI5 (D:Dn) (hC:Ef (D AyU)) (hL:Kz (D ZI)) (hR:G6 (D Atw)):LZ (Body D Abe):=by
 intro w v pm h
 simp -implicitDefEqProofs
 refine Aa (hC w h) ?_
 simp -implicitDefEqProofs
 refine Aa (hL w h) ?_
 simp -implicitDefEqProofs
 refine Aa (hR w.server (GY w) v pm (AgP h) (AcH h)) ?_
 by_cases h1:(F6 w.server (GY w) v pm).2=true
 rotate_left
 ·have e:BF w v pm=(w,false):=by unfold BF;rw[if_neg (by simp[h1])]
  simp -implicitDefEqProofs [h1,e]
 by_cases h2:v=w.rollout.version
 ·subst h2
  have e:BF w w.rollout.version pm=(w,false):=by unfold BF;rw[if_neg (by simp)]
  simp -implicitDefEqProofs [h1,e]
 have e:BF w v pm=({w with server:=(F6 w.server (GY w) v pm).1},true):=by unfold BF;rw[if_pos ⟨h1,h2⟩]
 simp -implicitDefEqProofs [h1,h2,e]
end Go.Eng.T
namespace Go.Eng.T
set_option maxRecDepth 20000
set_option maxHeartbeats 1000000
def leftOf (a b:List Int):List Int:=a.filter fun v=> !decide (v∈b)
abbrev WC (R:Rel):Prop:=∀a b:List Int,a.length≤4194304→b.length≤4194304→R [.sl 1 1 a.length (ints a),.sl 1 1 b.length (ints b)] [] (.sl 0 1 (leftOf a b).length (ints (leftOf a b))) []
theorem AxI (D:Dn) (hH:R6 (D Jl)):WC (Body D Uo):=by
 intro a b ha hb
 have hres:leftOf a b=a.filter (fun v=> !decide (v∈b)):=rfl
 rw[hres]
 simp -implicitDefEqProofs
 refine Ae (fun k s=>∃j o1 o2,j+k=a.length∧s=⟨[.sl 1 1 a.length (ints a),.sl 1 1 b.length (ints b),.undef,.arr 3,I j,.undef,.undef],[.free,o1,o2,.arr 1 0 ((a.take j).filter (fun v=> !decide (v∈b))).length (ints ((a.take j).filter (fun v=> !decide (v∈b))))]⟩) ?_ (a.length) _ ⟨0,.free,.free,by simp,by simp⟩
 intro k s ⟨j,o1,o2,hj,hs⟩
 subst hs
 by_cases hjn:j<a.length
 ·have hw:IntKind.i64.wrap ((j:Int)+1)=(j+1:Nat):=by rw[Ad (by omega) (by omega)];simp
  have hst:=LH (p:=fun v=> !decide (v∈b)) hjn
  have hln:=OM (p:=fun v=> !decide (v∈b)) (xs:=a) (j:=j)
  have hbd:(((a.take j).filter (fun v=> !decide (v∈b))).length+1)*8≤1099511627776:=by omega
  simp -implicitDefEqProofs [hjn]
  refine Aa (hH b _ (by unfold maxLen;omega)) ?_
  by_cases h1:a[j]∈b
  ·rw[if_neg (by simp[h1]),List.append_nil]at hst
   simp -implicitDefEqProofs [h1,hjn,hbd]
   exact⟨k-1,by omega,j+1,by omega,by simp[hw],by rw[hst],by rw[hst]⟩
  ·rw[if_pos (by simp[h1])]at hst
   simp -implicitDefEqProofs [h1,hjn,hbd]
   exact⟨k-1,by omega,j+1,by omega,by simp[hw],by rw[hst];simp,by rw[hst]⟩
 ·have hx:=Nh (p:=fun v=> !decide (v∈b)) (xs:=a) (j:=j) (by omega)
  simp -implicitDefEqProofs [hjn,hx]
theorem AuX (D:Dn) (hH:R6 (D Bn)):WC (Body D Ut):=by
 intro a b ha hb
 have hres:leftOf a b=a.filter (fun v=> !decide (v∈b)):=rfl
 rw[hres]
 simp -implicitDefEqProofs
 refine Ae (fun k s=>∃j v4 o1 o2,j+k=a.length∧s=⟨[.undef,.sl 1 1 b.length (ints b),.undef,.arr 3,v4,.sl 1 1 a.length (ints a),I a.length,I j,.undef,.undef],[.free,o1,o2,.arr 1 0 ((a.take j).filter (fun v=> !decide (v∈b))).length (ints ((a.take j).filter (fun v=> !decide (v∈b))))]⟩) ?_ (a.length) _ ⟨0,.undef,.free,.free,by simp,by simp⟩
 intro k s ⟨j,v4,o1,o2,hj,hs⟩
 subst hs
 by_cases hjn:j<a.length
 ·have hw:IntKind.i64.wrap ((j:Int)+1)=(j+1:Nat):=by rw[Ad (by omega) (by omega)];simp
  have hst:=LH (p:=fun v=> !decide (v∈b)) hjn
  have hln:=OM (p:=fun v=> !decide (v∈b)) (xs:=a) (j:=j)
  have hbd:(((a.take j).filter (fun v=> !decide (v∈b))).length+1)*8≤1099511627776:=by omega
  simp -implicitDefEqProofs [hjn]
  refine Aa (hH b _ (by unfold maxLen;omega)) ?_
  by_cases h1:a[j]∈b
  ·rw[if_neg (by simp[h1]),List.append_nil]at hst
   simp -implicitDefEqProofs [h1,hjn,hbd]
   exact⟨k-1,by omega,j+1,by omega,by simp[hw],by rw[hst],by rw[hst]⟩
  ·rw[if_pos (by simp[h1])]at hst
   simp -implicitDefEqProofs [h1,hjn,hbd]
   exact⟨k-1,by omega,j+1,by omega,by simp[hw],by rw[hst];simp,by rw[hst]⟩
 ·have hx:=Nh (p:=fun v=> !decide (v∈b)) (xs:=a) (j:=j) (by omega)
  simp -implicitDefEqProofs [hjn,hx]
def upTo (xs:List Int) (i:Nat):Bool:=decide (i=0)||decide (xs.getD (i-1) 0<xs.getD i 0)
def HZ (xs:List Int):Bool:=Nl (upTo xs) xs.length&&allIn xs 0 255
abbrev MC (R:Rel):Prop:=∀xs:List Int,xs.length≤maxLen→R [.sl 1 1 xs.length (ints xs)] [] (B (HZ xs)) []
theorem AfI {xs:List Int} {j:Nat} (h:j<xs.length) (hn:¬Q5 xs[j] 0 255):HZ xs=false:=by unfold HZ;rw[AqU h hn];simp
theorem Yi {xs:List Int} {j:Nat} (h:j<xs.length) (hn:upTo xs j=false):HZ xs=false:=by unfold HZ;rw[AkG h hn];simp
theorem Ad6 (xs:List Int):upTo xs 0=true:=by simp[upTo]
theorem YF {xs:List Int} {j:Nat} (h0:¬j=0) (h:j<xs.length) (h':j-1<xs.length):upTo xs j=decide (xs[j-1]<xs[j]):=by
 unfold upTo
 rw[Xm h,Xm h']
 simp[h0]
theorem AtN (D:Dn) (hN:Jv (D Kb)):MC (Body D Ux):=by
 intro xs hl
 have hl0:=hl
 unfold maxLen at hl
 simp -implicitDefEqProofs
 refine Ae (fun k s=>∃j,j+k=xs.length∧Nl (upTo xs) j=true∧s=⟨[.sl 1 1 xs.length (ints xs),.undef,.undef,.undef,.sl 1 1 xs.length (ints xs),I xs.length,I j,.undef,.undef],[]⟩) ?_ (xs.length) _ ⟨0,by simp,by simp,by simp⟩
 intro k s ⟨j,hj,hr,hs⟩
 subst hs
 by_cases hjn:j<xs.length
 ·have hw:IntKind.i64.wrap ((j:Int)+1)=(j+1:Nat):=by rw[Ad (by omega) (by omega)];simp
  have hst:=IC (upTo xs) j
  rw[hr,Bool.true_and]at hst
  by_cases h0:j=0
  ·subst h0
   simp -implicitDefEqProofs [hjn]
   exact⟨k-1,by omega,1,by omega,by rw[hst,Ad6],by simpa using hw⟩
  ·have hw2:IntKind.i64.wrap ((j:Int)-1)=((j-1:Nat):Int):=by rw[Ad (by omega) (by omega)];omega
   have h2:(0:Int)<j:=by omega
   have h2':0<j:=by omega
   have h3:j-1<xs.length:=by omega
   rw[YF h0 hjn h3]at hst
   by_cases h4:xs[j-1]<xs[j]
   ·have h4':¬xs[j]≤xs[j-1]:=by omega
    simp -implicitDefEqProofs [h2,h2',hw2,h3,hjn,h4']
    exact⟨k-1,by omega,j+1,by omega,by rw[hst];simp[h4],by simp[hw]⟩
   ·have e:=Yi hjn (by rw[YF h0 hjn h3];simp[h4])
    have h4':xs[j]≤xs[j-1]:=by omega
    simp -implicitDefEqProofs [h2,h2',hw2,h3,hjn,h4',e]
 ·obtain rfl:j=xs.length:=by omega
  have e:HZ xs=allIn xs 0 255:=by unfold HZ;rw[hr];rfl
  simp -implicitDefEqProofs
  refine Aa (hN xs _ _ hl0) ?_
  simp -implicitDefEqProofs [e]
def Az (e:AL):Bool:=A9 e.versions&&(decide (e.tags.length≤5)&&(HZ e.tags&&(!e.tags.any Am&&(decide (e.path.length≤4)&&(e.path.all Hz&&decide (Q5 e.cls 0 5))))))
abbrev ET (R:Rel):Prop:=∀e:AL,Ir e→R [arg (Ak e)] [] (B (Az e)) []
theorem Anc (D:Dn) (hI:SG (D CB)) (hR:EW (D J8)) (hX:RQ (D XP)) (hA:BK (D EJ)):ET (Body D OA):=by
 intro e hl
 obtain⟨hl1,hl2,hl3⟩:=hl
 have hl4:=hl3.1
 have hl2':=hl2
 unfold Jr at hl2
 unfold maxLen at hl2 hl4
 simp -implicitDefEqProofs
 refine Ae (fun k s=>∃j,j+k=e.tags.length∧allIn (e.tags.take j) 0 255=true∧Nl (upTo e.tags) j=true∧(e.tags.take j).any Am=false∧s=⟨[.undef,.ptr 0 0,.undef,I j,.undef,.undef,.undef,.undef,.undef],[.var ((Ak e).map (AZ 1))]⟩) ?_ (e.tags.length) _ ⟨0,by simp,by simp[allIn],by simp,by simp,by simp⟩
 intro k s ⟨j,hj,hp,hr,hq,hs⟩
 subst hs
 by_cases hjn:j<e.tags.length
 ·have hw:IntKind.i64.wrap ((j:Int)+1)=(j+1:Nat):=by rw[Ad (by omega) (by omega)];simp
  have hst:=IC (upTo e.tags) j
  rw[hr,Bool.true_and]at hst
  have hsq:=X5 (p:=Am) hjn
  rw[hq,Bool.false_or]at hsq
  simp -implicitDefEqProofs [hjn]
  refine Aa (hI _ _ _) ?_
  by_cases h1:Q5 e.tags[j] 0 255
  rotate_left
  ·have e0:Az e=false:=by unfold Az;rw[AfI hjn h1];simp
   simp -implicitDefEqProofs [h1,e0]
  simp -implicitDefEqProofs [h1,hjn]
  refine Aa (hR _) ?_
  by_cases h5:Am e.tags[j]=true
  ·have e0:Az e=false:=by unfold Az;rw[Ph hjn h5];simp
   simp -implicitDefEqProofs [h5,e0]
  have h5':Am e.tags[j]=false:=by simpa using h5
  by_cases h0:j=0
  ·subst h0
   simp -implicitDefEqProofs [h1,h5']
   exact⟨k-1,by omega,1,by omega,by rw[Sw hjn,hp];simp[h1],by rw[hst,Ad6],by simpa using hsq.trans h5',by simpa using hw⟩
  ·have hw2:IntKind.i64.wrap ((j:Int)-1)=((j-1:Nat):Int):=by rw[Ad (by omega) (by omega)];omega
   have h2:(0:Int)<j:=by omega
   have h2':0<j:=by omega
   have h3:j-1<e.tags.length:=by omega
   rw[YF h0 hjn h3]at hst
   by_cases h4:e.tags[j-1]<e.tags[j]
   ·have h4':¬e.tags[j]≤e.tags[j-1]:=by omega
    simp -implicitDefEqProofs [h1,h5',h2,h2',hw2,h3,hjn,h4']
    exact⟨k-1,by omega,j+1,by omega,by rw[Sw hjn,hp];simp[h1],by rw[hst];simp[h4],by simpa using hsq.trans h5',by simp[hw]⟩
   ·have e0:Az e=false:=by unfold Az;rw[Yi hjn (by rw[YF h0 hjn h3];simp[h4])];simp
    have h4':e.tags[j]≤e.tags[j-1]:=by omega
    simp -implicitDefEqProofs [h1,h5',h2,h2',hw2,h3,hjn,h4',e0]
 obtain rfl:j=e.tags.length:=by omega
 have et:HZ e.tags=true:=by unfold HZ;rw[hr,Ae1 (by omega) hp];rfl
 have er:e.tags.any Am=false:=any_none (by omega) hq
 simp -implicitDefEqProofs
 refine Ae (fun k s=>∃j,j+k=e.path.length∧(e.path.take j).all Hz=true∧s=⟨[.undef,.ptr 0 0,.undef,.undef,I j,.undef,.undef,.undef,.undef],[.var ((Ak e).map (AZ 1))]⟩) ?_ (e.path.length) _ ⟨0,by simp,by simp,by simp⟩
 intro k s ⟨j,hj,hb,hs⟩
 subst hs
 by_cases hjn:j<e.path.length
 ·have hw:IntKind.i64.wrap ((j:Int)+1)=(j+1:Nat):=by rw[Ad (by omega) (by omega)];simp
  have hst:=UI (p:=Hz) hjn
  rw[hb,Bool.true_and]at hst
  simp -implicitDefEqProofs [hjn]
  refine Aa (hX _ (hl3.2 j hjn)) ?_
  by_cases h1:Hz e.path[j]=true
  ·simp -implicitDefEqProofs [h1]
   exact⟨k-1,by omega,j+1,by omega,by simpa using hst.trans h1,by simp[hw]⟩
  ·have e0:Az e=false:=by unfold Az;rw[Sz hjn (by simpa using h1)];simp
   simp -implicitDefEqProofs [h1,e0]
 have eb:e.path.all Hz=true:=by rw[←Yz (j:=j) (by omega),hb]
 simp -implicitDefEqProofs [hjn]
 refine Aa (hA _ hl1) ?_
 by_cases g1:A9 e.versions=true
 rotate_left
 ·simp -implicitDefEqProofs [g1,Az]
 by_cases g2:e.tags.length≤5
 rotate_left
 ·have g2':¬(e.tags.length:Int)≤5:=by omega
  simp -implicitDefEqProofs [g1,g2,g2',Az]
 have g2':(e.tags.length:Int)≤5:=by omega
 by_cases g3:e.path.length≤4
 rotate_left
 ·have g3':¬(e.path.length:Int)≤4:=by omega
  simp -implicitDefEqProofs [g1,g2,g2',g3,g3',Az]
 have g3':(e.path.length:Int)≤4:=by omega
 simp -implicitDefEqProofs [g1,g2',g3']
 refine Aa (hI _ _ _) ?_
 have ee:Az e=decide (Q5 e.cls 0 5):=by unfold Az;rw[et,er,eb];simp[g1,g2,g3]
 simp -implicitDefEqProofs [ee]
abbrev QY (R:Rel):Prop:=∀b:Gu,Hw b→R [arg (CF b)] [] (B (!Hz b)) []
theorem Anj (D:Dn) (hX:RQ (D AfA)):QY (Body D Lj):=by
 intro b hb
 simp -implicitDefEqProofs
 refine Aa (hX b hb) ?_
 simp -implicitDefEqProofs
theorem Ah0 {α:Type} (p:α→Bool) (xs:List α):(xs.any fun x=> !p x)= !xs.all p:=by rw[List.all_eq_not_any_not];simp
theorem AlO (D:Dn) (hA:BK (D FM)) (hT:MC (D ZA)) (hH:F9 (D Oe)) (h1:QY (D Sq)) (hC:H9 D (D EZ)) (hI:SG (D Bz)):ET (Body D Oi):=by
 intro e hl
 obtain⟨hl1,hl2,hl3⟩:=hl
 simp -implicitDefEqProofs
 refine Aa (hA _ hl1) ?_
 by_cases g1:A9 e.versions=true
 rotate_left
 ·simp -implicitDefEqProofs [g1,Az]
 by_cases g2:e.tags.length≤5
 rotate_left
 ·have g2':¬(e.tags.length:Int)≤5:=by omega
  simp -implicitDefEqProofs [g1,g2,g2',Az]
 have g2':(e.tags.length:Int)≤5:=by omega
 simp -implicitDefEqProofs [g1,g2']
 refine Aa (hT _ hl2) ?_
 by_cases g4:HZ e.tags=true
 rotate_left
 ·simp -implicitDefEqProofs [g4,Az]
 simp -implicitDefEqProofs [g4]
 refine Aa (hH _ hl2) ?_
 by_cases g5:e.tags.any Am=true
 ·have e0:Az e=false:=by unfold Az;rw[g5];simp
  generalize e.tags.any Am=q at g5
  subst g5
  simp -implicitDefEqProofs [e0]
 have g5':e.tags.any Am=false:=by simpa using g5
 have ee:Az e=(decide (e.path.length≤4)&&(e.path.all Hz&&decide (Q5 e.cls 0 5))):=by unfold Az;rw[g5',g1,g4];simp[g2]
 rw[ee]
 generalize e.tags.any Am=q at g5'
 subst g5'
 by_cases g3:e.path.length≤4
 rotate_left
 ·have g3':¬(e.path.length:Int)≤4:=by omega
  simp -implicitDefEqProofs [g3,g3']
 have g3':(e.path.length:Int)≤4:=by omega
 simp -implicitDefEqProofs [g3,g3']
 refine Aa (hC e.path Sq [] (fun b=> !Hz b) hl3.1 ER (fun j hj=>h1 e.path[j] (hl3.2 j hj))) ?_
 rw[Ah0]
 generalize e.path.all Hz=q
 by_cases g6:q=true
 rotate_left
 ·simp -implicitDefEqProofs [g6]
 simp -implicitDefEqProofs [g6]
 refine Aa (hI _ _ _) ?_
 simp -implicitDefEqProofs
theorem AFs {b:Gu} (h:Ct b≤4194304):Hw b:=by
 unfold Ct at h
 exact⟨by unfold Jr maxLen;omega,by unfold Jr maxLen;omega⟩
theorem AC8 {p:List Gu} (h:Bw Ct p≤4194304):lnS Hw p:=
 ⟨by have:=IK (f:=Ct) (xs:=p);unfold maxLen;omega,fun j hj=>AFs (by have:=size_at (f:=Ct) hj;omega)⟩
theorem XR {e:AL} (h:Ac e≤4194304):Ir e:=by
 unfold Ac at h
 exact⟨by unfold Jr maxLen;omega,by unfold Jr maxLen;omega,AC8 (by omega)⟩
theorem Q6 {w:World} (h:Ay w≤4194304) {n:Nat} (hn:n<w.ends.length):Ac w.ends[n]≤4194304:=by
 have:=size_at (f:=Ac) hn
 have:=(NZ h).2.2.1
 omega
theorem U1 {e:AL} (h:Ac e≤4194304):e.versions.length≤4194304:=by unfold Ac at h;omega
theorem Asa (path:List Gu) (vs:List Int):(Bj path vs).length≤vs.length:=by
 unfold Bj
 split
 ·exact List.length_filter_le _ _
 ·simp
end Go.Eng.T
namespace Go.Eng.T
set_option maxRecDepth 20000
set_option maxHeartbeats 2000000
abbrev ALs (D:Dn) (R:Rel):Prop:=∀(xs:List (List Int)) (g:Nat) (caps:List V) (p:List Int→Bool),xs.length≤maxLen→Ke caps→(∀(j:Nat) (h:j<xs.length),D g (.sl 1 1 xs[j].length (ints xs[j])::caps) [] (B (p xs[j])) [])→R [Kh xs,.fn g caps] [] (I (Gs p xs 0)) []
theorem AMO (D:Dn):ALs D (Body D EK):=by
 intro xs g caps p hl hc hp
 unfold maxLen at hl
 simp -implicitDefEqProofs
 refine Ae (fun k s=>∃j,j+k=xs.length∧Gs p xs 0=Gs p (xs.drop j) j∧s=⟨[Kh xs,.fn g caps,.undef,.undef,I xs.length,I j,.undef,.undef],[]⟩) ?_ (xs.length) _ ⟨0,by simp,by simp,by simp⟩
 intro k s ⟨j,hj,hi,hs⟩
 subst hs
 by_cases hjn:j<xs.length
 ·have hw:IntKind.i64.wrap ((j:Int)+1)=(j+1:Nat):=by rw[Ad (by omega) (by omega)];simp
  rw[Nz hjn]at hi
  simp -implicitDefEqProofs [hjn,hc.1,hc.2.1]
  refine Aa (hp j hjn) ?_
  by_cases he:p xs[j]=true
  ·rw[if_pos he]at hi
   simp -implicitDefEqProofs [he,hi]
  ·rw[if_neg he]at hi
   simp -implicitDefEqProofs [he]
   exact⟨k-1,by omega,j+1,by omega,by simpa using hi,by simp[hw]⟩
 ·rw[Sm (by omega)]at hi
  simp -implicitDefEqProofs [hjn,hi]
abbrev G7 (D:Dn) (R:Rel):Prop:=∀(xs:List (List Int)) (g:Nat) (caps:List V) (p:List Int→Bool),xs.length≤maxLen→Ke caps→(∀(j:Nat) (h:j<xs.length),D g (.sl 1 1 xs[j].length (ints xs[j])::caps) [] (B (p xs[j])) [])→R [Kh xs,.fn g caps] [] (B (xs.any p)) []
theorem AaD (D:Dn) (hI:ALs D (D MV)):G7 D (Body D AK2):=by
 intro xs g caps p hl hc hp
 simp -implicitDefEqProofs [hc.2.2]
 refine Aa (hI xs g caps p hl hc hp) ?_
 have e:decide (0≤Gs p xs 0)=xs.any p:=by rw[Bool.eq_iff_iff];simp only[decide_eq_true_eq];rw[QN (by omega)]
 simp -implicitDefEqProofs [e]
def Mk (k:Int):Bool:=decide (Q5 k 1 2147483646)
abbrev I6 (R:Rel):Prop:=∀k:Int,R [I k] [] (B (Mk k)) []
theorem AqX (D:Dn) (hI:SG (D CB)):I6 (Body D NU):=by
 intro k
 simp -implicitDefEqProofs
 refine Aa (hI _ _ _) ?_
 simp -implicitDefEqProofs [Mk]
theorem As7 (D:Dn) (hI:SG (D Bz)):I6 (Body D ALy):=by
 intro k
 simp -implicitDefEqProofs
 refine Aa (hI _ _ _) ?_
 simp -implicitDefEqProofs [Mk]
end Go.Eng.T
