/- Own work: part 45 of the proof of FnExactDialOf. -/
import Derived.Test.YtdgpapmladligaaGreatP44
set_option linter.unusedSimpArgs false
set_option linter.unusedVariables false
namespace Go.Eng.T
abbrev AeV (R:Rel):Prop:=∀xs:List Fx,Bq Cc xs≤4194304→R [.sl 1 4 xs.length (xs.flatMap Ck)] [] (.sl 0 4 xs.length (xs.flatMap Ck)) []
theorem AvF (D:Dn) (hto:Ak1 (D 226)):AeV (Body D SF):=by
 intro xs h
 have hlen:=H7 (f:=Cc) (xs:=xs)
 have h1:((xs.length:Nat):Int)*64≤1099511627776:=by omega
 simp -implicitDefEqProofs [h1]
 refine Ah (fun k s=>∃j o1 o2,j+k=xs.length∧s=⟨[.sl 1 4 xs.length (xs.flatMap Ck),.undef,.arr 0,.sc (.int .i64 j),.undef],[.arr 4 0 xs.length ((mix (⟨0,[],[],false⟩:Fx) xs j).flatMap Ck),o1,o2]⟩) ?_ xs.length _ ⟨0,.free,.free,by simp,by simp[U3];exact Zu (f:=Ck) (⟨0,[],[],false⟩:Fx) _⟩
 intro k s ⟨j,o1,o2,hj,hs⟩
 subst hs
 by_cases hjn:j<xs.length
 ·have hw:IntKind.i64.wrap ((j:Int)+1)=(j+1:Nat):=by rw[Ae (by omega) (by omega)];simp
  have hsz:=size_at (f:=Cc) hjn
  have hfit:j*4+4≤xs.length*4:=by omega
  have hjl:j≤xs.length:=by omega
  simp -implicitDefEqProofs [hjn]
  refine Aa (hto xs[j] (by omega)) ?_
  simp -implicitDefEqProofs [hjn,hfit,hjl]
  exact⟨k-1,by omega,j+1,by omega,by simp[hw],by rw[←Aar hjn]⟩
 ·have hje:mix (⟨0,[],[],false⟩:Fx) xs j=xs:=Aab (by omega)
  simp -implicitDefEqProofs [hjn,hje]
abbrev AeF (R:Rel):Prop:=∀(xs:List Fx) (l:Int),0≤l→l≤4194304→lnS GY xs→R [.sl 1 4 xs.length (xs.flatMap Ck),I l] [] (I (szl (Bq Cc xs) l)) []
theorem Avj (D:Dn) (hsz:Alj (D 206)):AeF (Body D SB):=by
 intro xs l h1 h2 hln
 have h3:=hln.1
 unfold maxLen at h3
 have hw:IntKind.i64.wrap (l-(xs.length:Int))=l-xs.length:=Ae (by omega) (by omega)
 by_cases h:l<(xs.length:Int)
 ·have h':l-(xs.length:Int)<0:=by omega
  have e2:szl (Bq Cc xs) l= -1:=by unfold szl Bq;rw[if_pos (by omega)]
  simp -implicitDefEqProofs [hw,h',e2]
 ·have h':¬l-(xs.length:Int)<0:=by omega
  simp -implicitDefEqProofs [hw,h']
  refine Ah (fun k s=>∃j,j+k=xs.length∧((xs.take j).map Cc).sum+xs.length≤l∧s=⟨[.sl 1 4 xs.length (xs.flatMap Ck),.sc (.int .i64 (l-xs.length-((((xs.take j).map Cc).sum:Nat):Int))),.undef,.sc (.int .i64 j),.undef,.undef,.undef],[]⟩) ?_ xs.length _ ⟨0,by simp,by simp;omega,by simp⟩
  intro k s ⟨j,hj,hp,hs⟩
  subst hs
  by_cases hjn:j<xs.length
  ·have hw:IntKind.i64.wrap ((j:Int)+1)=(j+1:Nat):=by rw[Ae (by omega) (by omega)];simp
   have ht:=Rs (f:=Cc) hjn
   have htl:=Km (f:=Cc) (xs:=xs) (j:=j+1)
   simp -implicitDefEqProofs [hjn, -List.map_take]
   refine Aa (hsz xs[j] _ (by omega) (by omega) (hln.2 j hjn)) ?_
   by_cases he:l-xs.length-((((xs.take j).map Cc).sum:Nat):Int)<Cc xs[j]
   ·have e1:szl (Cc xs[j]) (l-xs.length-((((xs.take j).map Cc).sum:Nat):Int))= -1:=by unfold szl;rw[if_pos he]
    have e2:szl (Bq Cc xs) l= -1:=by unfold szl Bq;rw[if_pos (by omega)]
    simp -implicitDefEqProofs [e1,e2, -List.map_take]
   ·have e1:szl (Cc xs[j]) (l-xs.length-((((xs.take j).map Cc).sum:Nat):Int))=l-xs.length-((((xs.take j).map Cc).sum:Nat):Int)-Cc xs[j]:=by unfold szl;rw[if_neg he]
    have e3:¬l-xs.length-((((xs.take j).map Cc).sum:Nat):Int)-Cc xs[j]<0:=by omega
    simp -implicitDefEqProofs [e1,e3, -List.map_take]
    refine⟨k-1,by omega,j+1,by omega,by omega,?_,by simp[hw]⟩
    rw[ht];omega
  ·have hsm:=ZJ (f:=Cc) (xs:=xs) (j:=j) (by omega)
   have e2:szl (Bq Cc xs) l=l-xs.length-((((xs.take j).map Cc).sum:Nat):Int):=by unfold szl Bq;rw[if_neg (by omega)];omega
   simp -implicitDefEqProofs [hjn,e2, -List.map_take]
abbrev Qj (R:Rel):Prop:=∀(x:AJ) (l:Int),0≤l→l≤4194304→GD x→R [arg (Ak x),I l] [] (I (szl (Ad x) l)) []
theorem AkI (D:Dn) (hszIntS:Oo (D 16)) (hszBoxS:AeF (D 139)):Qj (Body D Mc):=by
 intro x l hl1 hl2 hln
 simp only[GD]at hln
 simp -implicitDefEqProofs
 refine Aa (hszIntS x.versions (l) (by omega) (by omega) hln.1) ?_
 by_cases g0:l<((x.versions.length:Nat):Int)
 ·have gg:l<((Ad x:Nat):Int):=by simp only[Ad];omega
  have e1:szl (x.versions.length) (l)= -1:=by unfold szl;rw[if_pos g0]
  have e2:szl (Ad x) l= -1:=by unfold szl;rw[if_pos gg]
  simp -implicitDefEqProofs [e1,e2]
 have e3:szl (x.versions.length) (l)=l-((x.versions.length:Nat):Int):=by unfold szl;rw[if_neg g0]
 have p0:¬l-((x.versions.length:Nat):Int)<0:=by omega
 simp -implicitDefEqProofs [e3,p0]
 refine Aa (hszIntS x.tags (l-((x.versions.length:Nat):Int)) (by omega) (by omega) hln.2.1) ?_
 by_cases g1:l-((x.versions.length:Nat):Int)<((x.tags.length:Nat):Int)
 ·have gg:l<((Ad x:Nat):Int):=by simp only[Ad];omega
  have e1:szl (x.tags.length) (l-((x.versions.length:Nat):Int))= -1:=by unfold szl;rw[if_pos g1]
  have e2:szl (Ad x) l= -1:=by unfold szl;rw[if_pos gg]
  simp -implicitDefEqProofs [e1,e2]
 have e4:szl (x.tags.length) (l-((x.versions.length:Nat):Int))=l-((x.versions.length:Nat):Int)-((x.tags.length:Nat):Int):=by unfold szl;rw[if_neg g1]
 have p1:¬l-((x.versions.length:Nat):Int)-((x.tags.length:Nat):Int)<0:=by omega
 simp -implicitDefEqProofs [e4,p1]
 refine Aa (hszBoxS x.path (l-((x.versions.length:Nat):Int)-((x.tags.length:Nat):Int)) (by omega) (by omega) hln.2.2) ?_
 by_cases g2:l-((x.versions.length:Nat):Int)-((x.tags.length:Nat):Int)<((Bq Cc x.path:Nat):Int)
 ·have gg:l<((Ad x:Nat):Int):=by simp only[Ad];omega
  have e1:szl (Bq Cc x.path) (l-((x.versions.length:Nat):Int)-((x.tags.length:Nat):Int))= -1:=by unfold szl;rw[if_pos g2]
  have e2:szl (Ad x) l= -1:=by unfold szl;rw[if_pos gg]
  simp -implicitDefEqProofs [e1,e2]
 have e5:szl (Bq Cc x.path) (l-((x.versions.length:Nat):Int)-((x.tags.length:Nat):Int))=l-((x.versions.length:Nat):Int)-((x.tags.length:Nat):Int)-((Bq Cc x.path:Nat):Int):=by unfold szl;rw[if_neg g2]
 have p2:¬l-((x.versions.length:Nat):Int)-((x.tags.length:Nat):Int)-((Bq Cc x.path:Nat):Int)<0:=by omega
 simp -implicitDefEqProofs [e5,p2]
 have gg:¬l<((Ad x:Nat):Int):=by simp only[Ad];omega
 unfold szl;rw[if_neg gg];simp only[Ad]<;>omega
abbrev QB (R:Rel):Prop:=∀x:AJ,Ad x≤4194304→R [arg (Ak x)] [] (.agg (Ak x)) []
theorem Ama (D:Dn) (htoIntS:OB (D 31)) (htoBoxS:AeV (D 170)):QB (Body D LV):=by
 intro x h
 simp only[Ad]at h
 simp -implicitDefEqProofs
 refine Aa (htoIntS x.versions (by omega)) ?_
 simp -implicitDefEqProofs
 refine Aa (htoIntS x.tags (by omega)) ?_
 simp -implicitDefEqProofs
 refine Aa (htoBoxS x.path (by omega)) ?_
 simp -implicitDefEqProofs
abbrev OE (R:Rel):Prop:=∀(xs:List AJ) (l:Int),0≤l→l≤4194304→lnS GD xs→R [.sl 1 4 xs.length (xs.flatMap Ak),I l] [] (I (szl (Bq Ad xs) l)) []
theorem AiJ (D:Dn) (hsz:Qj (D 62)):OE (Body D Lp):=by
 intro xs l h1 h2 hln
 have h3:=hln.1
 unfold maxLen at h3
 have hw:IntKind.i64.wrap (l-(xs.length:Int))=l-xs.length:=Ae (by omega) (by omega)
 by_cases h:l<(xs.length:Int)
 ·have h':l-(xs.length:Int)<0:=by omega
  have e2:szl (Bq Ad xs) l= -1:=by unfold szl Bq;rw[if_pos (by omega)]
  simp -implicitDefEqProofs [hw,h',e2]
 ·have h':¬l-(xs.length:Int)<0:=by omega
  simp -implicitDefEqProofs [hw,h']
  refine Ah (fun k s=>∃j,j+k=xs.length∧((xs.take j).map Ad).sum+xs.length≤l∧s=⟨[.sl 1 4 xs.length (xs.flatMap Ak),.sc (.int .i64 (l-xs.length-((((xs.take j).map Ad).sum:Nat):Int))),.undef,.sc (.int .i64 j),.undef,.undef,.undef],[]⟩) ?_ xs.length _ ⟨0,by simp,by simp;omega,by simp⟩
  intro k s ⟨j,hj,hp,hs⟩
  subst hs
  by_cases hjn:j<xs.length
  ·have hw:IntKind.i64.wrap ((j:Int)+1)=(j+1:Nat):=by rw[Ae (by omega) (by omega)];simp
   have ht:=Rs (f:=Ad) hjn
   have htl:=Km (f:=Ad) (xs:=xs) (j:=j+1)
   simp -implicitDefEqProofs [hjn, -List.map_take]
   refine Aa (hsz xs[j] _ (by omega) (by omega) (hln.2 j hjn)) ?_
   by_cases he:l-xs.length-((((xs.take j).map Ad).sum:Nat):Int)<Ad xs[j]
   ·have e1:szl (Ad xs[j]) (l-xs.length-((((xs.take j).map Ad).sum:Nat):Int))= -1:=by unfold szl;rw[if_pos he]
    have e2:szl (Bq Ad xs) l= -1:=by unfold szl Bq;rw[if_pos (by omega)]
    simp -implicitDefEqProofs [e1,e2, -List.map_take]
   ·have e1:szl (Ad xs[j]) (l-xs.length-((((xs.take j).map Ad).sum:Nat):Int))=l-xs.length-((((xs.take j).map Ad).sum:Nat):Int)-Ad xs[j]:=by unfold szl;rw[if_neg he]
    have e3:¬l-xs.length-((((xs.take j).map Ad).sum:Nat):Int)-Ad xs[j]<0:=by omega
    simp -implicitDefEqProofs [e1,e3, -List.map_take]
    refine⟨k-1,by omega,j+1,by omega,by omega,?_,by simp[hw]⟩
    rw[ht];omega
  ·have hsm:=ZJ (f:=Ad) (xs:=xs) (j:=j) (by omega)
   have e2:szl (Bq Ad xs) l=l-xs.length-((((xs.take j).map Ad).sum:Nat):Int):=by unfold szl Bq;rw[if_neg (by omega)];omega
   simp -implicitDefEqProofs [hjn,e2, -List.map_take]
abbrev Ov (R:Rel):Prop:=∀xs:List AJ,Bq Ad xs≤4194304→R [.sl 1 4 xs.length (xs.flatMap Ak)] [] (.sl 0 4 xs.length (xs.flatMap Ak)) []
theorem Air (D:Dn) (hto:QB (D 98)):Ov (Body D Lx):=by
 intro xs h
 have hlen:=H7 (f:=Ad) (xs:=xs)
 have h1:((xs.length:Nat):Int)*80≤1099511627776:=by omega
 simp -implicitDefEqProofs [h1]
 refine Ah (fun k s=>∃j o1 o2 o3,j+k=xs.length∧s=⟨[.sl 1 4 xs.length (xs.flatMap Ak),.undef,.arr 0,.sc (.int .i64 j),.undef],[.arr 4 0 xs.length ((mix (⟨[],[],[],0⟩:AJ) xs j).flatMap Ak),o1,o2,o3]⟩) ?_ xs.length _ ⟨0,.free,.free,.free,by simp,by simp[U3];exact Zu (f:=Ak) (⟨[],[],[],0⟩:AJ) _⟩
 intro k s ⟨j,o1,o2,o3,hj,hs⟩
 subst hs
 by_cases hjn:j<xs.length
 ·have hw:IntKind.i64.wrap ((j:Int)+1)=(j+1:Nat):=by rw[Ae (by omega) (by omega)];simp
  have hsz:=size_at (f:=Ad) hjn
  have hfit:j*4+4≤xs.length*4:=by omega
  have hjl:j≤xs.length:=by omega
  simp -implicitDefEqProofs [hjn]
  refine Aa (hto xs[j] (by omega)) ?_
  simp -implicitDefEqProofs [hjn,hfit,hjl]
  exact⟨k-1,by omega,j+1,by omega,by simp[hw],by rw[←Aar hjn]⟩
 ·have hje:mix (⟨[],[],[],0⟩:AJ) xs j=xs:=Aab (by omega)
  simp -implicitDefEqProofs [hjn,hje]
abbrev TL (R:Rel):Prop:=∀(x:Fj) (l:Int),0≤l→l≤4194304→VW x→R [arg (Pd x),I l] [] (I (szl (Bh x) l)) []
theorem Am7 (D:Dn) (hszIntS:Oo (D 16)):TL (Body D N9):=by
 intro x l hl1 hl2 hln
 simp only[VW]at hln
 simp -implicitDefEqProofs
 refine Aa (hszIntS x.stages (l) (by omega) (by omega) hln) ?_
 by_cases g0:l<((x.stages.length:Nat):Int)
 ·have gg:l<((Bh x:Nat):Int):=by simp only[Bh];omega
  have e1:szl (x.stages.length) (l)= -1:=by unfold szl;rw[if_pos g0]
  have e2:szl (Bh x) l= -1:=by unfold szl;rw[if_pos gg]
  simp -implicitDefEqProofs [e1,e2]
 have e3:szl (x.stages.length) (l)=l-((x.stages.length:Nat):Int):=by unfold szl;rw[if_neg g0]
 have p0:¬l-((x.stages.length:Nat):Int)<0:=by omega
 simp -implicitDefEqProofs [e3,p0]
 have gg:¬l<((Bh x:Nat):Int):=by simp only[Bh];omega
 unfold szl;rw[if_neg gg];simp only[Bh]<;>omega
abbrev Sm (R:Rel):Prop:=∀x:Fj,Bh x≤4194304→R [arg (Pd x)] [] (.agg (Pd x)) []
theorem AoH (D:Dn) (htoIntS:OB (D 31)):Sm (Body D NK):=by
 intro x h
 simp only[Bh]at h
 simp -implicitDefEqProofs
 refine Aa (htoIntS x.stages (by omega)) ?_
 simp -implicitDefEqProofs
abbrev SA (R:Rel):Prop:=∀x y:Fj,Bh x≤2 ^ 40→Bh y≤2 ^ 40→R [arg (Pd x),arg (Pd y)] [] (B (decide (x=y))) []
theorem AnT (D:Dn) (heqIntS:Fg (D 47)):SA (Body D NZ):=by
 intro x y h1 h2
 simp only[Bh]at h1 h2
 by_cases g_version:x.version=y.version
 rotate_left
 ·have hne:x≠y:=fun h=>g_version (by rw[h])
  simp -implicitDefEqProofs [g_version,hne]
 simp -implicitDefEqProofs [g_version]
 refine Aa (heqIntS x.stages y.stages (by unfold maxLen;omega) (by unfold maxLen;omega)) ?_
 by_cases g_stages:x.stages=y.stages
 rotate_left
 ·have hne:x≠y:=fun h=>g_stages (by rw[h])
  simp -implicitDefEqProofs [g_stages,hne]
 simp -implicitDefEqProofs [g_stages]
 by_cases g_pos:x.pos=y.pos
 rotate_left
 ·have hne:x≠y:=fun h=>g_pos (by rw[h])
  simp -implicitDefEqProofs [g_pos,hne]
 simp -implicitDefEqProofs [g_pos]
 by_cases g_off:x.off=y.off
 rotate_left
 ·have hne:x≠y:=fun h=>g_off (by rw[h])
  simp -implicitDefEqProofs [g_off,hne]
 simp -implicitDefEqProofs [g_off]
 have hxy:x=y:=by cases x;cases y;simp_all
 simp -implicitDefEqProofs [hxy]
end Go.Eng.T
namespace Go.Eng.T
abbrev AeJ (R:Rel):Prop:=∀(x:Uy) (l:Int),0≤l→l≤4194304→AkU x→R [arg (Ue x),I l] [] (I (szl (D7 x) l)) []
theorem Aw9 (D:Dn) (hszIntS:Oo (D 16)):AeJ (Body D TY):=by
 intro x l hl1 hl2 hln
 simp only[AkU]at hln
 simp -implicitDefEqProofs
 refine Aa (hszIntS x.tags (l) (by omega) (by omega) hln) ?_
 by_cases g0:l<((x.tags.length:Nat):Int)
 ·have gg:l<((D7 x:Nat):Int):=by simp only[D7];omega
  have e1:szl (x.tags.length) (l)= -1:=by unfold szl;rw[if_pos g0]
  have e2:szl (D7 x) l= -1:=by unfold szl;rw[if_pos gg]
  simp -implicitDefEqProofs [e1,e2]
 have e3:szl (x.tags.length) (l)=l-((x.tags.length:Nat):Int):=by unfold szl;rw[if_neg g0]
 have p0:¬l-((x.tags.length:Nat):Int)<0:=by omega
 simp -implicitDefEqProofs [e3,p0]
 have gg:¬l<((D7 x:Nat):Int):=by simp only[D7];omega
 unfold szl;rw[if_neg gg];simp only[D7]<;>omega
abbrev AeB (R:Rel):Prop:=∀x:Uy,D7 x≤4194304→R [arg (Ue x)] [] (.agg (Ue x)) []
theorem AvT (D:Dn) (htoIntS:OB (D 31)):AeB (Body D Tt):=by
 intro x h
 simp only[D7]at h
 simp -implicitDefEqProofs
 refine Aa (htoIntS x.tags (by omega)) ?_
 simp -implicitDefEqProofs
abbrev AeR (R:Rel):Prop:=∀x y:Uy,D7 x≤2 ^ 40→D7 y≤2 ^ 40→R [arg (Ue x),arg (Ue y)] [] (B (decide (x=y))) []
theorem Axb (D:Dn) (heqIntS:Fg (D 47)):AeR (Body D Tz):=by
 intro x y h1 h2
 simp only[D7]at h1 h2
 by_cases g_ok:x.ok=y.ok
 rotate_left
 ·have hne:x≠y:=fun h=>g_ok (by rw[h])
  simp -implicitDefEqProofs [g_ok,hne]
 simp -implicitDefEqProofs [g_ok]
 by_cases g_version:x.version=y.version
 rotate_left
 ·have hne:x≠y:=fun h=>g_version (by rw[h])
  simp -implicitDefEqProofs [g_version,hne]
 simp -implicitDefEqProofs [g_version]
 refine Aa (heqIntS x.tags y.tags (by unfold maxLen;omega) (by unfold maxLen;omega)) ?_
 by_cases g_tags:x.tags=y.tags
 rotate_left
 ·have hne:x≠y:=fun h=>g_tags (by rw[h])
  simp -implicitDefEqProofs [g_tags,hne]
 simp -implicitDefEqProofs [g_tags]
 have hxy:x=y:=by cases x;cases y;simp_all
 simp -implicitDefEqProofs [hxy]
abbrev Rw (R:Rel):Prop:=∀(x:BA) (l:Int),0≤l→l≤4194304→MV x→R [arg (Az x),I l] [] (I (szl (Ai x) l)) []
theorem ApK (D:Dn) (hszDeal:AeJ (D 140)) (hszIntS:Oo (D 16)):Rw (Body D Pv):=by
 intro x l hl1 hl2 hln
 simp only[MV]at hln
 simp -implicitDefEqProofs
 refine Aa (hszDeal x.deal (l) (by omega) (by omega) hln.1) ?_
 by_cases g0:l<((D7 x.deal:Nat):Int)
 ·have gg:l<((Ai x:Nat):Int):=by simp only[Ai];omega
  have e1:szl (D7 x.deal) (l)= -1:=by unfold szl;rw[if_pos g0]
  have e2:szl (Ai x) l= -1:=by unfold szl;rw[if_pos gg]
  simp -implicitDefEqProofs [e1,e2]
 have e3:szl (D7 x.deal) (l)=l-((D7 x.deal:Nat):Int):=by unfold szl;rw[if_neg g0]
 have p0:¬l-((D7 x.deal:Nat):Int)<0:=by omega
 simp -implicitDefEqProofs [e3,p0]
 refine Aa (hszIntS x.up (l-((D7 x.deal:Nat):Int)) (by omega) (by omega) hln.2) ?_
 by_cases g1:l-((D7 x.deal:Nat):Int)<((x.up.length:Nat):Int)
 ·have gg:l<((Ai x:Nat):Int):=by simp only[Ai];omega
  have e1:szl (x.up.length) (l-((D7 x.deal:Nat):Int))= -1:=by unfold szl;rw[if_pos g1]
  have e2:szl (Ai x) l= -1:=by unfold szl;rw[if_pos gg]
  simp -implicitDefEqProofs [e1,e2]
 have e4:szl (x.up.length) (l-((D7 x.deal:Nat):Int))=l-((D7 x.deal:Nat):Int)-((x.up.length:Nat):Int):=by unfold szl;rw[if_neg g1]
 have p1:¬l-((D7 x.deal:Nat):Int)-((x.up.length:Nat):Int)<0:=by omega
 simp -implicitDefEqProofs [e4,p1]
 have gg:¬l<((Ai x:Nat):Int):=by simp only[Ai];omega
 unfold szl;rw[if_neg gg];simp only[Ai]<;>omega
abbrev Rn (R:Rel):Prop:=∀x:BA,Ai x≤4194304→R [arg (Az x)] [] (.agg (Az x)) []
theorem Ap4 (D:Dn) (htoDeal:AeB (D 171)) (htoIntS:OB (D 31)):Rn (Body D Po):=by
 intro x h
 simp only[Ai]at h
 simp -implicitDefEqProofs
 refine Aa (htoDeal x.deal (by omega)) ?_
 simp -implicitDefEqProofs
 refine Aa (htoIntS x.up (by omega)) ?_
 simp -implicitDefEqProofs
abbrev OO (R:Rel):Prop:=∀x y:BA,Ai x≤2 ^ 40→Ai y≤2 ^ 40→R [arg (Az x),arg (Az y)] [] (B (decide (x=y))) []
theorem AqW (D:Dn) (heqDeal:AeR (D 205)) (heqIntS:Fg (D 47)):OO (Body D O0):=by
 intro x y h1 h2
 simp only[Ai]at h1 h2
 simp -implicitDefEqProofs
 refine Aa (heqDeal x.deal y.deal (by omega) (by omega)) ?_
 by_cases g_deal:x.deal=y.deal
 rotate_left
 ·have hne:x≠y:=fun h=>g_deal (by rw[h])
  simp -implicitDefEqProofs [g_deal,hne]
 simp -implicitDefEqProofs [g_deal]
 by_cases g_tries:x.tries=y.tries
 rotate_left
 ·have hne:x≠y:=fun h=>g_tries (by rw[h])
  simp -implicitDefEqProofs [g_tries,hne]
 simp -implicitDefEqProofs [g_tries]
 refine Aa (heqIntS x.up y.up (by unfold maxLen;omega) (by unfold maxLen;omega)) ?_
 by_cases g_up:x.up=y.up
 rotate_left
 ·have hne:x≠y:=fun h=>g_up (by rw[h])
  simp -implicitDefEqProofs [g_up,hne]
 simp -implicitDefEqProofs [g_up]
 have hxy:x=y:=by cases x;cases y;simp_all
 simp -implicitDefEqProofs [hxy]
end Go.Eng.T
namespace Go.Eng.T
abbrev Ti (R:Rel):Prop:=∀(xs:List BA) (l:Int),0≤l→l≤4194304→lnS MV xs→R [.sl 1 5 xs.length (xs.flatMap Az),I l] [] (I (szl (Bq Ai xs) l)) []
theorem An8 (D:Dn) (hsz:Rw (D 63)):Ti (Body D NP):=by
 intro xs l h1 h2 hln
 have h3:=hln.1
 unfold maxLen at h3
 have hw:IntKind.i64.wrap (l-(xs.length:Int))=l-xs.length:=Ae (by omega) (by omega)
 by_cases h:l<(xs.length:Int)
 ·have h':l-(xs.length:Int)<0:=by omega
  have e2:szl (Bq Ai xs) l= -1:=by unfold szl Bq;rw[if_pos (by omega)]
  simp -implicitDefEqProofs [hw,h',e2]
 ·have h':¬l-(xs.length:Int)<0:=by omega
  simp -implicitDefEqProofs [hw,h']
  refine Ah (fun k s=>∃j,j+k=xs.length∧((xs.take j).map Ai).sum+xs.length≤l∧s=⟨[.sl 1 5 xs.length (xs.flatMap Az),.sc (.int .i64 (l-xs.length-((((xs.take j).map Ai).sum:Nat):Int))),.undef,.sc (.int .i64 j),.undef,.undef,.undef],[]⟩) ?_ xs.length _ ⟨0,by simp,by simp;omega,by simp⟩
  intro k s ⟨j,hj,hp,hs⟩
  subst hs
  by_cases hjn:j<xs.length
  ·have hw:IntKind.i64.wrap ((j:Int)+1)=(j+1:Nat):=by rw[Ae (by omega) (by omega)];simp
   have ht:=Rs (f:=Ai) hjn
   have htl:=Km (f:=Ai) (xs:=xs) (j:=j+1)
   simp -implicitDefEqProofs [hjn, -List.map_take]
   refine Aa (hsz xs[j] _ (by omega) (by omega) (hln.2 j hjn)) ?_
   by_cases he:l-xs.length-((((xs.take j).map Ai).sum:Nat):Int)<Ai xs[j]
   ·have e1:szl (Ai xs[j]) (l-xs.length-((((xs.take j).map Ai).sum:Nat):Int))= -1:=by unfold szl;rw[if_pos he]
    have e2:szl (Bq Ai xs) l= -1:=by unfold szl Bq;rw[if_pos (by omega)]
    simp -implicitDefEqProofs [e1,e2, -List.map_take]
   ·have e1:szl (Ai xs[j]) (l-xs.length-((((xs.take j).map Ai).sum:Nat):Int))=l-xs.length-((((xs.take j).map Ai).sum:Nat):Int)-Ai xs[j]:=by unfold szl;rw[if_neg he]
    have e3:¬l-xs.length-((((xs.take j).map Ai).sum:Nat):Int)-Ai xs[j]<0:=by omega
    simp -implicitDefEqProofs [e1,e3, -List.map_take]
    refine⟨k-1,by omega,j+1,by omega,by omega,?_,by simp[hw]⟩
    rw[ht];omega
  ·have hsm:=ZJ (f:=Ai) (xs:=xs) (j:=j) (by omega)
   have e2:szl (Bq Ai xs) l=l-xs.length-((((xs.take j).map Ai).sum:Nat):Int):=by unfold szl Bq;rw[if_neg (by omega)];omega
   simp -implicitDefEqProofs [hjn,e2, -List.map_take]
abbrev Sq (R:Rel):Prop:=∀xs:List BA,Bq Ai xs≤4194304→R [.sl 1 5 xs.length (xs.flatMap Az)] [] (.sl 0 5 xs.length (xs.flatMap Az)) []
theorem AmT (D:Dn) (hto:Rn (D 99)):Sq (Body D NH):=by
 intro xs h
 have hlen:=H7 (f:=Ai) (xs:=xs)
 have h1:((xs.length:Nat):Int)*72≤1099511627776:=by omega
 simp -implicitDefEqProofs [h1]
 refine Ah (fun k s=>∃j o1 o2,j+k=xs.length∧s=⟨[.sl 1 5 xs.length (xs.flatMap Az),.undef,.arr 0,.sc (.int .i64 j),.undef],[.arr 5 0 xs.length ((mix (⟨⟨false,0,[]⟩,0,[]⟩:BA) xs j).flatMap Az),o1,o2]⟩) ?_ xs.length _ ⟨0,.free,.free,by simp,by simp[U3];exact Zu (f:=Az) (⟨⟨false,0,[]⟩,0,[]⟩:BA) _⟩
 intro k s ⟨j,o1,o2,hj,hs⟩
 subst hs
 by_cases hjn:j<xs.length
 ·have hw:IntKind.i64.wrap ((j:Int)+1)=(j+1:Nat):=by rw[Ae (by omega) (by omega)];simp
  have hsz:=size_at (f:=Ai) hjn
  have hfit:j*5+5≤xs.length*5:=by omega
  have hjl:j≤xs.length:=by omega
  simp -implicitDefEqProofs [hjn]
  refine Aa (hto xs[j] (by omega)) ?_
  simp -implicitDefEqProofs [hjn,hfit,hjl]
  exact⟨k-1,by omega,j+1,by omega,by simp[hw],by rw[←Aar hjn]⟩
 ·have hje:mix (⟨⟨false,0,[]⟩,0,[]⟩:BA) xs j=xs:=Aab (by omega)
  simp -implicitDefEqProofs [hjn,hje]
abbrev Tv (R:Rel):Prop:=∀xs ys:List BA,Bq Ai xs≤2 ^ 40→Bq Ai ys≤2 ^ 40→R [.sl 1 5 xs.length (xs.flatMap Az),.sl 1 5 ys.length (ys.flatMap Az)] [] (B (decide (xs=ys))) []
theorem AoA (D:Dn) (heq:OO (D 135)):Tv (Body D N8):=by
 intro xs ys h1 h2
 have hlen:=H7 (f:=Ai) (xs:=xs)
 by_cases hl:xs.length=ys.length
 ·have hl':(xs.length:Int)=ys.length:=by omega
  simp -implicitDefEqProofs [hl']
  refine Ah (fun k s=>∃j,j+k=xs.length∧xs.take j=ys.take j∧s=⟨[.sl 1 5 xs.length (xs.flatMap Az),.sl 1 5 ys.length (ys.flatMap Az),.undef,.sc (.int .i64 j),.undef,.undef,.undef],[]⟩) ?_ xs.length _ ⟨0,by simp,by simp,by simp⟩
  intro k s ⟨j,hj,hp,hs⟩
  subst hs
  by_cases hjn:j<xs.length
  ·have hw:IntKind.i64.wrap ((j:Int)+1)=(j+1:Nat):=by rw[Ae (by omega) (by omega)];simp
   have hy:j<ys.length:=by omega
   have hsx:=size_at (f:=Ai) hjn
   have hsy:=size_at (f:=Ai) hy
   simp -implicitDefEqProofs [hjn,hy]
   refine Aa (heq xs[j] ys[j] (by omega) (by omega)) ?_
   by_cases he:xs[j]=ys[j]
   ·simp -implicitDefEqProofs [he]
    exact⟨k-1,by omega,j+1,by omega,IJ hjn hy hp he,by simp[hw]⟩
   ·have hne:xs≠ys:=fun h=>he (by simp[h])
    simp -implicitDefEqProofs [he,hne]
  ·obtain rfl:xs=ys:=KX (by omega) hl hp
   simp -implicitDefEqProofs [hjn]
 ·have hl':¬(xs.length:Int)=ys.length:=by omega
  have:xs≠ys:=fun h=>hl (by rw[h])
  simp -implicitDefEqProofs [hl',this]
abbrev VF (R:Rel):Prop:=∀(x:BX) (l:Int),0≤l→l≤4194304→Pj x→R [arg (Ar x),I l] [] (I (szl (Aw x) l)) []
theorem AqU (D:Dn) (hszDialed:Rw (D 63)):VF (Body D Pn):=by
 intro x l hl1 hl2 hln
 simp only[Pj]at hln
 simp -implicitDefEqProofs
 refine Aa (hszDialed x.dialed (l) (by omega) (by omega) hln) ?_
 by_cases g0:l<((Ai x.dialed:Nat):Int)
 ·have gg:l<((Aw x:Nat):Int):=by simp only[Aw];omega
  have e1:szl (Ai x.dialed) (l)= -1:=by unfold szl;rw[if_pos g0]
  have e2:szl (Aw x) l= -1:=by unfold szl;rw[if_pos gg]
  simp -implicitDefEqProofs [e1,e2]
 have e3:szl (Ai x.dialed) (l)=l-((Ai x.dialed:Nat):Int):=by unfold szl;rw[if_neg g0]
 have p0:¬l-((Ai x.dialed:Nat):Int)<0:=by omega
 simp -implicitDefEqProofs [e3,p0]
 have gg:¬l<((Aw x:Nat):Int):=by simp only[Aw];omega
 unfold szl;rw[if_neg gg];simp only[Aw]<;>omega
abbrev VI (R:Rel):Prop:=∀x:BX,Aw x≤4194304→R [arg (Ar x)] [] (.agg (Ar x)) []
theorem Ap7 (D:Dn) (htoDialed:Rn (D 99)):VI (Body D PD):=by
 intro x h
 simp only[Aw]at h
 simp -implicitDefEqProofs
 refine Aa (htoDialed x.dialed (by omega)) ?_
 simp -implicitDefEqProofs
abbrev VB (R:Rel):Prop:=∀x y:BX,Aw x≤2 ^ 40→Aw y≤2 ^ 40→R [arg (Ar x),arg (Ar y)] [] (B (decide (x=y))) []
theorem ApM (D:Dn) (heqDialed:OO (D 135)):VB (Body D O8):=by
 intro x y h1 h2
 simp only[Aw]at h1 h2
 by_cases g_fin:x.fin=y.fin
 rotate_left
 ·have hne:x≠y:=fun h=>g_fin (by rw[h])
  simp -implicitDefEqProofs [g_fin,hne]
 simp -implicitDefEqProofs [g_fin]
 by_cases g_tick:x.tick=y.tick
 rotate_left
 ·have hne:x≠y:=fun h=>g_tick (by rw[h])
  simp -implicitDefEqProofs [g_tick,hne]
 simp -implicitDefEqProofs [g_tick]
 by_cases g_on:x.on=y.on
 rotate_left
 ·have hne:x≠y:=fun h=>g_on (by rw[h])
  simp -implicitDefEqProofs [g_on,hne]
 simp -implicitDefEqProofs [g_on]
 refine Aa (heqDialed x.dialed y.dialed (by omega) (by omega)) ?_
 by_cases g_dialed:x.dialed=y.dialed
 rotate_left
 ·have hne:x≠y:=fun h=>g_dialed (by rw[h])
  simp -implicitDefEqProofs [g_dialed,hne]
 simp -implicitDefEqProofs [g_dialed]
 have hxy:x=y:=by cases x;cases y;simp_all
 simp -implicitDefEqProofs [hxy]
abbrev Sv (R:Rel):Prop:=∀(xs:List BX) (l:Int),0≤l→l≤4194304→lnS Pj xs→R [.sl 1 8 xs.length (xs.flatMap Ar),I l] [] (I (szl (Bq Aw xs) l)) []
theorem Anz (D:Dn) (hsz:VF (D 64)):Sv (Body D NE):=by
 intro xs l h1 h2 hln
 have h3:=hln.1
 unfold maxLen at h3
 have hw:IntKind.i64.wrap (l-(xs.length:Int))=l-xs.length:=Ae (by omega) (by omega)
 by_cases h:l<(xs.length:Int)
 ·have h':l-(xs.length:Int)<0:=by omega
  have e2:szl (Bq Aw xs) l= -1:=by unfold szl Bq;rw[if_pos (by omega)]
  simp -implicitDefEqProofs [hw,h',e2]
 ·have h':¬l-(xs.length:Int)<0:=by omega
  simp -implicitDefEqProofs [hw,h']
  refine Ah (fun k s=>∃j,j+k=xs.length∧((xs.take j).map Aw).sum+xs.length≤l∧s=⟨[.sl 1 8 xs.length (xs.flatMap Ar),.sc (.int .i64 (l-xs.length-((((xs.take j).map Aw).sum:Nat):Int))),.undef,.sc (.int .i64 j),.undef,.undef,.undef],[]⟩) ?_ xs.length _ ⟨0,by simp,by simp;omega,by simp⟩
  intro k s ⟨j,hj,hp,hs⟩
  subst hs
  by_cases hjn:j<xs.length
  ·have hw:IntKind.i64.wrap ((j:Int)+1)=(j+1:Nat):=by rw[Ae (by omega) (by omega)];simp
   have ht:=Rs (f:=Aw) hjn
   have htl:=Km (f:=Aw) (xs:=xs) (j:=j+1)
   simp -implicitDefEqProofs [hjn, -List.map_take]
   refine Aa (hsz xs[j] _ (by omega) (by omega) (hln.2 j hjn)) ?_
   by_cases he:l-xs.length-((((xs.take j).map Aw).sum:Nat):Int)<Aw xs[j]
   ·have e1:szl (Aw xs[j]) (l-xs.length-((((xs.take j).map Aw).sum:Nat):Int))= -1:=by unfold szl;rw[if_pos he]
    have e2:szl (Bq Aw xs) l= -1:=by unfold szl Bq;rw[if_pos (by omega)]
    simp -implicitDefEqProofs [e1,e2, -List.map_take]
   ·have e1:szl (Aw xs[j]) (l-xs.length-((((xs.take j).map Aw).sum:Nat):Int))=l-xs.length-((((xs.take j).map Aw).sum:Nat):Int)-Aw xs[j]:=by unfold szl;rw[if_neg he]
    have e3:¬l-xs.length-((((xs.take j).map Aw).sum:Nat):Int)-Aw xs[j]<0:=by omega
    simp -implicitDefEqProofs [e1,e3, -List.map_take]
    refine⟨k-1,by omega,j+1,by omega,by omega,?_,by simp[hw]⟩
    rw[ht];omega
  ·have hsm:=ZJ (f:=Aw) (xs:=xs) (j:=j) (by omega)
   have e2:szl (Bq Aw xs) l=l-xs.length-((((xs.take j).map Aw).sum:Nat):Int):=by unfold szl Bq;rw[if_neg (by omega)];omega
   simp -implicitDefEqProofs [hjn,e2, -List.map_take]
abbrev Tg (R:Rel):Prop:=∀xs:List BX,Bq Aw xs≤4194304→R [.sl 1 8 xs.length (xs.flatMap Ar)] [] (.sl 0 8 xs.length (xs.flatMap Ar)) []
theorem Aoz (D:Dn) (hto:VI (D 100)):Tg (Body D NY):=by
 intro xs h
 have hlen:=H7 (f:=Aw) (xs:=xs)
 have h1:((xs.length:Nat):Int)*96≤1099511627776:=by omega
 simp -implicitDefEqProofs [h1]
 refine Ah (fun k s=>∃j o1 o2,j+k=xs.length∧s=⟨[.sl 1 8 xs.length (xs.flatMap Ar),.undef,.arr 0,.sc (.int .i64 j),.undef],[.arr 8 0 xs.length ((mix (⟨0,0,false,⟨⟨false,0,[]⟩,0,[]⟩⟩:BX) xs j).flatMap Ar),o1,o2]⟩) ?_ xs.length _ ⟨0,.free,.free,by simp,by simp[U3];exact Zu (f:=Ar) (⟨0,0,false,⟨⟨false,0,[]⟩,0,[]⟩⟩:BX) _⟩
 intro k s ⟨j,o1,o2,hj,hs⟩
 subst hs
 by_cases hjn:j<xs.length
 ·have hw:IntKind.i64.wrap ((j:Int)+1)=(j+1:Nat):=by rw[Ae (by omega) (by omega)];simp
  have hsz:=size_at (f:=Aw) hjn
  have hfit:j*8+8≤xs.length*8:=by omega
  have hjl:j≤xs.length:=by omega
  simp -implicitDefEqProofs [hjn]
  refine Aa (hto xs[j] (by omega)) ?_
  simp -implicitDefEqProofs [hjn,hfit,hjl]
  exact⟨k-1,by omega,j+1,by omega,by simp[hw],by rw[←Aar hjn]⟩
 ·have hje:mix (⟨0,0,false,⟨⟨false,0,[]⟩,0,[]⟩⟩:BX) xs j=xs:=Aab (by omega)
  simp -implicitDefEqProofs [hjn,hje]
abbrev TS (R:Rel):Prop:=∀xs ys:List BX,Bq Aw xs≤2 ^ 40→Bq Aw ys≤2 ^ 40→R [.sl 1 8 xs.length (xs.flatMap Ar),.sl 1 8 ys.length (ys.flatMap Ar)] [] (B (decide (xs=ys))) []
theorem Aoc (D:Dn) (heq:VB (D 136)):TS (Body D Np):=by
 intro xs ys h1 h2
 have hlen:=H7 (f:=Aw) (xs:=xs)
 by_cases hl:xs.length=ys.length
 ·have hl':(xs.length:Int)=ys.length:=by omega
  simp -implicitDefEqProofs [hl']
  refine Ah (fun k s=>∃j,j+k=xs.length∧xs.take j=ys.take j∧s=⟨[.sl 1 8 xs.length (xs.flatMap Ar),.sl 1 8 ys.length (ys.flatMap Ar),.undef,.sc (.int .i64 j),.undef,.undef,.undef],[]⟩) ?_ xs.length _ ⟨0,by simp,by simp,by simp⟩
  intro k s ⟨j,hj,hp,hs⟩
  subst hs
  by_cases hjn:j<xs.length
  ·have hw:IntKind.i64.wrap ((j:Int)+1)=(j+1:Nat):=by rw[Ae (by omega) (by omega)];simp
   have hy:j<ys.length:=by omega
   have hsx:=size_at (f:=Aw) hjn
   have hsy:=size_at (f:=Aw) hy
   simp -implicitDefEqProofs [hjn,hy]
   refine Aa (heq xs[j] ys[j] (by omega) (by omega)) ?_
   by_cases he:xs[j]=ys[j]
   ·simp -implicitDefEqProofs [he]
    exact⟨k-1,by omega,j+1,by omega,IJ hjn hy hp he,by simp[hw]⟩
   ·have hne:xs≠ys:=fun h=>he (by simp[h])
    simp -implicitDefEqProofs [he,hne]
  ·obtain rfl:xs=ys:=KX (by omega) hl hp
   simp -implicitDefEqProofs [hjn]
 ·have hl':¬(xs.length:Int)=ys.length:=by omega
  have:xs≠ys:=fun h=>hl (by rw[h])
  simp -implicitDefEqProofs [hl',this]
end Go.Eng.T
namespace Go.Eng.T
def nums:Nat→Int→List Int
 | 0,_=> []
 | n+1,k=>k::nums n (k+1)
@[simp] theorem AmS:∀(n:Nat) (k:Int),(nums n k).length=n
 | 0,_=>rfl
 | n+1,k=>by simp[nums,AmS n]
theorem AoJ:∀(n:Nat) (k:Int) (j:Nat) (h:j<(nums n k).length),(nums n k)[j]=k+j
 | 0,k,j,h=>by simp[nums]at h
 | n+1,k,0,h=>by simp[nums]
 | n+1,k,j+1,h=>by
  simp only[nums,List.getElem_cons_succ]
  rw[AoJ n (k+1) j (by simpa[nums]using h)]
  simp;omega
def mkL {α:Type} (mc:α→Nat) (mk:α→Int→α):List α→Int→List α
 | [],_=> []
 | x::r,k=>mk x k::mkL mc mk r (k+mc x)
def LC {α:Type} (mc:α→Nat) (xs:List α):Nat:=(xs.map mc).sum
section
variable {α:Type} {mc:α→Nat} {mk:α→Int→α}
@[simp] theorem AyX:∀(xs:List α) (k:Int),(mkL mc mk xs k).length=xs.length
 | [],_=>rfl
 | x::r,k=>by simp[mkL,AyX r]
theorem AyZ:∀(xs:List α) (k:Int) (j:Nat) (h:j<xs.length),(mkL mc mk xs k)[j]'(by simpa using h)=mk xs[j] (k+(LC mc (xs.take j):Nat))
 | [],k,j,h=>by simp at h
 | x::r,k,0,h=>by simp[mkL,LC]
 | x::r,k,j+1,h=>by
  simp only[mkL,List.getElem_cons_succ]
  rw[AyZ r (k+mc x) j (by simpa using h)]
  simp[LC];congr 1;omega
theorem AhA (ys:List α):∀(xs:List α) (k:Int),mkL mc mk (xs++ys) k=mkL mc mk xs k++mkL mc mk ys (k+(LC mc xs:Nat))
 | [],k=>by simp[mkL,LC]
 | x::r,k=>by
  simp only[List.cons_append,mkL,AhA ys r]
  simp[LC];congr 1;omega
def mkJ (mc:α→Nat) (mk:α→Int→α) (xs:List α) (k:Int) (j:Nat):List α:=mkL mc mk (xs.take j) k++xs.drop j
theorem Aaa {xs:List α} {k:Int}:mkJ mc mk xs k 0=xs:=by simp[mkJ,mkL]
theorem Ae0 {xs:List α} {k:Int} {j:Nat} (h:xs.length≤j):mkJ mc mk xs k j=mkL mc mk xs k:=by simp[mkJ,List.take_of_length_le h,List.drop_eq_nil_of_le h]
@[simp] theorem AyN {xs:List α} {k:Int} {j:Nat} (h:j≤xs.length):(mkJ mc mk xs k j).length=xs.length:=by simp[mkJ];omega
theorem IU {xs:List α} {k:Int} {j:Nat} (h:j<xs.length):(mkJ mc mk xs k j)[j]'(by rw[AyN (by omega)];exact h)=xs[j]:=by
 unfold mkJ
 have hl:(mkL mc mk (xs.take j) k).length=j:=by simp;omega
 rw[List.getElem_append_right (by omega)]
 simp[hl]
theorem AeO {xs:List α} {k:Int} {j:Nat} (h:j<xs.length):(mkJ mc mk xs k j).set j (mk xs[j] (k+(LC mc (xs.take j):Nat)))=mkJ mc mk xs k (j+1):=by
 unfold mkJ
 have hl:(mkL mc mk (xs.take j) k).length=j:=by simp;omega
 have ht:xs.take (j+1)=xs.take j++ [xs[j]]:=by simp
 rw[List.set_append_right _ _ (by omega),hl,Nat.sub_self,ht,AhA,List.drop_eq_getElem_cons h,List.set_cons_zero,List.append_assoc]
 rfl
theorem ZX {xs:List α} {j:Nat} (h:j<xs.length):LC mc (xs.take (j+1))=LC mc (xs.take j)+mc xs[j]:=Rs h
theorem AkJ {xs:List α} {j:Nat}:LC mc (xs.take j)≤LC mc xs:=Km
theorem AeS {xs:List α} {j:Nat} (h:xs.length≤j):LC mc (xs.take j)=LC mc xs:=ZJ h
theorem Aks (h:∀x,1≤mc x) (xs:List α):xs.length≤LC mc xs:=by
 induction xs with
 | nil=>simp
 | cons x r ih=>
  have:=h x
  simp[LC]at *
  omega
end
theorem Ce {α:Type} {f:α→List V} {e:Nat} (hf:∀x,(f x).length=e) {o:Nat} (ho:o<e) {v:V} {y:α}:∀ {xs:List α} {j:Nat} (h:j<xs.length),f y=(f xs[j]).set o v→(xs.flatMap f).set (j*e+o) v=(xs.set j y).flatMap f
 | [],j,h,_=>by simp at h
 | x::xs,0,_,hy=>by
  simp only[List.flatMap_cons,List.set_cons_zero,Nat.zero_mul,Nat.zero_add]
  rw[List.set_append_left _ _ (by rw[hf];exact ho),hy]
  rfl
 | x::xs,j+1,h,hy=>by
  simp only[List.flatMap_cons,List.set_cons_succ]
  have e1:(j+1)*e+o=(f x).length+(j*e+o):=by rw[hf,Nat.add_mul];omega
  rw[e1,List.set_append_right _ _ (by omega),Nat.add_sub_cancel_left,Ce hf ho (by simpa using h) (by simpa using hy)]
@[simp high] theorem AC8 {xs:List Fx} {j:Nat} (h:j<xs.length) (a:Int):(xs.flatMap Ck).set (j*4) (.sc (.int .i64 a))=(xs.set j ⟨a,xs[j].drops,xs[j].strips,xs[j].lists⟩).flatMap Ck:=Ce (o:=0) Iw (by omega) h rfl
@[simp high] theorem AC1 {xs:List Fx} {j:Nat} (h:j<xs.length) {n:Nat} (a:List Int) (hn:n=a.length):(xs.flatMap Ck).set (j*4+1) (.sl 0 1 n (ints a))=(xs.set j ⟨xs[j].limit,a,xs[j].strips,xs[j].lists⟩).flatMap Ck:=by subst hn;exact Ce (o:=1) Iw (by omega) h rfl
@[simp high] theorem AC2 {xs:List Fx} {j:Nat} (h:j<xs.length) {n:Nat} (a:List Int) (hn:n=a.length):(xs.flatMap Ck).set (j*4+2) (.sl 0 1 n (ints a))=(xs.set j ⟨xs[j].limit,xs[j].drops,a,xs[j].lists⟩).flatMap Ck:=by subst hn;exact Ce (o:=2) Iw (by omega) h rfl
@[simp high] theorem ACX {xs:List Fx} {j:Nat} (h:j<xs.length) (a:Bool):(xs.flatMap Ck).set (j*4+3) (.sc (.bool a))=(xs.set j ⟨xs[j].limit,xs[j].drops,xs[j].strips,a⟩).flatMap Ck:=Ce (o:=3) Iw (by omega) h rfl
@[simp high] theorem AAJ {xs:List BA} {j:Nat} (h:j<xs.length) (a:Bool):(xs.flatMap Az).set (j*5) (.sc (.bool a))=(xs.set j ⟨⟨a,xs[j].deal.version,xs[j].deal.tags⟩,xs[j].tries,xs[j].up⟩).flatMap Az:=Ce (o:=0) Dx (by omega) h rfl
@[simp high] theorem ABj {xs:List BA} {j:Nat} (h:j<xs.length) (a:Int):(xs.flatMap Az).set (j*5+1) (.sc (.int .i64 a))=(xs.set j ⟨⟨xs[j].deal.ok,a,xs[j].deal.tags⟩,xs[j].tries,xs[j].up⟩).flatMap Az:=Ce (o:=1) Dx (by omega) h rfl
@[simp high] theorem ABA {xs:List BA} {j:Nat} (h:j<xs.length) {n:Nat} (a:List Int) (hn:n=a.length):(xs.flatMap Az).set (j*5+2) (.sl 0 1 n (ints a))=(xs.set j ⟨⟨xs[j].deal.ok,xs[j].deal.version,a⟩,xs[j].tries,xs[j].up⟩).flatMap Az:=by subst hn;exact Ce (o:=2) Dx (by omega) h rfl
@[simp high] theorem ABK {xs:List BA} {j:Nat} (h:j<xs.length) (a:Int):(xs.flatMap Az).set (j*5+3) (.sc (.int .i64 a))=(xs.set j ⟨⟨xs[j].deal.ok,xs[j].deal.version,xs[j].deal.tags⟩,a,xs[j].up⟩).flatMap Az:=Ce (o:=3) Dx (by omega) h rfl
@[simp high] theorem AAZ {xs:List BA} {j:Nat} (h:j<xs.length) {n:Nat} (a:List Int) (hn:n=a.length):(xs.flatMap Az).set (j*5+4) (.sl 0 1 n (ints a))=(xs.set j ⟨⟨xs[j].deal.ok,xs[j].deal.version,xs[j].deal.tags⟩,xs[j].tries,a⟩).flatMap Az:=by subst hn;exact Ce (o:=4) Dx (by omega) h rfl
@[simp high] theorem Ay6 {xs:List AJ} {j:Nat} (h:j<xs.length) {n:Nat} (a:List Int) (hn:n=a.length):(xs.flatMap Ak).set (j*4) (.sl 0 1 n (ints a))=(xs.set j ⟨a,xs[j].tags,xs[j].path,xs[j].cls⟩).flatMap Ak:=by subst hn;exact Ce (o:=0) DK (by omega) h rfl
@[simp high] theorem AyO {xs:List AJ} {j:Nat} (h:j<xs.length) {n:Nat} (a:List Int) (hn:n=a.length):(xs.flatMap Ak).set (j*4+1) (.sl 0 1 n (ints a))=(xs.set j ⟨xs[j].versions,a,xs[j].path,xs[j].cls⟩).flatMap Ak:=by subst hn;exact Ce (o:=1) DK (by omega) h rfl
@[simp high] theorem AzU {xs:List AJ} {j:Nat} (h:j<xs.length) {n:Nat} (a:List Fx) (hn:n=a.length):(xs.flatMap Ak).set (j*4+2) (.sl 0 4 n (a.flatMap Ck))=(xs.set j ⟨xs[j].versions,xs[j].tags,a,xs[j].cls⟩).flatMap Ak:=by subst hn;exact Ce (o:=2) DK (by omega) h rfl
@[simp high] theorem Azj {xs:List AJ} {j:Nat} (h:j<xs.length) (a:Int):(xs.flatMap Ak).set (j*4+3) (.sc (.int .i64 a))=(xs.set j ⟨xs[j].versions,xs[j].tags,xs[j].path,a⟩).flatMap Ak:=Ce (o:=3) DK (by omega) h rfl
@[simp high] theorem AAK {xs:List BX} {j:Nat} (h:j<xs.length) (a:Int):(xs.flatMap Ar).set (j*8) (.sc (.int .i64 a))=(xs.set j ⟨a,xs[j].tick,xs[j].on,⟨⟨xs[j].dialed.deal.ok,xs[j].dialed.deal.version,xs[j].dialed.deal.tags⟩,xs[j].dialed.tries,xs[j].dialed.up⟩⟩).flatMap Ar:=Ce (o:=0) BF (by omega) h rfl
@[simp high] theorem AAW {xs:List BX} {j:Nat} (h:j<xs.length) (a:Int):(xs.flatMap Ar).set (j*8+1) (.sc (.int .i64 a))=(xs.set j ⟨xs[j].fin,a,xs[j].on,⟨⟨xs[j].dialed.deal.ok,xs[j].dialed.deal.version,xs[j].dialed.deal.tags⟩,xs[j].dialed.tries,xs[j].dialed.up⟩⟩).flatMap Ar:=Ce (o:=1) BF (by omega) h rfl
@[simp high] theorem ABS {xs:List BX} {j:Nat} (h:j<xs.length) (a:Bool):(xs.flatMap Ar).set (j*8+2) (.sc (.bool a))=(xs.set j ⟨xs[j].fin,xs[j].tick,a,⟨⟨xs[j].dialed.deal.ok,xs[j].dialed.deal.version,xs[j].dialed.deal.tags⟩,xs[j].dialed.tries,xs[j].dialed.up⟩⟩).flatMap Ar:=Ce (o:=2) BF (by omega) h rfl
@[simp high] theorem ABx {xs:List BX} {j:Nat} (h:j<xs.length) (a:Bool):(xs.flatMap Ar).set (j*8+3) (.sc (.bool a))=(xs.set j ⟨xs[j].fin,xs[j].tick,xs[j].on,⟨⟨a,xs[j].dialed.deal.version,xs[j].dialed.deal.tags⟩,xs[j].dialed.tries,xs[j].dialed.up⟩⟩).flatMap Ar:=Ce (o:=3) BF (by omega) h rfl
@[simp high] theorem ABQ {xs:List BX} {j:Nat} (h:j<xs.length) (a:Int):(xs.flatMap Ar).set (j*8+4) (.sc (.int .i64 a))=(xs.set j ⟨xs[j].fin,xs[j].tick,xs[j].on,⟨⟨xs[j].dialed.deal.ok,a,xs[j].dialed.deal.tags⟩,xs[j].dialed.tries,xs[j].dialed.up⟩⟩).flatMap Ar:=Ce (o:=4) BF (by omega) h rfl
@[simp high] theorem ABv {xs:List BX} {j:Nat} (h:j<xs.length) {n:Nat} (a:List Int) (hn:n=a.length):(xs.flatMap Ar).set (j*8+5) (.sl 0 1 n (ints a))=(xs.set j ⟨xs[j].fin,xs[j].tick,xs[j].on,⟨⟨xs[j].dialed.deal.ok,xs[j].dialed.deal.version,a⟩,xs[j].dialed.tries,xs[j].dialed.up⟩⟩).flatMap Ar:=by subst hn;exact Ce (o:=5) BF (by omega) h rfl
@[simp high] theorem ABd {xs:List BX} {j:Nat} (h:j<xs.length) (a:Int):(xs.flatMap Ar).set (j*8+6) (.sc (.int .i64 a))=(xs.set j ⟨xs[j].fin,xs[j].tick,xs[j].on,⟨⟨xs[j].dialed.deal.ok,xs[j].dialed.deal.version,xs[j].dialed.deal.tags⟩,a,xs[j].dialed.up⟩⟩).flatMap Ar:=Ce (o:=6) BF (by omega) h rfl
@[simp high] theorem ABc {xs:List BX} {j:Nat} (h:j<xs.length) {n:Nat} (a:List Int) (hn:n=a.length):(xs.flatMap Ar).set (j*8+7) (.sl 0 1 n (ints a))=(xs.set j ⟨xs[j].fin,xs[j].tick,xs[j].on,⟨⟨xs[j].dialed.deal.ok,xs[j].dialed.deal.version,xs[j].dialed.deal.tags⟩,xs[j].dialed.tries,a⟩⟩).flatMap Ar:=by subst hn;exact Ce (o:=7) BF (by omega) h rfl
@[simp high] theorem ACa {xs:List Event} {j:Nat} (h:j<xs.length) (a:Int):(xs.flatMap Cy).set (j*6) (.sc (.int .i64 a))=(xs.set j ⟨a,xs[j].n,⟨xs[j].box.limit,xs[j].box.drops,xs[j].box.strips,xs[j].box.lists⟩⟩).flatMap Cy:=Ce (o:=0) Dr (by omega) h rfl
@[simp high] theorem AB3 {xs:List Event} {j:Nat} (h:j<xs.length) (a:Int):(xs.flatMap Cy).set (j*6+1) (.sc (.int .i64 a))=(xs.set j ⟨xs[j].kind,a,⟨xs[j].box.limit,xs[j].box.drops,xs[j].box.strips,xs[j].box.lists⟩⟩).flatMap Cy:=Ce (o:=1) Dr (by omega) h rfl
@[simp high] theorem ACm {xs:List Event} {j:Nat} (h:j<xs.length) (a:Int):(xs.flatMap Cy).set (j*6+2) (.sc (.int .i64 a))=(xs.set j ⟨xs[j].kind,xs[j].n,⟨a,xs[j].box.drops,xs[j].box.strips,xs[j].box.lists⟩⟩).flatMap Cy:=Ce (o:=2) Dr (by omega) h rfl
@[simp high] theorem ACg {xs:List Event} {j:Nat} (h:j<xs.length) {n:Nat} (a:List Int) (hn:n=a.length):(xs.flatMap Cy).set (j*6+3) (.sl 0 1 n (ints a))=(xs.set j ⟨xs[j].kind,xs[j].n,⟨xs[j].box.limit,a,xs[j].box.strips,xs[j].box.lists⟩⟩).flatMap Cy:=by subst hn;exact Ce (o:=3) Dr (by omega) h rfl
@[simp high] theorem ACp {xs:List Event} {j:Nat} (h:j<xs.length) {n:Nat} (a:List Int) (hn:n=a.length):(xs.flatMap Cy).set (j*6+4) (.sl 0 1 n (ints a))=(xs.set j ⟨xs[j].kind,xs[j].n,⟨xs[j].box.limit,xs[j].box.drops,a,xs[j].box.lists⟩⟩).flatMap Cy:=by subst hn;exact Ce (o:=4) Dr (by omega) h rfl
@[simp high] theorem ABW {xs:List Event} {j:Nat} (h:j<xs.length) (a:Bool):(xs.flatMap Cy).set (j*6+5) (.sc (.bool a))=(xs.set j ⟨xs[j].kind,xs[j].n,⟨xs[j].box.limit,xs[j].box.drops,xs[j].box.strips,a⟩⟩).flatMap Cy:=Ce (o:=5) Dr (by omega) h rfl
def EN (x:Uy):Nat:=x.tags.length
def I5 (x:Uy) (k:Int):Uy:=⟨x.ok,x.version,nums x.tags.length (k)⟩
def IZ (x:Fx):Nat:=1+x.drops.length+x.strips.length+1
def AnB (x:Fx) (k:Int):Fx:=⟨k,nums x.drops.length (k+1),nums x.strips.length (k+1+((x.drops.length:Nat):Int)),((k+1+((x.drops.length:Nat):Int)+((x.strips.length:Nat):Int)).tmod 3==0)⟩
def Em (x:BA):Nat:=1+1+x.deal.tags.length+1+x.up.length
def Vh (x:BA) (k:Int):BA:=⟨⟨((k).tmod 3==0),k+1,nums x.deal.tags.length (k+1+1)⟩,k+1+1+((x.deal.tags.length:Nat):Int),nums x.up.length (k+1+1+((x.deal.tags.length:Nat):Int)+1)⟩
def BQ (x:AJ):Nat:=x.versions.length+x.tags.length+LC IZ x.path+1
def Qa (x:AJ) (k:Int):AJ:=⟨nums x.versions.length (k),nums x.tags.length (k+((x.versions.length:Nat):Int)),mkL IZ AnB x.path (k+((x.versions.length:Nat):Int)+((x.tags.length:Nat):Int)),k+((x.versions.length:Nat):Int)+((x.tags.length:Nat):Int)+((LC IZ x.path:Nat):Int)⟩
def Ez (x:BX):Nat:=1+1+1+1+1+x.dialed.deal.tags.length+1+x.dialed.up.length
def Vr (x:BX) (k:Int):BX:=⟨k,k+1,((k+1+1).tmod 3==0),⟨⟨((k+1+1+1).tmod 3==0),k+1+1+1+1,nums x.dialed.deal.tags.length (k+1+1+1+1+1)⟩,k+1+1+1+1+1+((x.dialed.deal.tags.length:Nat):Int),nums x.dialed.up.length (k+1+1+1+1+1+((x.dialed.deal.tags.length:Nat):Int)+1)⟩⟩
def Da (x:Fj):Nat:=x.stages.length
def Cx (x:Fj) (k:Int):Fj:=⟨x.version,nums x.stages.length (k),x.pos,x.off⟩
def TK (x:World):Nat:=x.server.length+x.tags.length+LC BQ x.ends+x.rollout.stages.length+LC Em x.stage+LC Ez x.log
def GN (x:World) (k:Int):World:=⟨nums x.server.length (k),nums x.tags.length (k+((x.server.length:Nat):Int)),x.key,mkL BQ Qa x.ends (k+((x.server.length:Nat):Int)+((x.tags.length:Nat):Int)),⟨x.rollout.version,nums x.rollout.stages.length (k+((x.server.length:Nat):Int)+((x.tags.length:Nat):Int)+((LC BQ x.ends:Nat):Int)),x.rollout.pos,x.rollout.off⟩,x.least,x.percent,mkL Em Vh x.stage (k+((x.server.length:Nat):Int)+((x.tags.length:Nat):Int)+((LC BQ x.ends:Nat):Int)+((x.rollout.stages.length:Nat):Int)),mkL Ez Vr x.log (k+((x.server.length:Nat):Int)+((x.tags.length:Nat):Int)+((LC BQ x.ends:Nat):Int)+((x.rollout.stages.length:Nat):Int)+((LC Em x.stage:Nat):Int)),x.now,x.hurt,x.reached⟩
def FX (x:BA):Nat:=x.deal.tags.length+x.up.length
def EK (x:BA) (k:Int):BA:=⟨⟨x.deal.ok,x.deal.version,nums x.deal.tags.length (k)⟩,x.tries,nums x.up.length (k+((x.deal.tags.length:Nat):Int))⟩
end Go.Eng.T
namespace Go.Eng.T
theorem Aju:∀(n:Nat) (k:Int),nums n k++ [k+n]=nums (n+1) k
 | 0,k=>by simp[nums]
 | n+1,k=>by
  have:=Aju n (k+1)
  simp only[nums,List.cons_append]
  rw[show k+((n+1:Nat):Int)=k+1+(n:Int)by omega,this]
  rfl
theorem Aua {xs:List Int} {k:Int} {j:Nat} (h:j<xs.length):(nums j k++xs.drop j).set j (k+j)=nums (j+1) k++xs.drop (j+1):=by
 rw[List.set_append_right _ _ (by simp),AmS,Nat.sub_self,List.drop_eq_getElem_cons h,List.set_cons_zero,←Aju,List.append_assoc]
 rfl
abbrev Gr (R:Rel):Prop:=∀(xs:List Int) (k:Int),0≤k→k+xs.length≤4611686018427387904→R [.arr 0,I k] [.arr 1 0 xs.length (ints xs)] (I (k+xs.length)) [.arr 1 0 xs.length (ints (nums xs.length k))]
theorem AqG (D:Dn):Gr (Body D Pk):=by
 intro xs k hk hl
 simp -implicitDefEqProofs
 refine Ah (fun n s=>∃j,j+n=xs.length∧s=⟨[.arr 0,.sc (.int .i64 (k+j)),.undef,.sc (.int .i64 j),.undef],[.arr 1 0 xs.length (ints (nums j k++xs.drop j))]⟩) ?_ xs.length _ ⟨0,by simp,by simp[nums]⟩
 intro n s ⟨j,hj,hs⟩
 subst hs
 by_cases hjn:j<xs.length
 ·have hw:IntKind.i64.wrap ((j:Int)+1)=(j+1:Nat):=by rw[Ae (by omega) (by omega)];simp
  have hw2:IntKind.i64.wrap (k+j+1)=k+(j+1:Nat):=by rw[Ae (by omega) (by omega)];omega
  have hlen:j+(xs.length-j)=xs.length:=by omega
  simp -implicitDefEqProofs [hjn,hlen, -List.append_assoc,Aua hjn]
  exact⟨n-1,by omega,j+1,by omega,⟨by simpa using hw2,by simp[hw]⟩,rfl⟩
 ·have hje:j=xs.length:=by omega
  subst hje
  simp -implicitDefEqProofs [Ael]
abbrev Ry (R:Rel):Prop:=∀(n:Nat) (k:Int),0≤k→k+n≤4611686018427387904→R [.sl 1 1 n (ints (nums n k)),I k] [] (I (k+n)) []
theorem AqP (D:Dn):Ry (Body D Pq):=by
 intro m k hk hl
 simp -implicitDefEqProofs
 refine Ah (fun n s=>∃j,j+n=m∧s=⟨[.sl 1 1 m (ints (nums m k)),.sc (.int .i64 (k+j)),.undef,.sc (.int .i64 j),.undef,.undef],[]⟩) ?_ m _ ⟨0,by simp,by simp⟩
 intro n s ⟨j,hj,hs⟩
 subst hs
 by_cases hjn:j<m
 ·have hw:IntKind.i64.wrap ((j:Int)+1)=(j+1:Nat):=by rw[Ae (by omega) (by omega)];simp
  have hw2:IntKind.i64.wrap (k+j+1)=k+(j+1:Nat):=by rw[Ae (by omega) (by omega)];omega
  simp -implicitDefEqProofs [hjn,AoJ]
  exact⟨n-1,by omega,j+1,by omega,by simpa using hw2,by simp[hw]⟩
 ·have hje:j=m:=by omega
  subst hje
  simp -implicitDefEqProofs
end Go.Eng.T
namespace Go.Eng.T
set_option maxRecDepth 20000
abbrev Oz (R:Rel):Prop:=∀(xs:List BA) (k:Int),0≤k→k+LC Em xs≤4611686018427387904→R [.arr 0,I k] [.arr 5 0 xs.length (xs.flatMap Az)] (I (k+LC Em xs)) [.arr 5 0 xs.length ((mkL Em Vh xs k).flatMap Az)]
theorem AhV (D:Dn) (hmarkIntS:Gr (D ES)):Oz (Body D KV):=by
 intro xs k hk hl
 have hlen:xs.length≤LC Em xs:=Aks (fun x=>by unfold Em;omega) xs
 simp -implicitDefEqProofs
 refine Ah (fun n s=>∃j o,fd o∧j+n=xs.length∧s=⟨[.arr 0,.sc (.int .i64 (k+LC Em (xs.take j))),.undef,.sc (.int .i64 j),.undef],[.arr 5 0 xs.length ((mkJ Em Vh xs k j).flatMap Az),o,o]⟩) ?_ xs.length _ ⟨0,.free,AeA,by simp,by simp[Aaa,LC]⟩
 intro n s ⟨j,o,ho,hj,hs⟩
 subst hs
 by_cases hjn:j<xs.length
 ·have hw:IntKind.i64.wrap ((j:Int)+1)=(j+1:Nat):=by rw[Ae (by omega) (by omega)];simp
  have hjl:j≤xs.length:=by omega
  have hst:=ZX (mc:=Em) hjn
  have hle:=AkJ (mc:=Em) (xs:=xs) (j:=j+1)
  have hmc:Em xs[j]=1+1+xs[j].deal.tags.length+1+xs[j].up.length:=rfl
  have hset:=AeO (mc:=Em) (mk:=Vh) (k:=k) hjn
  generalize hK:k+(LC Em (xs.take j):Int)=K at hset⊢
  have hw0:IntKind.i64.wrap (K+1)=K+1:=Ae (by omega) (by omega)
  have hw1:IntKind.i64.wrap (K+1+1)=K+1+1:=Ae (by omega) (by omega)
  have hw3:IntKind.i64.wrap (K+1+1+((xs[j].deal.tags.length:Nat):Int)+1)=K+1+1+((xs[j].deal.tags.length:Nat):Int)+1:=Ae (by omega) (by omega)
  have hf1:j*5+1<xs.length*5:=by omega
  have hf2:j*5+2<xs.length*5:=by omega
  have hf3:j*5+3<xs.length*5:=by omega
  have hf4:j*5+4<xs.length*5:=by omega
  rcases ho with rfl | rfl
  all_goals simp -implicitDefEqProofs [hjn,hjl,IU hjn,hw0,hw1,hw3,hf1,hf2,hf3,hf4]
  all_goals refine Aa (hmarkIntS xs[j].deal.tags _ (by omega) (by omega)) ?_
  all_goals simp -implicitDefEqProofs [hjn,hjl,IU hjn,hw0,hw1,hw3,hf1,hf2,hf3,hf4]
  all_goals refine Aa (hmarkIntS xs[j].up _ (by omega) (by omega)) ?_
  all_goals simp -implicitDefEqProofs [hjn,hjl,IU hjn,hw0,hw1,hw3,hf1,hf2,hf3,hf4]
  all_goals exact⟨n-1,by omega,j+1,.dead,AeQ,by omega,⟨by first | omega | (rw[Ae (by omega) (by omega)];omega),by simp[hw]⟩,by rw[←hset];rfl,rfl⟩
 ·have hje:=Ae0 (mc:=Em) (mk:=Vh) (xs:=xs) (k:=k) (j:=j) (by omega)
  have hma:=AeS (mc:=Em) (xs:=xs) (j:=j) (by omega)
  simp -implicitDefEqProofs [hjn,hje,hma,Ael]
abbrev Oi (R:Rel):Prop:=∀(xs:List BX) (k:Int),0≤k→k+LC Ez xs≤4611686018427387904→R [.arr 0,I k] [.arr 8 0 xs.length (xs.flatMap Ar)] (I (k+LC Ez xs)) [.arr 8 0 xs.length ((mkL Ez Vr xs k).flatMap Ar)]
theorem AiZ (D:Dn) (hmarkIntS:Gr (D ES)):Oi (Body D Kv):=by
 intro xs k hk hl
 have hlen:xs.length≤LC Ez xs:=Aks (fun x=>by unfold Ez;omega) xs
 simp -implicitDefEqProofs
 refine Ah (fun n s=>∃j o,fd o∧j+n=xs.length∧s=⟨[.arr 0,.sc (.int .i64 (k+LC Ez (xs.take j))),.undef,.sc (.int .i64 j),.undef],[.arr 8 0 xs.length ((mkJ Ez Vr xs k j).flatMap Ar),o,o]⟩) ?_ xs.length _ ⟨0,.free,AeA,by simp,by simp[Aaa,LC]⟩
 intro n s ⟨j,o,ho,hj,hs⟩
 subst hs
 by_cases hjn:j<xs.length
 ·have hw:IntKind.i64.wrap ((j:Int)+1)=(j+1:Nat):=by rw[Ae (by omega) (by omega)];simp
  have hjl:j≤xs.length:=by omega
  have hst:=ZX (mc:=Ez) hjn
  have hle:=AkJ (mc:=Ez) (xs:=xs) (j:=j+1)
  have hmc:Ez xs[j]=1+1+1+1+1+xs[j].dialed.deal.tags.length+1+xs[j].dialed.up.length:=rfl
  have hset:=AeO (mc:=Ez) (mk:=Vr) (k:=k) hjn
  generalize hK:k+(LC Ez (xs.take j):Int)=K at hset⊢
  have hw0:IntKind.i64.wrap (K+1)=K+1:=Ae (by omega) (by omega)
  have hw1:IntKind.i64.wrap (K+1+1)=K+1+1:=Ae (by omega) (by omega)
  have hw2:IntKind.i64.wrap (K+1+1+1)=K+1+1+1:=Ae (by omega) (by omega)
  have hw3:IntKind.i64.wrap (K+1+1+1+1)=K+1+1+1+1:=Ae (by omega) (by omega)
  have hw4:IntKind.i64.wrap (K+1+1+1+1+1)=K+1+1+1+1+1:=Ae (by omega) (by omega)
  have hw6:IntKind.i64.wrap (K+1+1+1+1+1+((xs[j].dialed.deal.tags.length:Nat):Int)+1)=K+1+1+1+1+1+((xs[j].dialed.deal.tags.length:Nat):Int)+1:=Ae (by omega) (by omega)
  have hf1:j*8+1<xs.length*8:=by omega
  have hf2:j*8+2<xs.length*8:=by omega
  have hf3:j*8+3<xs.length*8:=by omega
  have hf4:j*8+4<xs.length*8:=by omega
  have hf5:j*8+5<xs.length*8:=by omega
  have hf6:j*8+6<xs.length*8:=by omega
  have hf7:j*8+7<xs.length*8:=by omega
  rcases ho with rfl | rfl
  all_goals simp -implicitDefEqProofs [hjn,hjl,IU hjn,hw0,hw1,hw2,hw3,hw4,hw6,hf1,hf2,hf3,hf4,hf5,hf6,hf7]
  all_goals refine Aa (hmarkIntS xs[j].dialed.deal.tags _ (by omega) (by omega)) ?_
  all_goals simp -implicitDefEqProofs [hjn,hjl,IU hjn,hw0,hw1,hw2,hw3,hw4,hw6,hf1,hf2,hf3,hf4,hf5,hf6,hf7]
  all_goals refine Aa (hmarkIntS xs[j].dialed.up _ (by omega) (by omega)) ?_
  all_goals simp -implicitDefEqProofs [hjn,hjl,IU hjn,hw0,hw1,hw2,hw3,hw4,hw6,hf1,hf2,hf3,hf4,hf5,hf6,hf7]
  all_goals exact⟨n-1,by omega,j+1,.dead,AeQ,by omega,⟨by first | omega | (rw[Ae (by omega) (by omega)];omega),by simp[hw]⟩,by rw[←hset];rfl,rfl⟩
 ·have hje:=Ae0 (mc:=Ez) (mk:=Vr) (xs:=xs) (k:=k) (j:=j) (by omega)
  have hma:=AeS (mc:=Ez) (xs:=xs) (j:=j) (by omega)
  simp -implicitDefEqProofs [hjn,hje,hma,Ael]
end Go.Eng.T
namespace Go.Eng.T
set_option maxRecDepth 20000
abbrev AaC (R:Rel):Prop:=∀(x:World) (l:Int),0≤l→l≤4194304→Zk x→R [arg (P5 x),I l] [] (I (szl (Br x) l)) []
theorem Atr (D:Dn) (hszIntS:Oo (D 16)) (hszEndpointS:OE (D 17)) (hszRollout:TL (D 18)) (hszDialedS:Ti (D 19)) (hszLoggedS:Sv (D 20)):AaC (Body D Rl):=by
 intro x l hl1 hl2 hln
 simp only[Zk]at hln
 simp -implicitDefEqProofs
 refine Aa (hszIntS x.server (l) (by omega) (by omega) hln.1) ?_
 by_cases g0:l<((x.server.length:Nat):Int)
 ·have gg:l<((Br x:Nat):Int):=by simp only[Br];omega
  have e1:szl (x.server.length) (l)= -1:=by unfold szl;rw[if_pos g0]
  have e2:szl (Br x) l= -1:=by unfold szl;rw[if_pos gg]
  simp -implicitDefEqProofs [e1,e2]
 have e3:szl (x.server.length) (l)=l-((x.server.length:Nat):Int):=by unfold szl;rw[if_neg g0]
 have p0:¬l-((x.server.length:Nat):Int)<0:=by omega
 simp -implicitDefEqProofs [e3,p0]
 refine Aa (hszIntS x.tags (l-((x.server.length:Nat):Int)) (by omega) (by omega) hln.2.1) ?_
 by_cases g1:l-((x.server.length:Nat):Int)<((x.tags.length:Nat):Int)
 ·have gg:l<((Br x:Nat):Int):=by simp only[Br];omega
  have e1:szl (x.tags.length) (l-((x.server.length:Nat):Int))= -1:=by unfold szl;rw[if_pos g1]
  have e2:szl (Br x) l= -1:=by unfold szl;rw[if_pos gg]
  simp -implicitDefEqProofs [e1,e2]
 have e4:szl (x.tags.length) (l-((x.server.length:Nat):Int))=l-((x.server.length:Nat):Int)-((x.tags.length:Nat):Int):=by unfold szl;rw[if_neg g1]
 have p1:¬l-((x.server.length:Nat):Int)-((x.tags.length:Nat):Int)<0:=by omega
 simp -implicitDefEqProofs [e4,p1]
 refine Aa (hszEndpointS x.ends (l-((x.server.length:Nat):Int)-((x.tags.length:Nat):Int)) (by omega) (by omega) hln.2.2.1) ?_
 by_cases g2:l-((x.server.length:Nat):Int)-((x.tags.length:Nat):Int)<((Bq Ad x.ends:Nat):Int)
 ·have gg:l<((Br x:Nat):Int):=by simp only[Br];omega
  have e1:szl (Bq Ad x.ends) (l-((x.server.length:Nat):Int)-((x.tags.length:Nat):Int))= -1:=by unfold szl;rw[if_pos g2]
  have e2:szl (Br x) l= -1:=by unfold szl;rw[if_pos gg]
  simp -implicitDefEqProofs [e1,e2]
 have e5:szl (Bq Ad x.ends) (l-((x.server.length:Nat):Int)-((x.tags.length:Nat):Int))=l-((x.server.length:Nat):Int)-((x.tags.length:Nat):Int)-((Bq Ad x.ends:Nat):Int):=by unfold szl;rw[if_neg g2]
 have p2:¬l-((x.server.length:Nat):Int)-((x.tags.length:Nat):Int)-((Bq Ad x.ends:Nat):Int)<0:=by omega
 simp -implicitDefEqProofs [e5,p2]
 refine Aa (hszRollout x.rollout (l-((x.server.length:Nat):Int)-((x.tags.length:Nat):Int)-((Bq Ad x.ends:Nat):Int)) (by omega) (by omega) hln.2.2.2.1) ?_
 by_cases g3:l-((x.server.length:Nat):Int)-((x.tags.length:Nat):Int)-((Bq Ad x.ends:Nat):Int)<((Bh x.rollout:Nat):Int)
 ·have gg:l<((Br x:Nat):Int):=by simp only[Br];omega
  have e1:szl (Bh x.rollout) (l-((x.server.length:Nat):Int)-((x.tags.length:Nat):Int)-((Bq Ad x.ends:Nat):Int))= -1:=by unfold szl;rw[if_pos g3]
  have e2:szl (Br x) l= -1:=by unfold szl;rw[if_pos gg]
  simp -implicitDefEqProofs [e1,e2]
 have e6:szl (Bh x.rollout) (l-((x.server.length:Nat):Int)-((x.tags.length:Nat):Int)-((Bq Ad x.ends:Nat):Int))=l-((x.server.length:Nat):Int)-((x.tags.length:Nat):Int)-((Bq Ad x.ends:Nat):Int)-((Bh x.rollout:Nat):Int):=by unfold szl;rw[if_neg g3]
 have p3:¬l-((x.server.length:Nat):Int)-((x.tags.length:Nat):Int)-((Bq Ad x.ends:Nat):Int)-((Bh x.rollout:Nat):Int)<0:=by omega
 simp -implicitDefEqProofs [e6,p3]
 refine Aa (hszDialedS x.stage (l-((x.server.length:Nat):Int)-((x.tags.length:Nat):Int)-((Bq Ad x.ends:Nat):Int)-((Bh x.rollout:Nat):Int)) (by omega) (by omega) hln.2.2.2.2.1) ?_
 by_cases g4:l-((x.server.length:Nat):Int)-((x.tags.length:Nat):Int)-((Bq Ad x.ends:Nat):Int)-((Bh x.rollout:Nat):Int)<((Bq Ai x.stage:Nat):Int)
 ·have gg:l<((Br x:Nat):Int):=by simp only[Br];omega
  have e1:szl (Bq Ai x.stage) (l-((x.server.length:Nat):Int)-((x.tags.length:Nat):Int)-((Bq Ad x.ends:Nat):Int)-((Bh x.rollout:Nat):Int))= -1:=by unfold szl;rw[if_pos g4]
  have e2:szl (Br x) l= -1:=by unfold szl;rw[if_pos gg]
  simp -implicitDefEqProofs [e1,e2]
 have e7:szl (Bq Ai x.stage) (l-((x.server.length:Nat):Int)-((x.tags.length:Nat):Int)-((Bq Ad x.ends:Nat):Int)-((Bh x.rollout:Nat):Int))=l-((x.server.length:Nat):Int)-((x.tags.length:Nat):Int)-((Bq Ad x.ends:Nat):Int)-((Bh x.rollout:Nat):Int)-((Bq Ai x.stage:Nat):Int):=by unfold szl;rw[if_neg g4]
 have p4:¬l-((x.server.length:Nat):Int)-((x.tags.length:Nat):Int)-((Bq Ad x.ends:Nat):Int)-((Bh x.rollout:Nat):Int)-((Bq Ai x.stage:Nat):Int)<0:=by omega
 simp -implicitDefEqProofs [e7,p4]
 refine Aa (hszLoggedS x.log (l-((x.server.length:Nat):Int)-((x.tags.length:Nat):Int)-((Bq Ad x.ends:Nat):Int)-((Bh x.rollout:Nat):Int)-((Bq Ai x.stage:Nat):Int)) (by omega) (by omega) hln.2.2.2.2.2) ?_
 by_cases g5:l-((x.server.length:Nat):Int)-((x.tags.length:Nat):Int)-((Bq Ad x.ends:Nat):Int)-((Bh x.rollout:Nat):Int)-((Bq Ai x.stage:Nat):Int)<((Bq Aw x.log:Nat):Int)
 ·have gg:l<((Br x:Nat):Int):=by simp only[Br];omega
  have e1:szl (Bq Aw x.log) (l-((x.server.length:Nat):Int)-((x.tags.length:Nat):Int)-((Bq Ad x.ends:Nat):Int)-((Bh x.rollout:Nat):Int)-((Bq Ai x.stage:Nat):Int))= -1:=by unfold szl;rw[if_pos g5]
  have e2:szl (Br x) l= -1:=by unfold szl;rw[if_pos gg]
  simp -implicitDefEqProofs [e1,e2]
 have e8:szl (Bq Aw x.log) (l-((x.server.length:Nat):Int)-((x.tags.length:Nat):Int)-((Bq Ad x.ends:Nat):Int)-((Bh x.rollout:Nat):Int)-((Bq Ai x.stage:Nat):Int))=l-((x.server.length:Nat):Int)-((x.tags.length:Nat):Int)-((Bq Ad x.ends:Nat):Int)-((Bh x.rollout:Nat):Int)-((Bq Ai x.stage:Nat):Int)-((Bq Aw x.log:Nat):Int):=by unfold szl;rw[if_neg g5]
 have p5:¬l-((x.server.length:Nat):Int)-((x.tags.length:Nat):Int)-((Bq Ad x.ends:Nat):Int)-((Bh x.rollout:Nat):Int)-((Bq Ai x.stage:Nat):Int)-((Bq Aw x.log:Nat):Int)<0:=by omega
 simp -implicitDefEqProofs [e8,p5]
 have gg:¬l<((Br x:Nat):Int):=by simp only[Br];omega
 unfold szl;rw[if_neg gg];simp only[Br]<;>omega
abbrev YI (R:Rel):Prop:=∀x:World,Br x≤4194304→R [arg (P5 x)] [] (.agg (P5 x)) []
theorem AtF (D:Dn) (htoIntS:OB (D 31)) (htoEndpointS:Ov (D 32)) (htoRollout:Sm (D 33)) (htoDialedS:Sq (D 34)) (htoLoggedS:Tg (D 35)):YI (Body D Q6):=by
 intro x h
 simp only[Br]at h
 simp -implicitDefEqProofs
 refine Aa (htoIntS x.server (by omega)) ?_
 simp -implicitDefEqProofs
 refine Aa (htoIntS x.tags (by omega)) ?_
 simp -implicitDefEqProofs
 refine Aa (htoEndpointS x.ends (by omega)) ?_
 simp -implicitDefEqProofs
 refine Aa (htoRollout x.rollout (by omega)) ?_
 simp -implicitDefEqProofs
 refine Aa (htoDialedS x.stage (by omega)) ?_
 simp -implicitDefEqProofs
 refine Aa (htoLoggedS x.log (by omega)) ?_
 simp -implicitDefEqProofs
abbrev Zn (R:Rel):Prop:=∀x y:World,Br x≤2 ^ 40→Br y≤2 ^ 40→R [arg (P5 x),arg (P5 y)] [] (B (decide (x=y))) []
theorem AtW (D:Dn) (heqIntS:Fg (D 47)) (heqEndpointS:Om (D 48)) (heqRollout:SA (D 49)) (heqDialedS:Tv (D 50)) (heqLoggedS:TS (D 51)):Zn (Body D QE):=by
 intro x y h1 h2
 simp only[Br]at h1 h2
 simp -implicitDefEqProofs
 refine Aa (heqIntS x.server y.server (by unfold maxLen;omega) (by unfold maxLen;omega)) ?_
 by_cases g_server:x.server=y.server
 rotate_left
 ·have hne:x≠y:=fun h=>g_server (by rw[h])
  simp -implicitDefEqProofs [g_server,hne]
 simp -implicitDefEqProofs [g_server]
 refine Aa (heqIntS x.tags y.tags (by unfold maxLen;omega) (by unfold maxLen;omega)) ?_
 by_cases g_tags:x.tags=y.tags
 rotate_left
 ·have hne:x≠y:=fun h=>g_tags (by rw[h])
  simp -implicitDefEqProofs [g_tags,hne]
 simp -implicitDefEqProofs [g_tags]
 by_cases g_key:x.key=y.key
 rotate_left
 ·have hne:x≠y:=fun h=>g_key (by rw[h])
  simp -implicitDefEqProofs [g_key,hne]
 simp -implicitDefEqProofs [g_key]
 refine Aa (heqEndpointS x.ends y.ends (by omega) (by omega)) ?_
 by_cases g_ends:x.ends=y.ends
 rotate_left
 ·have hne:x≠y:=fun h=>g_ends (by rw[h])
  simp -implicitDefEqProofs [g_ends,hne]
 simp -implicitDefEqProofs [g_ends]
 refine Aa (heqRollout x.rollout y.rollout (by omega) (by omega)) ?_
 by_cases g_rollout:x.rollout=y.rollout
 rotate_left
 ·have hne:x≠y:=fun h=>g_rollout (by rw[h])
  simp -implicitDefEqProofs [g_rollout,hne]
 simp -implicitDefEqProofs [g_rollout]
 by_cases g_least:x.least=y.least
 rotate_left
 ·have hne:x≠y:=fun h=>g_least (by rw[h])
  simp -implicitDefEqProofs [g_least,hne]
 simp -implicitDefEqProofs [g_least]
 by_cases g_percent:x.percent=y.percent
 rotate_left
 ·have hne:x≠y:=fun h=>g_percent (by rw[h])
  simp -implicitDefEqProofs [g_percent,hne]
 simp -implicitDefEqProofs [g_percent]
 refine Aa (heqDialedS x.stage y.stage (by omega) (by omega)) ?_
 by_cases g_stage:x.stage=y.stage
 rotate_left
 ·have hne:x≠y:=fun h=>g_stage (by rw[h])
  simp -implicitDefEqProofs [g_stage,hne]
 simp -implicitDefEqProofs [g_stage]
 refine Aa (heqLoggedS x.log y.log (by omega) (by omega)) ?_
 by_cases g_log:x.log=y.log
 rotate_left
 ·have hne:x≠y:=fun h=>g_log (by rw[h])
  simp -implicitDefEqProofs [g_log,hne]
 simp -implicitDefEqProofs [g_log]
 by_cases g_now:x.now=y.now
 rotate_left
 ·have hne:x≠y:=fun h=>g_now (by rw[h])
  simp -implicitDefEqProofs [g_now,hne]
 simp -implicitDefEqProofs [g_now]
 by_cases g_hurt:x.hurt=y.hurt
 rotate_left
 ·have hne:x≠y:=fun h=>g_hurt (by rw[h])
  simp -implicitDefEqProofs [g_hurt,hne]
 simp -implicitDefEqProofs [g_hurt]
 by_cases g_reached:x.reached=y.reached
 rotate_left
 ·have hne:x≠y:=fun h=>g_reached (by rw[h])
  simp -implicitDefEqProofs [g_reached,hne]
 simp -implicitDefEqProofs [g_reached]
 have hxy:x=y:=by cases x;cases y;simp_all
 simp -implicitDefEqProofs [hxy]
end Go.Eng.T
namespace Go.Eng.T
abbrev Vz (R:Rel):Prop:=∀(xs:List Fx) (k:Int),0≤k→k+LC IZ xs≤4611686018427387904→R [.arr 0,I k] [.arr 4 0 xs.length (xs.flatMap Ck)] (I (k+LC IZ xs)) [.arr 4 0 xs.length ((mkL IZ AnB xs k).flatMap Ck)]
theorem Aqk (D:Dn) (hmarkIntS:Gr (D ES)):Vz (Body D O4):=by
 intro xs k hk hl
 have hlen:xs.length≤LC IZ xs:=Aks (fun x=>by unfold IZ;omega) xs
 simp -implicitDefEqProofs
 refine Ah (fun n s=>∃j o,fd o∧j+n=xs.length∧s=⟨[.arr 0,.sc (.int .i64 (k+LC IZ (xs.take j))),.undef,.sc (.int .i64 j),.undef],[.arr 4 0 xs.length ((mkJ IZ AnB xs k j).flatMap Ck),o,o]⟩) ?_ xs.length _ ⟨0,.free,AeA,by simp,by simp[Aaa,LC]⟩
 intro n s ⟨j,o,ho,hj,hs⟩
 subst hs
 by_cases hjn:j<xs.length
 ·have hw:IntKind.i64.wrap ((j:Int)+1)=(j+1:Nat):=by rw[Ae (by omega) (by omega)];simp
  have hjl:j≤xs.length:=by omega
  have hst:=ZX (mc:=IZ) hjn
  have hle:=AkJ (mc:=IZ) (xs:=xs) (j:=j+1)
  have hmc:IZ xs[j]=1+xs[j].drops.length+xs[j].strips.length+1:=rfl
  have hset:=AeO (mc:=IZ) (mk:=AnB) (k:=k) hjn
  generalize hK:k+(LC IZ (xs.take j):Int)=K at hset⊢
  have hw0:IntKind.i64.wrap (K+1)=K+1:=Ae (by omega) (by omega)
  have hw3:IntKind.i64.wrap (K+1+((xs[j].drops.length:Nat):Int)+((xs[j].strips.length:Nat):Int)+1)=K+1+((xs[j].drops.length:Nat):Int)+((xs[j].strips.length:Nat):Int)+1:=Ae (by omega) (by omega)
  have hf1:j*4+1<xs.length*4:=by omega
  have hf2:j*4+2<xs.length*4:=by omega
  have hf3:j*4+3<xs.length*4:=by omega
  rcases ho with rfl | rfl
  all_goals simp -implicitDefEqProofs [hjn,hjl,IU hjn,hw0,hw3,hf1,hf2,hf3]
  all_goals refine Aa (hmarkIntS xs[j].drops _ (by omega) (by omega)) ?_
  all_goals simp -implicitDefEqProofs [hjn,hjl,IU hjn,hw0,hw3,hf1,hf2,hf3]
  all_goals refine Aa (hmarkIntS xs[j].strips _ (by omega) (by omega)) ?_
  all_goals simp -implicitDefEqProofs [hjn,hjl,IU hjn,hw0,hw3,hf1,hf2,hf3]
  all_goals exact⟨n-1,by omega,j+1,.dead,AeQ,by omega,⟨by first | omega | (rw[Ae (by omega) (by omega)];omega),by simp[hw]⟩,by rw[←hset];rfl,rfl⟩
 ·have hje:=Ae0 (mc:=IZ) (mk:=AnB) (xs:=xs) (k:=k) (j:=j) (by omega)
  have hma:=AeS (mc:=IZ) (xs:=xs) (j:=j) (by omega)
  simp -implicitDefEqProofs [hjn,hje,hma,Ael]
abbrev K7 (R:Rel):Prop:=∀(xs:List AJ) (k:Int),0≤k→k+LC BQ xs≤4611686018427387904→R [.arr 0,I k] [.arr 4 0 xs.length (xs.flatMap Ak)] (I (k+LC BQ xs)) [.arr 4 0 xs.length ((mkL BQ Qa xs k).flatMap Ak)]
theorem AdV (D:Dn) (hmarkIntS:Gr (D ES)) (hmarkBoxS:Vz (D Agk)):K7 (Body D Jh):=by
 intro xs k hk hl
 have hlen:xs.length≤LC BQ xs:=Aks (fun x=>by unfold BQ;omega) xs
 simp -implicitDefEqProofs
 refine Ah (fun n s=>∃j o,fd o∧j+n=xs.length∧s=⟨[.arr 0,.sc (.int .i64 (k+LC BQ (xs.take j))),.undef,.sc (.int .i64 j),.undef],[.arr 4 0 xs.length ((mkJ BQ Qa xs k j).flatMap Ak),o,o,o]⟩) ?_ xs.length _ ⟨0,.free,AeA,by simp,by simp[Aaa,LC]⟩
 intro n s ⟨j,o,ho,hj,hs⟩
 subst hs
 by_cases hjn:j<xs.length
 ·have hw:IntKind.i64.wrap ((j:Int)+1)=(j+1:Nat):=by rw[Ae (by omega) (by omega)];simp
  have hjl:j≤xs.length:=by omega
  have hst:=ZX (mc:=BQ) hjn
  have hle:=AkJ (mc:=BQ) (xs:=xs) (j:=j+1)
  have hmc:BQ xs[j]=xs[j].versions.length+xs[j].tags.length+LC IZ xs[j].path+1:=rfl
  have hset:=AeO (mc:=BQ) (mk:=Qa) (k:=k) hjn
  generalize hK:k+(LC BQ (xs.take j):Int)=K at hset⊢
  have hw3:IntKind.i64.wrap (K+((xs[j].versions.length:Nat):Int)+((xs[j].tags.length:Nat):Int)+((LC IZ xs[j].path:Nat):Int)+1)=K+((xs[j].versions.length:Nat):Int)+((xs[j].tags.length:Nat):Int)+((LC IZ xs[j].path:Nat):Int)+1:=Ae (by omega) (by omega)
  have hf1:j*4+1<xs.length*4:=by omega
  have hf2:j*4+2<xs.length*4:=by omega
  have hf3:j*4+3<xs.length*4:=by omega
  rcases ho with rfl | rfl
  all_goals simp -implicitDefEqProofs [hjn,hjl,IU hjn,hw3,hf1,hf2,hf3]
  all_goals refine Aa (hmarkIntS xs[j].versions _ (by omega) (by omega)) ?_
  all_goals simp -implicitDefEqProofs [hjn,hjl,IU hjn,hw3,hf1,hf2,hf3]
  all_goals refine Aa (hmarkIntS xs[j].tags _ (by omega) (by omega)) ?_
  all_goals simp -implicitDefEqProofs [hjn,hjl,IU hjn,hw3,hf1,hf2,hf3]
  all_goals refine Aa (hmarkBoxS xs[j].path _ (by omega) (by omega)) ?_
  all_goals simp -implicitDefEqProofs [hjn,hjl,IU hjn,hw3,hf1,hf2,hf3]
  all_goals exact⟨n-1,by omega,j+1,.dead,AeQ,by omega,⟨by first | omega | (rw[Ae (by omega) (by omega)];omega),by simp[hw]⟩,by rw[←hset];rfl,rfl⟩
 ·have hje:=Ae0 (mc:=BQ) (mk:=Qa) (xs:=xs) (k:=k) (j:=j) (by omega)
  have hma:=AeS (mc:=BQ) (xs:=xs) (j:=j) (by omega)
  simp -implicitDefEqProofs [hjn,hje,hma,Ael]
end Go.Eng.T
namespace Go.Eng.T
set_option maxRecDepth 20000
abbrev Og (R:Rel):Prop:=∀(x:Fj) (k:Int),0≤k→k+Da x≤4611686018427387904→R [.agg [.sc (.int .i64 x.version),.arr 0,.sc (.int .i64 x.pos),.sc (.bool x.off)],I k] [.arr 1 0 x.stages.length (ints (x.stages))] (I (k+Da x)) [.arr 1 0 x.stages.length (ints ((Cx x k).stages))]
theorem Ah3 (D:Dn) (hmarkIntS:Gr (D ES)):Og (Body D Lm):=by
 intro x k hk hl
 simp only[Da]at hl
 simp -implicitDefEqProofs
 refine Aa (hmarkIntS x.stages _ (by omega) (by omega)) ?_
 simp -implicitDefEqProofs [Da,Cx,EN,I5]
 simp[Cx,Da,Ael,Int.add_assoc,show List.range 6=[0,1,2,3,4,5]from rfl,show List.range 2=[0,1]from rfl,show List.range 3=[0,1,2]from rfl]
abbrev SQ (R:Rel):Prop:=∀(x:World) (k:Int),0≤k→k+TK x≤4611686018427387904→R [.agg [.arr 0,.arr 1,.sc (.int .i64 x.key),.arr 2,.sc (.int .i64 x.rollout.version),.arr 3,.sc (.int .i64 x.rollout.pos),.sc (.bool x.rollout.off),.sc (.int .i64 x.least),.sc (.int .i64 x.percent),.arr 4,.arr 5,.sc (.int .i64 x.now),.sc (.int .i64 x.hurt),.sc (.int .i64 x.reached)],I k] [.arr 1 0 x.server.length (ints (x.server)),.arr 1 0 x.tags.length (ints (x.tags)),.arr 4 0 x.ends.length ((x.ends).flatMap Ak),.arr 1 0 x.rollout.stages.length (ints (x.rollout.stages)),.arr 5 0 x.stage.length ((x.stage).flatMap Az),.arr 8 0 x.log.length ((x.log).flatMap Ar)] (I (k+TK x)) [.arr 1 0 x.server.length (ints ((GN x k).server)),.arr 1 0 x.tags.length (ints ((GN x k).tags)),.arr 4 0 x.ends.length (((GN x k).ends).flatMap Ak),.arr 1 0 x.rollout.stages.length (ints ((GN x k).rollout.stages)),.arr 5 0 x.stage.length (((GN x k).stage).flatMap Az),.arr 8 0 x.log.length (((GN x k).log).flatMap Ar)]
theorem AmF (D:Dn) (hmarkIntS:Gr (D ES)) (hmarkEndpointS:K7 (D Wn)) (hmarkRollout:Og (D YP)) (hmarkDialedS:Oz (D Zz)) (hmarkLoggedS:Oi (D ZG)):SQ (Body D Nu):=by
 intro x k hk hl
 simp only[TK]at hl
 simp -implicitDefEqProofs
 refine Aa (hmarkIntS x.server _ (by omega) (by omega)) ?_
 simp -implicitDefEqProofs [Da,Cx,EN,I5]
 refine Aa (hmarkIntS x.tags _ (by omega) (by omega)) ?_
 simp -implicitDefEqProofs [Da,Cx,EN,I5]
 refine Aa (hmarkEndpointS x.ends _ (by omega) (by omega)) ?_
 simp -implicitDefEqProofs [Da,Cx,EN,I5]
 refine Aa (hmarkRollout x.rollout _ (by omega) (by simp only[Da];omega)) ?_
 simp -implicitDefEqProofs [Da,Cx,EN,I5]
 refine Aa (hmarkDialedS x.stage _ (by omega) (by omega)) ?_
 simp -implicitDefEqProofs [Da,Cx,EN,I5]
 refine Aa (hmarkLoggedS x.log _ (by omega) (by omega)) ?_
 simp -implicitDefEqProofs [Da,Cx,EN,I5]
 simp[GN,TK,Ael,Int.add_assoc,show List.range 6=[0,1,2,3,4,5]from rfl,show List.range 2=[0,1]from rfl,show List.range 3=[0,1,2]from rfl]
end Go.Eng.T
namespace Go.Eng.T
theorem ZH {xs:List Int} {v:Int} {j:Nat} (h:j<xs.length) (hp:v∉xs.take j) (hv:¬xs[j]=v):v∉xs.take (j+1):=by
 rw[List.take_add_one,List.getElem?_eq_getElem h]
 intro hm
 rcases List.mem_append.1 hm with hm | hm
 ·exact hp hm
 ·simp at hm;exact hv hm.symm
theorem Acw {xs:List Int} {v:Int} {j:Nat} (h:xs.length≤j) (hp:v∉xs.take j):v∉xs:=by rwa [List.take_of_length_le h]at hp
theorem AmI {xs:List Int} {v:Int} {j:Nat} (h:j<xs.length) (hv:xs[j]=v):v∈xs:=by rw[←hv];exact List.getElem_mem h
def Aqe (xs:List Int) (v:Int):Int:=if v∈xs then(xs.idxOf v:Nat)else -1
theorem Avy {xs:List Int} {v:Int} {j:Nat} (h:j<xs.length) (hp:v∉xs.take j) (hv:xs[j]=v):Aqe xs v=j:=by
 unfold Aqe
 rw[if_pos (AmI h hv)]
 congr 1
 have e:xs=xs.take j++v::xs.drop (j+1):=by
  conv=>lhs;rw[←List.take_append_drop j xs,List.drop_eq_getElem_cons h,hv]
 rw[e,List.idxOf_append,if_neg hp]
 simp
 omega
theorem AyV {xs:List Int} {v:Int}:(0≤Aqe xs v)=(v∈xs):=by
 unfold Aqe
 by_cases h:v∈xs<;>simp[h]
abbrev Ame (R:Rel):Prop:=∀(xs:List Int) (v:Int),xs.length≤maxLen→R [.sl 1 1 xs.length (ints xs),I v] [] (I (Aqe xs v)) []
theorem AzP (D:Dn):Ame (Body D Gb):=by
 intro xs v hl
 unfold maxLen at hl
 simp -implicitDefEqProofs
 refine Ah (fun k s=>∃j,j+k=xs.length∧v∉xs.take j∧s=⟨[.sl 1 1 xs.length (ints xs),.sc (.int .i64 v),.undef,.undef,.sc (.int .i64 xs.length),.sc (.int .i64 j),.undef,.undef],[]⟩) ?_ xs.length _ ⟨0,by simp,by simp,by simp⟩
 intro k s ⟨j,hj,hp,hs⟩
 subst hs
 by_cases hjn:j<xs.length
 ·have hw:IntKind.i64.wrap ((j:Int)+1)=(j+1:Nat):=by rw[Ae (by omega) (by omega)];simp
  by_cases he:v=xs[j]
  ·have hx:=Avy hjn hp he.symm
   simp -implicitDefEqProofs [hjn,←he,hx]
  ·simp -implicitDefEqProofs [hjn,he]
   exact⟨k-1,by omega,j+1,by omega,ZH hjn hp (fun h=>he h.symm),by simp[hw]⟩
 ·have hx:Aqe xs v= -1:=by unfold Aqe;rw[if_neg (Acw (by omega) hp)]
  simp -implicitDefEqProofs [hjn,hx]
abbrev Tk (R:Rel):Prop:=∀(xs:List Int) (v:Int),xs.length≤maxLen→R [.sl 1 1 xs.length (ints xs),I v] [] (B (decide (v∈xs))) []
theorem Ap2 (D:Dn) (hI:Ame (D 389)):Tk (Body D Fq):=by
 intro xs v hl
 simp -implicitDefEqProofs
 refine Aa (hI xs v hl) ?_
 simp -implicitDefEqProofs [AyV]
theorem Azi (D:Dn):Tk (Body D Vf):=by
 intro xs v hl
 unfold maxLen at hl
 simp -implicitDefEqProofs
 refine Ah (fun k s=>∃j,j+k=xs.length∧v∉xs.take j∧s=⟨[.sl 1 1 xs.length (ints xs),.sc (.int .i64 v),.undef,.sc (.int .i64 j),.undef,.undef],[]⟩) ?_ xs.length _ ⟨0,by simp,by simp,by simp⟩
 intro k s ⟨j,hj,hp,hs⟩
 subst hs
 by_cases hjn:j<xs.length
 ·have hw:IntKind.i64.wrap ((j:Int)+1)=(j+1:Nat):=by rw[Ae (by omega) (by omega)];simp
  by_cases he:xs[j]=v
  ·have hx:=AmI hjn he
   simp -implicitDefEqProofs [hjn,he,hx]
  ·simp -implicitDefEqProofs [hjn,he]
   exact⟨k-1,by omega,j+1,by omega,ZH hjn hp he,by simp[hw]⟩
 ·have hx:=Acw (by omega) hp
  simp -implicitDefEqProofs [hjn,hx]
def ADq (v:Int) (d:BA):Bool:= !d.deal.ok||(decide (d.deal.version<v)&&decide (v∈d.up))
end Go.Eng.T
namespace Go.Eng.T
end Go.Eng.T
namespace Go.Eng.T
theorem A8 {y:Ty} {ys:List Ty} {cs:List V} (h:UQ (y::ys) cs):∃a b,Dat y a∧UQ ys b∧cs=a++b:=by simp only[UQ]at h;exact h
theorem Pg {cs:List V} (h:UQ [] cs):cs=[]:=by simp only[UQ]at h;exact h
theorem Yp {ys:List Ty} {cs:List V} (h:Dat (.st ys) cs):UQ ys cs:=by simp only[Dat]at h;exact h
def rgI (n:Int):Prop:= -9223372036854775808≤n∧n≤9223372036854775807
theorem rg_of {n:Int} (h:(Lit.int .i64 n).wf=true):rgI n:=by
 simp only[Lit.wf,IntKind.min,IntKind.max,IntKind.bits,IntKind.signed,Bool.and_eq_true,decide_eq_true_eq]at h
 exact⟨h.1,h.2⟩
theorem WI {cs:List V} (h:Dat (.int .i64) cs):∃n,cs=[.sc (.int .i64 n)]∧rgI n:=by
 simp only[Dat]at h
 obtain⟨n,h1,h2⟩:=h
 exact⟨n,h2,rg_of h1⟩
theorem AzO {cs:List V} (h:Dat .bool cs):∃b,cs=[.sc (.bool b)]:=by simp only[Dat]at h;exact h
theorem AgJ {α:Type} {f:α→List V} {p:α→Prop}:∀ {xs:List (List V)},(∀x,x∈xs→∃d,x=f d∧p d)→∃ds:List α,xs=ds.map f∧∀d,d∈ds→p d
 | [],_=>⟨[],rfl,by simp⟩
 | x::xs,h=>by
  obtain⟨d,rfl,hd⟩:=h x (by simp)
  obtain⟨ds,rfl,hds⟩:=AgJ (xs:=xs) fun y hy=>h y (by simp[hy])
  exact⟨d::ds,rfl,by intro y hy;rcases List.mem_cons.1 hy with rfl | hy;exact hd;exact hds y hy⟩
theorem AhI {α:Type} {y:Ty} {f:α→List V} {p:α→Prop} (hf:∀cs,Dat y cs→∃d,cs=f d∧p d) {cs:List V} (h:Dat (.sl y) cs):
 ∃ds:List α,cs=[.sl 0 y.cells ds.length (ds.flatMap f)]∧ds.length≤maxLen∧∀d,d∈ds→p d:=by
 simp only[Dat]at h
 obtain⟨xs,h1,h2,rfl⟩:=h
 obtain⟨ds,rfl,h3⟩:=AgJ (f:=f) (p:=p) (xs:=xs) fun x hx=>hf x (h2 x hx)
 exact⟨ds,by simp[List.flatMap_def],by simpa using h1,h3⟩
def QF (xs:List Int):Prop:=∀x,x∈xs→rgI x
def rgS {α:Type} (f:α→Prop) (xs:List α):Prop:=∀x,x∈xs→f x
theorem Ox {cs:List V} (h:Dat (.sl (.int .i64)) cs):∃xs:List Int,cs=[.sl 0 1 xs.length (ints xs)]∧Iz xs∧QF xs:=by
 obtain⟨ds,h1,h2,h3⟩:=AhI (f:=fun n=> [V.sc (.int .i64 n)]) (p:=rgI) (fun cs h=>WI h) h
 refine⟨ds,?_,h2,h3⟩
 have e:ds.flatMap (fun n=> [V.sc (.int .i64 n)])=ints ds:=by
  clear h1 h2 h3
  induction ds with
  | nil=>rfl
  | cons a ds ih=>rw[List.flatMap_cons,ih];rfl
 rw[h1,e]
 rfl
def Axx:Ty:= .st [.bool,.int .i64,.sl (.int .i64)]
def Aw3 (d:Uy):Prop:=rgI d.version∧QF d.tags
theorem AzF {cs:List V} (h:Dat Axx cs):∃x:Uy,cs=Ue x∧AkU x∧Aw3 x:=by
 have h0:=Yp h
 obtain⟨a0,r0,g0,h1,e0⟩:=A8 h0
 obtain⟨x0,rfl⟩:=AzO g0
 obtain⟨a1,r1,g1,h2,e1⟩:=A8 h1
 obtain⟨x1,rfl,w1⟩:=WI g1
 obtain⟨a2,r2,g2,h3,e2⟩:=A8 h2
 obtain⟨x2,rfl,l2,w2⟩:=Ox g2
 have z:=Pg h3
 subst z;subst e2;subst e1;subst e0
 exact⟨⟨x0,x1,x2⟩,rfl,l2,⟨w1,w2⟩⟩
def Avn:Ty:= .st [.int .i64,.sl (.int .i64),.sl (.int .i64),.bool]
def Arw (d:Fx):Prop:=rgI d.limit∧QF d.drops∧QF d.strips
theorem AAV {cs:List V} (h:Dat Avn cs):∃x:Fx,cs=Ck x∧GY x∧Arw x:=by
 have h0:=Yp h
 obtain⟨a0,r0,g0,h1,e0⟩:=A8 h0
 obtain⟨x0,rfl,w0⟩:=WI g0
 obtain⟨a1,r1,g1,h2,e1⟩:=A8 h1
 obtain⟨x1,rfl,l1,w1⟩:=Ox g1
 obtain⟨a2,r2,g2,h3,e2⟩:=A8 h2
 obtain⟨x2,rfl,l2,w2⟩:=Ox g2
 obtain⟨a3,r3,g3,h4,e3⟩:=A8 h3
 obtain⟨x3,rfl⟩:=AzO g3
 have z:=Pg h4
 subst z;subst e3;subst e2;subst e1;subst e0
 exact⟨⟨x0,x1,x2,x3⟩,rfl,⟨l1,l2⟩,⟨w0,w1,w2⟩⟩
theorem Azp {cs:List V} (h:Dat (.sl Avn) cs):∃xs:List Fx,cs=[.sl 0 4 xs.length (xs.flatMap Ck)]∧lnS GY xs∧rgS Arw xs:=by
 obtain⟨ds,h1,h2,h3⟩:=AhI (f:=Ck) (p:=fun x=>GY x∧Arw x) (fun cs h=>AAV h) h
 exact⟨ds,h1,⟨h2,fun j hj=>(h3 _ (List.getElem_mem hj)).1⟩,fun x hx=>(h3 x hx).2⟩
def Zq:Ty:= .st [Axx,.int .i64,.sl (.int .i64)]
def U4 (d:BA):Prop:=Aw3 d.deal∧rgI d.tries∧QF d.up
theorem Aj7 {cs:List V} (h:Dat Zq cs):∃x:BA,cs=Az x∧MV x∧U4 x:=by
 have h0:=Yp h
 obtain⟨a0,r0,g0,h1,e0⟩:=A8 h0
 obtain⟨x0,rfl,l0,w0⟩:=AzF g0
 obtain⟨a1,r1,g1,h2,e1⟩:=A8 h1
 obtain⟨x1,rfl,w1⟩:=WI g1
 obtain⟨a2,r2,g2,h3,e2⟩:=A8 h2
 obtain⟨x2,rfl,l2,w2⟩:=Ox g2
 have z:=Pg h3
 subst z;subst e2;subst e1;subst e0
 exact⟨⟨x0,x1,x2⟩,rfl,⟨l0,l2⟩,⟨w0,w1,w2⟩⟩
theorem Apw {cs:List V} (h:Dat (.sl Zq) cs):∃xs:List BA,cs=[.sl 0 5 xs.length (xs.flatMap Az)]∧lnS MV xs∧rgS U4 xs:=by
 obtain⟨ds,h1,h2,h3⟩:=AhI (f:=Az) (p:=fun x=>MV x∧U4 x) (fun cs h=>Aj7 h) h
 exact⟨ds,h1,⟨h2,fun j hj=>(h3 _ (List.getElem_mem hj)).1⟩,fun x hx=>(h3 x hx).2⟩
def Ajq:Ty:= .st [.int .i64,.sl (.int .i64),.int .i64,.bool]
def AjJ (d:Fj):Prop:=rgI d.version∧QF d.stages∧rgI d.pos
theorem Apm {cs:List V} (h:Dat Ajq cs):∃x:Fj,cs=Pd x∧VW x∧AjJ x:=by
 have h0:=Yp h
 obtain⟨a0,r0,g0,h1,e0⟩:=A8 h0
 obtain⟨x0,rfl,w0⟩:=WI g0
 obtain⟨a1,r1,g1,h2,e1⟩:=A8 h1
 obtain⟨x1,rfl,l1,w1⟩:=Ox g1
 obtain⟨a2,r2,g2,h3,e2⟩:=A8 h2
 obtain⟨x2,rfl,w2⟩:=WI g2
 obtain⟨a3,r3,g3,h4,e3⟩:=A8 h3
 obtain⟨x3,rfl⟩:=AzO g3
 have z:=Pg h4
 subst z;subst e3;subst e2;subst e1;subst e0
 exact⟨⟨x0,x1,x2,x3⟩,rfl,l1,⟨w0,w1,w2⟩⟩
def Xp:Ty:= .st [.sl (.int .i64),.sl (.int .i64),.sl Avn,.int .i64]
def SI (d:AJ):Prop:=QF d.versions∧QF d.tags∧rgS Arw d.path∧rgI d.cls
theorem Ani {cs:List V} (h:Dat Xp cs):∃x:AJ,cs=Ak x∧GD x∧SI x:=by
 have h0:=Yp h
 obtain⟨a0,r0,g0,h1,e0⟩:=A8 h0
 obtain⟨x0,rfl,l0,w0⟩:=Ox g0
 obtain⟨a1,r1,g1,h2,e1⟩:=A8 h1
 obtain⟨x1,rfl,l1,w1⟩:=Ox g1
 obtain⟨a2,r2,g2,h3,e2⟩:=A8 h2
 obtain⟨x2,rfl,l2,w2⟩:=Azp g2
 obtain⟨a3,r3,g3,h4,e3⟩:=A8 h3
 obtain⟨x3,rfl,w3⟩:=WI g3
 have z:=Pg h4
 subst z;subst e3;subst e2;subst e1;subst e0
 exact⟨⟨x0,x1,x2,x3⟩,rfl,⟨l0,l1,l2⟩,⟨w0,w1,w2,w3⟩⟩
theorem Ak6 {cs:List V} (h:Dat (.sl Xp) cs):∃xs:List AJ,cs=[.sl 0 4 xs.length (xs.flatMap Ak)]∧lnS GD xs∧rgS SI xs:=by
 obtain⟨ds,h1,h2,h3⟩:=AhI (f:=Ak) (p:=fun x=>GD x∧SI x) (fun cs h=>Ani h) h
 exact⟨ds,h1,⟨h2,fun j hj=>(h3 _ (List.getElem_mem hj)).1⟩,fun x hx=>(h3 x hx).2⟩
def AhC:Ty:= .st [.int .i64,.int .i64,.bool,Zq]
def Aat (d:BX):Prop:=rgI d.fin∧rgI d.tick∧U4 d.dialed
theorem Asn {cs:List V} (h:Dat AhC cs):∃x:BX,cs=Ar x∧Pj x∧Aat x:=by
 have h0:=Yp h
 obtain⟨a0,r0,g0,h1,e0⟩:=A8 h0
 obtain⟨x0,rfl,w0⟩:=WI g0
 obtain⟨a1,r1,g1,h2,e1⟩:=A8 h1
 obtain⟨x1,rfl,w1⟩:=WI g1
 obtain⟨a2,r2,g2,h3,e2⟩:=A8 h2
 obtain⟨x2,rfl⟩:=AzO g2
 obtain⟨a3,r3,g3,h4,e3⟩:=A8 h3
 obtain⟨x3,rfl,l3,w3⟩:=Aj7 g3
 have z:=Pg h4
 subst z;subst e3;subst e2;subst e1;subst e0
 exact⟨⟨x0,x1,x2,x3⟩,rfl,l3,⟨w0,w1,w3⟩⟩
theorem Apc {cs:List V} (h:Dat (.sl AhC) cs):∃xs:List BX,cs=[.sl 0 8 xs.length (xs.flatMap Ar)]∧lnS Pj xs∧rgS Aat xs:=by
 obtain⟨ds,h1,h2,h3⟩:=AhI (f:=Ar) (p:=fun x=>Pj x∧Aat x) (fun cs h=>Asn h) h
 exact⟨ds,h1,⟨h2,fun j hj=>(h3 _ (List.getElem_mem hj)).1⟩,fun x hx=>(h3 x hx).2⟩
def AeD:Ty:= .st [.sl (.int .i64),.sl (.int .i64),.int .i64,.sl Xp,Ajq,.int .i64,.int .i64,.sl Zq,.sl AhC,.int .i64,.int .i64,.int .i64]
def Ak0 (d:World):Prop:=QF d.server∧QF d.tags∧rgI d.key∧rgS SI d.ends∧AjJ d.rollout∧rgI d.least∧rgI d.percent∧rgS U4 d.stage∧rgS Aat d.log∧rgI d.now∧rgI d.hurt∧rgI d.reached
theorem Axs {cs:List V} (h:Dat AeD cs):∃x:World,cs=P5 x∧Zk x∧Ak0 x:=by
 have h0:=Yp h
 obtain⟨a0,r0,g0,h1,e0⟩:=A8 h0
 obtain⟨x0,rfl,l0,w0⟩:=Ox g0
 obtain⟨a1,r1,g1,h2,e1⟩:=A8 h1
 obtain⟨x1,rfl,l1,w1⟩:=Ox g1
 obtain⟨a2,r2,g2,h3,e2⟩:=A8 h2
 obtain⟨x2,rfl,w2⟩:=WI g2
 obtain⟨a3,r3,g3,h4,e3⟩:=A8 h3
 obtain⟨x3,rfl,l3,w3⟩:=Ak6 g3
 obtain⟨a4,r4,g4,h5,e4⟩:=A8 h4
 obtain⟨x4,rfl,l4,w4⟩:=Apm g4
 obtain⟨a5,r5,g5,h6,e5⟩:=A8 h5
 obtain⟨x5,rfl,w5⟩:=WI g5
 obtain⟨a6,r6,g6,h7,e6⟩:=A8 h6
 obtain⟨x6,rfl,w6⟩:=WI g6
 obtain⟨a7,r7,g7,h8,e7⟩:=A8 h7
 obtain⟨x7,rfl,l7,w7⟩:=Apw g7
 obtain⟨a8,r8,g8,h9,e8⟩:=A8 h8
 obtain⟨x8,rfl,l8,w8⟩:=Apc g8
 obtain⟨a9,r9,g9,h10,e9⟩:=A8 h9
 obtain⟨x9,rfl,w9⟩:=WI g9
 obtain⟨a10,r10,g10,h11,e10⟩:=A8 h10
 obtain⟨x10,rfl,w10⟩:=WI g10
 obtain⟨a11,r11,g11,h12,e11⟩:=A8 h11
 obtain⟨x11,rfl,w11⟩:=WI g11
 have z:=Pg h12
 subst z;subst e11;subst e10;subst e9;subst e8;subst e7;subst e6;subst e5;subst e4;subst e3;subst e2;subst e1;subst e0
 exact⟨⟨x0,x1,x2,x3,x4,x5,x6,x7,x8,x9,x10,x11⟩,rfl,⟨l0,l1,l3,l4,l7,l8⟩,⟨w0,w1,w2,w3,w4,w5,w6,w7,w8,w9,w10,w11⟩⟩
theorem ADm {v:V} (h:Ata (.int .i64) v):∃n,v=I n∧rgI n:=by
 obtain⟨c,hd,rfl⟩:=h
 obtain⟨n,e,w⟩:=WI hd
 cases e
 exact⟨n,rfl,w⟩
theorem Awl {v:V} (h:Ata AeD v):∃x:World,v=arg (P5 x)∧Zk x∧Ak0 x:=by
 obtain⟨cs,hd,rfl⟩:=h
 obtain⟨x,rfl,w⟩:=Axs hd
 exact⟨x,rfl,w⟩
end Go.Eng.T
namespace Go.Eng.T
theorem ABC {n:Nat} {l:Int} (h:l<n):szl n l= -1:=by unfold szl;rw[if_pos h]
theorem Jc {n:Nat} {l:Int} (h:¬l<n):szl n l=l-n:=by unfold szl;rw[if_neg h]
theorem AkW {α:Type} {mc sz:α→Nat} (c:Nat) (h:∀x,mc x≤c*(1+sz x)) (xs:List α):LC mc xs≤c*Bq sz xs:=by
 induction xs with
 | nil=>simp[LC]
 | cons x r ih=>
  have:=h x
  simp only[LC,Bq,List.map_cons,List.sum_cons,List.length_cons]at *
  rw[Nat.mul_add]at *
  rw[Nat.mul_add]at *
  rw[Nat.mul_add]
  omega
theorem Atd (xs:List Fx):LC IZ xs≤2*Bq Cc xs:=AkW 2 (fun x=>by unfold IZ Cc;omega) xs
theorem Ain (x:AJ):BQ x≤2*(1+Ad x):=by have:=Atd x.path;unfold BQ Ad;omega
theorem AhD (xs:List AJ):LC BQ xs≤2*Bq Ad xs:=AkW 2 Ain xs
theorem AlH (xs:List BA):LC Em xs≤3*Bq Ai xs:=AkW 3 (fun x=>by unfold Em Ai D7;omega) xs
theorem Ami (xs:List BX):LC Ez xs≤6*Bq Aw xs:=AkW 6 (fun x=>by unfold Ez Aw Ai D7;omega) xs
theorem Aq2 (x:World):TK x≤6*Br x:=by
 have:=AhD x.ends
 have:=AlH x.stage
 have:=Ami x.log
 unfold TK Br Bh;omega
theorem AmE (x:BA):FX x≤Ai x:=by unfold FX Ai D7;omega
theorem Agm {w:World} (h:Br w≤4194304):w.ends.length≤4194304:=by have:=H7 (f:=Ad) (xs:=w.ends);unfold Br at h;omega
theorem At1 (a b:Int):(a==b)=decide (a=b):=by by_cases h:a=b<;>simp[h]
end Go.Eng.T
namespace Go.Eng.T
set_option maxRecDepth 20000
abbrev InR (a b c:Int):Prop:=b≤a∧a≤c
end Go.Eng.T
namespace Go.Eng.T
set_option maxRecDepth 20000
def Gy {α:Type} (p:α→Bool):List α→Int→Int
 | [],_=> -1
 | x::r,i=>if p x then i else Gy p r (i+1)
theorem RX {α:Type} {p:α→Bool} {xs:List α} {j:Nat} (h:j<xs.length):Gy p (xs.drop j) j=if p xs[j]then(j:Int)else Gy p (xs.drop (j+1)) ((j:Int)+1):=by
 rw[List.drop_eq_getElem_cons h];rfl
theorem U8 {α:Type} {p:α→Bool} {xs:List α} {j:Nat} (h:xs.length≤j):Gy p (xs.drop j) j= -1:=by rw[List.drop_eq_nil_of_le h];rfl
theorem Te {α:Type} {p:α→Bool}:∀ {xs:List α} {i:Int},0≤i→(0≤Gy p xs i)=(xs.any p=true)
 | [],i,_=>by simp[Gy]
 | x::r,i,h=>by
  by_cases hp:p x=true
  ·simp[Gy,hp,h]
  ·have:=Te (p:=p) (xs:=r) (i:=i+1) (by omega)
   simp[Gy,hp]at *
   exact this
def LD (caps:List V):Prop:=(∀(H:Hp) (n:Nat),IC H n (caps.map fun v=>(false,v))=some [])∧(∀(H Hr:Hp) (n:Nat),G6 H Hr n (caps.map fun v=>(false,v))=some caps)∧∀H:Hp,ApX H caps=some caps
theorem FY:LD []:=⟨fun _ _=>rfl,fun _ _ _=>rfl,fun _=>rfl⟩
theorem XG {v:V} {r:List V} (hv:∀H,ro H v=some v) (hv2:∀H,ro2 H v=some v) (h:LD r):LD (v::r):=
 ⟨fun H n=>h.1 H n,fun H Hr n=>by simp only[List.map_cons,G6,hv,h.2.1],fun H=>by simp only[ApX,hv2,h.2.2]⟩
theorem Aco {a:Int} {r:List V} (h:LD r):LD (.rptr 1 [.sc (.int .i64 a)] 0::r):=XG (fun H=>by simp) (fun H=>by simp) h
abbrev Tx (D:Dn) (R:Rel):Prop:=∀(xs:List Int) (g:Nat) (caps:List V) (p:Int→Bool),xs.length≤maxLen→LD caps→(∀x:Int,D g (I x::caps) [] (B (p x)) [])→
 R [.sl 1 1 xs.length (ints xs),.fn g caps] [] (I (Gy p xs 0)) []
theorem AnL (D:Dn):Tx D (Body D Fa):=by
 intro xs g caps p hl hc hp
 unfold maxLen at hl
 simp -implicitDefEqProofs
 refine Ah (fun k s=>∃j,j+k=xs.length∧Gy p xs 0=Gy p (xs.drop j) j∧s=⟨[.sl 1 1 xs.length (ints xs),.fn g caps,.undef,.undef,.sc (.int .i64 xs.length),.sc (.int .i64 j),.undef,.undef],[]⟩) ?_ xs.length _ ⟨0,by simp,by simp,by simp⟩
 intro k s ⟨j,hj,hi,hs⟩
 subst hs
 by_cases hjn:j<xs.length
 ·have hw:IntKind.i64.wrap ((j:Int)+1)=(j+1:Nat):=by rw[Ae (by omega) (by omega)];simp
  rw[RX hjn]at hi
  simp -implicitDefEqProofs [hjn,hc.1,hc.2.1]
  refine Aa (hp xs[j]) ?_
  by_cases he:p xs[j]=true
  ·rw[if_pos he]at hi
   simp -implicitDefEqProofs [he,hi]
  ·rw[if_neg he]at hi
   simp -implicitDefEqProofs [he]
   exact⟨k-1,by omega,j+1,by omega,by simpa using hi,by simp[hw]⟩
 ·rw[U8 (by omega)]at hi
  simp -implicitDefEqProofs [hjn,hi]
abbrev JD (D:Dn) (R:Rel):Prop:=∀(xs:List Int) (g:Nat) (caps:List V) (p:Int→Bool),xs.length≤maxLen→LD caps→(∀x:Int,D g (I x::caps) [] (B (p x)) [])→
 R [.sl 1 1 xs.length (ints xs),.fn g caps] [] (B (xs.any p)) []
theorem Agr (D:Dn) (hI:Tx D (D NF)):JD D (Body D Et):=by
 intro xs g caps p hl hc hp
 simp -implicitDefEqProofs [hc.2.2]
 refine Aa (hI xs g caps p hl hc hp) ?_
 have e:decide (0≤Gy p xs 0)=xs.any p:=by rw[Bool.eq_iff_iff];simp only[decide_eq_true_eq];rw[Te (by omega)]
 simp -implicitDefEqProofs [e]
def allIn (xs:List Int) (lo hi:Int):Bool:=xs.all fun x=>decide (InR x lo hi)
abbrev Ie (R:Rel):Prop:=∀(xs:List Int) (lo hi:Int),xs.length≤maxLen→R [.sl 1 1 xs.length (ints xs),I lo,I hi] [] (B (allIn xs lo hi)) []
abbrev Ot (R:Rel):Prop:=∀(x lo hi:Int),R [I x,.rptr 1 [I lo] 0,.rptr 1 [I hi] 0] [] (B (!decide (InR x lo hi))) []
theorem Ai7 (D:Dn) (hI:WS (D CP)):Ot (Body D JN):=by
 intro x lo hi
 simp -implicitDefEqProofs
 refine Aa (hI _ _ _) ?_
 simp -implicitDefEqProofs
theorem Alq (D:Dn) (h1:Ot (D Xj)) (hC:JD D (D Gg)):Ie (Body D LY):=by
 intro xs lo hi hl
 simp -implicitDefEqProofs
 refine Aa (hC xs 266 _ (fun x=> !decide (InR x lo hi)) hl (Aco (Aco FY)) (fun x=>h1 x lo hi)) ?_
 have e:(xs.any fun x=> !decide (InR x lo hi))= !allIn xs lo hi:=by unfold allIn;rw[List.all_eq_not_any_not];simp
 generalize(xs.any fun x=> !decide (InR x lo hi))=b at e⊢
 subst e
 simp -implicitDefEqProofs
end Go.Eng.T
namespace Go.Eng.T
set_option maxRecDepth 20000
abbrev InQ (a b c:Int):Prop:=b≤a∧a≤c
def AA7 (xs:List Int) (j:Nat):Bool:=(List.range j).all fun i=>decide (InQ (xs.getD i 0) 1 100)&&(decide (i=0)||decide (xs.getD (i-1) 0<xs.getD i 0))
def AjP (r:Fj):Bool:=
 AA7 r.stages r.stages.length&&(decide (InQ r.version 1 9)&&decide (InQ r.stages.length 1 5)&&decide (r.stages.getD (r.stages.length-1) 0=100)&&decide (InQ r.pos 0 (r.stages.length-1)))
def AAa (a b:Int):Int:=if InQ a 0 1000000000000∧InQ b 1 1000000000000 then(a+b-1).tdiv b else 0
end Go.Eng.T
namespace Go.Eng.T
set_option maxRecDepth 20000
def countIn (r:Fj) (n:Int):Int:=if AjP r=true∧r.off=false∧InQ n 0 10000 then AAa (n*r.stages.getD r.pos.toNat 0) 100 else 0
def isIn (r:Fj) (i n:Int):Bool:=decide (0≤i)&&decide (i<n)&&decide (i<countIn r n)
abbrev AeC (R:Rel):Prop:=∀(w:World) (i:Int),w.ends.length≤4194304→R [arg (P5 w),I i] [] (B (decide (InQ i 0 ((w.ends.length:Int)-1)))) []
theorem Axk (D:Dn) (hI:WS (D CP)):AeC (Body D Tf):=by
 intro w i hl
 have hw:IntKind.i64.wrap ((w.ends.length:Int)-1)=(w.ends.length:Int)-1:=Ae (by omega) (by omega)
 simp -implicitDefEqProofs [hw]
 refine Aa (hI _ _ _) ?_
 simp -implicitDefEqProofs
def AzQ (w:World) (i:Int):Bool:=decide (InQ i 0 ((w.ends.length:Int)-1))&&isIn w.rollout i w.ends.length&&(match w.ends[i.toNat]? with | some e=>decide (w.rollout.version∈e.versions) | none=>false)
end Go.Eng.T
namespace Go.Eng.T
set_option maxRecDepth 20000
end Go.Eng.T
namespace Go.Eng.T
set_option maxRecDepth 20000
theorem AbJ {w:World} (h:Br w≤4194304):w.server.length≤4194304∧w.tags.length≤4194304∧Bq Ad w.ends≤4194304∧Bq Ai w.stage≤4194304∧Bq Aw w.log≤4194304:=by unfold Br at h;omega
end Go.Eng.T
namespace Go.Eng.T
set_option maxRecDepth 20000
theorem Azb {α:Type} {f:α→Nat}:∀ {xs:List α} {j:Nat} (h:j<xs.length) (y:α),((xs.set j y).map f).sum+f xs[j]=(xs.map f).sum+f y
 | [],j,h,_=>by simp at h
 | x::r,0,h,y=>by simp;omega
 | x::r,j+1,h,y=>by
  have:=Azb (f:=f) (xs:=r) (j:=j) (by simpa using h) y
  simp at *
  omega
end Go.Eng.T
namespace Go.Eng.T
set_option maxRecDepth 20000
theorem Yy {xs:List Int} {lo hi:Int} {j:Nat} (h:j<xs.length):allIn (xs.take (j+1)) lo hi=(allIn (xs.take j) lo hi&&decide (InR xs[j] lo hi)):=by
 have e:xs.take (j+1)=xs.take j++ [xs[j]]:=by simp
 unfold allIn
 rw[e,List.all_append];simp
theorem AnF {xs:List Int} {lo hi:Int} {j:Nat} (h:j<xs.length) (hn:¬InR xs[j] lo hi):allIn xs lo hi=false:=by
 unfold allIn
 rw[List.all_eq_false]
 exact⟨xs[j],List.getElem_mem h,by simp[hn]⟩
theorem Aki {xs:List Int} {lo hi:Int} {j:Nat} (h:xs.length≤j) (ha:allIn (xs.take j) lo hi=true):allIn xs lo hi=true:=by rwa [List.take_of_length_le h]at ha
abbrev VE (R:Rel):Prop:=∀xs:List Int,xs.length≤maxLen→R [.sl 1 1 xs.length (ints xs)] [] (B (allIn xs 0 255)) []
theorem AvL (D:Dn) (hI:WS (D EA)):VE (Body D Ta):=by
 intro xs hl
 unfold maxLen at hl
 simp -implicitDefEqProofs
 refine Ah (fun k s=>∃j,j+k=xs.length∧allIn (xs.take j) 0 255=true∧s=⟨[.sl 1 1 xs.length (ints xs),.undef,.sc (.int .i64 j),.undef,.undef],[]⟩) ?_ xs.length _ ⟨0,by simp,by simp[allIn],by simp⟩
 intro k s ⟨j,hj,hp,hs⟩
 subst hs
 by_cases hjn:j<xs.length
 ·have hw:IntKind.i64.wrap ((j:Int)+1)=(j+1:Nat):=by rw[Ae (by omega) (by omega)];simp
  simp -implicitDefEqProofs [hjn]
  refine Aa (hI _ _ _) ?_
  by_cases h1:InR xs[j] 0 255
  ·simp -implicitDefEqProofs [h1]
   exact⟨k-1,by omega,j+1,by omega,by rw[Yy hjn,hp];simp[h1],by simp[hw]⟩
  ·simp -implicitDefEqProofs [h1,AnF hjn h1]
 ·simp -implicitDefEqProofs [hjn,Aki (by omega) hp]
def GR (b:Fx):Bool:=decide (InR b.limit 0 9)&&decide (b.drops.length≤6)&&decide (b.strips.length≤6)&&allIn b.drops 0 255&&allIn b.strips 0 255
abbrev QV (R:Rel):Prop:=∀b:Fx,GY b→R [arg (Ck b)] [] (B (GR b)) []
theorem AwB (D:Dn) (hI:WS (D EA)) (hB:VE (D TG)):QV (Body D Vs):=by
 intro b hl
 simp -implicitDefEqProofs
 refine Aa (hI _ _ _) ?_
 by_cases h1:InR b.limit 0 9
 rotate_left
 ·simp -implicitDefEqProofs [h1,GR]
 by_cases h2:b.drops.length≤6
 rotate_left
 ·have h2':¬(b.drops.length:Int)≤6:=by omega
  simp -implicitDefEqProofs [h1,h2',h2,GR]
 have h2':(b.drops.length:Int)≤6:=by omega
 by_cases h3:b.strips.length≤6
 rotate_left
 ·have h3':¬(b.strips.length:Int)≤6:=by omega
  simp -implicitDefEqProofs [h1,h2',h3',h3,GR]
 have h3':(b.strips.length:Int)≤6:=by omega
 simp -implicitDefEqProofs [h1,h2',h3']
 refine Aa (hB _ hl.1) ?_
 by_cases h4:allIn b.drops 0 255=true
 rotate_left
 ·simp -implicitDefEqProofs [h4,GR]
 simp -implicitDefEqProofs [h4]
 refine Aa (hB _ hl.2) ?_
 simp -implicitDefEqProofs [GR,h1,h2,h3,h4]
theorem Awa (D:Dn) (hI:WS (D CP)) (hB:Ie (D IE)):QV (Body D UB):=by
 intro b hl
 simp -implicitDefEqProofs
 refine Aa (hI _ _ _) ?_
 by_cases h1:InR b.limit 0 9
 rotate_left
 ·simp -implicitDefEqProofs [h1,GR]
 by_cases h2:b.drops.length≤6
 rotate_left
 ·have h2':¬(b.drops.length:Int)≤6:=by omega
  simp -implicitDefEqProofs [h1,h2',h2,GR]
 have h2':(b.drops.length:Int)≤6:=by omega
 by_cases h3:b.strips.length≤6
 rotate_left
 ·have h3':¬(b.strips.length:Int)≤6:=by omega
  simp -implicitDefEqProofs [h1,h2',h3',h3,GR]
 have h3':(b.strips.length:Int)≤6:=by omega
 simp -implicitDefEqProofs [h1,h2',h3']
 refine Aa (hB _ _ _ hl.1) ?_
 by_cases h4:allIn b.drops 0 255=true
 rotate_left
 ·simp -implicitDefEqProofs [h4,GR]
 simp -implicitDefEqProofs [h4]
 refine Aa (hB _ _ _ hl.2) ?_
 simp -implicitDefEqProofs [GR,h1,h2,h3,h4]
end Go.Eng.T
namespace Go.Eng.T
set_option maxRecDepth 20000
abbrev MP (D:Dn) (R:Rel):Prop:=∀(xs:List Fx) (g:Nat) (caps:List V) (p:Fx→Bool),xs.length≤maxLen→LD caps→(∀(j:Nat) (h:j<xs.length),D g (arg (Ck xs[j])::caps) [] (B (p xs[j])) [])→R [.sl 1 4 xs.length (xs.flatMap Ck),.fn g caps] [] (I (Gy p xs 0)) []
theorem Afz (D:Dn):MP D (Body D Dc):=by
 intro xs g caps p hl hc hp
 unfold maxLen at hl
 simp -implicitDefEqProofs
 refine Ah (fun k s=>∃j,j+k=xs.length∧Gy p xs 0=Gy p (xs.drop j) j∧s=⟨[.sl 1 4 xs.length (xs.flatMap Ck),.fn g caps,.undef,.undef,.sc (.int .i64 xs.length),.sc (.int .i64 j),.undef,.undef],[]⟩) ?_ xs.length _ ⟨0,by simp,by simp,by simp⟩
 intro k s ⟨j,hj,hi,hs⟩
 subst hs
 by_cases hjn:j<xs.length
 ·have hw:IntKind.i64.wrap ((j:Int)+1)=(j+1:Nat):=by rw[Ae (by omega) (by omega)];simp
  rw[RX hjn]at hi
  simp -implicitDefEqProofs [hjn,hc.1,hc.2.1]
  refine Aa (hp j hjn) ?_
  by_cases he:p xs[j]=true
  ·rw[if_pos he]at hi
   simp -implicitDefEqProofs [he,hi]
  ·rw[if_neg he]at hi
   simp -implicitDefEqProofs [he]
   exact⟨k-1,by omega,j+1,by omega,by simpa using hi,by simp[hw]⟩
 ·rw[U8 (by omega)]at hi
  simp -implicitDefEqProofs [hjn,hi]
abbrev IX (D:Dn) (R:Rel):Prop:=∀(xs:List Fx) (g:Nat) (caps:List V) (p:Fx→Bool),xs.length≤maxLen→LD caps→(∀(j:Nat) (h:j<xs.length),D g (arg (Ck xs[j])::caps) [] (B (p xs[j])) [])→R [.sl 1 4 xs.length (xs.flatMap Ck),.fn g caps] [] (B (xs.any p)) []
theorem Aaw (D:Dn) (hI:MP D (D Iu)):IX D (Body D CB):=by
 intro xs g caps p hl hc hp
 simp -implicitDefEqProofs [hc.2.2]
 refine Aa (hI xs g caps p hl hc hp) ?_
 have e:decide (0≤Gy p xs 0)=xs.any p:=by rw[Bool.eq_iff_iff];simp only[decide_eq_true_eq];rw[Te (by omega)]
 simp -implicitDefEqProofs [e]
end Go.Eng.T
namespace Go.Eng.T
set_option maxRecDepth 20000
end Go.Eng.T
namespace Go.Eng.T
set_option maxRecDepth 20000
def Av (t:Int):Bool:=decide (InR t 0 255)&&decide (t.tmod 16=10)
abbrev EW (R:Rel):Prop:=∀t:Int,R [I t] [] (B (Av t)) []
theorem Ajl (D:Dn) (hI:WS (D EA)):EW (Body D LH):=by
 intro t
 simp -implicitDefEqProofs
 refine Aa (hI _ _ _) ?_
 by_cases h:InR t 0 255
 ·simp -implicitDefEqProofs [h,Av,At1]
 ·simp -implicitDefEqProofs [h,Av]
theorem Ah5 (D:Dn) (hI:WS (D CP)):EW (Body D MF):=by
 intro t
 simp -implicitDefEqProofs
 refine Aa (hI _ _ _) ?_
 by_cases h:InR t 0 255
 ·simp -implicitDefEqProofs [h,Av,At1]
 ·simp -implicitDefEqProofs [h,Av]
abbrev M6 (R:Rel):Prop:=∀xs:List Int,xs.length≤maxLen→R [.sl 1 1 xs.length (ints xs)] [] (B (xs.any Av)) []
theorem UL {α:Type} {p:α→Bool} {xs:List α} {j:Nat} (h:j<xs.length) (hp:p xs[j]=true):xs.any p=true:=List.any_eq_true.2 ⟨_,List.getElem_mem h,hp⟩
theorem Ag6 {α:Type} {p:α→Bool} {xs:List α} {j:Nat} (h:j<xs.length):(xs.take (j+1)).any p=((xs.take j).any p||p xs[j]):=by
 have e:xs.take (j+1)=xs.take j++ [xs[j]]:=by simp
 rw[e,List.any_append];simp
theorem any_none {α:Type} {p:α→Bool} {xs:List α} {j:Nat} (h:xs.length≤j) (ha:(xs.take j).any p=false):xs.any p=false:=by rwa [List.take_of_length_le h]at ha
theorem AiO (D:Dn) (hR:EW (D R8)) (hC:JD D (D Gg)):M6 (Body D LP):=by
 intro xs hl
 simp -implicitDefEqProofs
 refine Aa (hC xs 279 _ Av hl FY (fun x=>hR x)) ?_
 generalize xs.any Av=b
 simp -implicitDefEqProofs
end Go.Eng.T
namespace Go.Eng.T
set_option maxRecDepth 20000
abbrev InV (a b c:Int):Prop:=b≤a∧a≤c
def JR (xs:List Int) (j:Nat):Bool:=(List.range j).all fun i=>decide (InV (xs.getD i 0) 1 9)&&(decide (i=0)||decide (xs.getD (i-1) 0<xs.getD i 0))
theorem Qy (xs:List Int) (j:Nat):JR xs (j+1)=(JR xs j&&(decide (InV (xs.getD j 0) 1 9)&&(decide (j=0)||decide (xs.getD (j-1) 0<xs.getD j 0)))):=by
 unfold JR
 rw[List.range_succ,List.all_append]
 simp
theorem VN {xs:List Int} {j:Nat} (h:j<xs.length) (hn:JR xs (j+1)=false):JR xs xs.length=false:=by
 have:∀n,JR xs (j+1+n)=false:=by
  intro n
  induction n with
  | zero=>exact hn
  | succ n ih=>rw[show j+1+(n+1)=(j+1+n)+1 by omega,Qy,ih];rfl
 have:=this (xs.length-(j+1))
 rwa [show j+1+(xs.length-(j+1))=xs.length by omega]at this
theorem Vj {xs:List Int} {j:Nat} (h:j<xs.length):xs.getD j 0=xs[j]:=by simp[h]
def Bc (xs:List Int):Bool:=JR xs xs.length&&decide (0<xs.length)
abbrev Cg (R:Rel):Prop:=∀xs:List Int,xs.length≤maxLen→R [.sl 1 1 xs.length (ints xs)] [] (B (Bc xs)) []
theorem Agg (D:Dn) (hI:WS (D EA)):Cg (Body D KP):=by
 intro xs hl
 unfold maxLen at hl
 simp -implicitDefEqProofs
 refine Ah (fun k s=>∃j,j+k=xs.length∧JR xs j=true∧s=⟨[.sl 1 1 xs.length (ints xs),.undef,.sc (.int .i64 j),.undef,.undef],[]⟩) ?_ xs.length _ ⟨0,by simp,by simp[JR],by simp⟩
 intro k s ⟨j,hj,hr,hs⟩
 subst hs
 by_cases hjn:j<xs.length
 ·have hw:IntKind.i64.wrap ((j:Int)+1)=(j+1:Nat):=by rw[Ae (by omega) (by omega)];simp
  have hst:=Qy xs j
  rw[hr,Bool.true_and,Vj hjn]at hst
  simp -implicitDefEqProofs [hjn]
  refine Aa (hI _ _ _) ?_
  by_cases h1:InV xs[j] 1 9
  rotate_left
  ·have e:Bc xs=false:=by unfold Bc;rw[VN hjn (by rw[hst];simp[h1])];rfl
   simp -implicitDefEqProofs [h1,e]
  by_cases h0:j=0
  ·subst h0
   simp -implicitDefEqProofs [h1]
   exact⟨k-1,by omega,1,by omega,by rw[hst];simp[h1],by simpa using hw⟩
  ·have hw2:IntKind.i64.wrap ((j:Int)-1)=((j-1:Nat):Int):=by rw[Ae (by omega) (by omega)];omega
   have h2:(0:Int)<j:=by omega
   have h2':0<j:=by omega
   have h3:j-1<xs.length:=by omega
   rw[Vj h3]at hst
   by_cases h4:xs[j-1]<xs[j]
   ·have h4':¬xs[j]≤xs[j-1]:=by omega
    simp -implicitDefEqProofs [h1,h2,h2',hw2,h3,hjn,h4']
    exact⟨k-1,by omega,j+1,by omega,by rw[hst];simp[h1,h0,h4],by simp[hw]⟩
   ·have e:Bc xs=false:=by unfold Bc;rw[VN hjn (by rw[hst];simp[h1,h0,h4])];rfl
    have h4':xs[j]≤xs[j-1]:=by omega
    simp -implicitDefEqProofs [h1,h2,h2',hw2,h3,hjn,h4',e]
 ·obtain rfl:j=xs.length:=by omega
  have e:Bc xs=decide (0<xs.length):=by unfold Bc;rw[hr];rfl
  by_cases h5:0<xs.length
  ·have h5':(0:Int)<xs.length:=by omega
   simp -implicitDefEqProofs [e,h5,h5']
  ·have h5':¬(0:Int)<xs.length:=by omega
   simp -implicitDefEqProofs [e,h5,h5']
theorem Agx (D:Dn) (hI:WS (D CP)):Cg (Body D KD):=by
 intro xs hl
 unfold maxLen at hl
 simp -implicitDefEqProofs
 refine Ah (fun k s=>∃j v2 v3,j+k=xs.length∧JR xs j=true∧s=⟨[.sl 1 1 xs.length (ints xs),.undef,v2,v3,.sl 1 1 xs.length (ints xs),.sc (.int .i64 xs.length),.sc (.int .i64 j),.undef,.undef],[]⟩) ?_ xs.length _ ⟨0,.undef,.undef,by simp,by simp[JR],by simp⟩
 intro k s ⟨j,v2,v3,hj,hr,hs⟩
 subst hs
 by_cases hjn:j<xs.length
 ·have hw:IntKind.i64.wrap ((j:Int)+1)=(j+1:Nat):=by rw[Ae (by omega) (by omega)];simp
  have hst:=Qy xs j
  rw[hr,Bool.true_and,Vj hjn]at hst
  simp -implicitDefEqProofs [hjn]
  refine Aa (hI _ _ _) ?_
  by_cases h1:InV xs[j] 1 9
  rotate_left
  ·have e:Bc xs=false:=by unfold Bc;rw[VN hjn (by rw[hst];simp[h1])];rfl
   simp -implicitDefEqProofs [h1,e]
  by_cases h0:j=0
  ·subst h0
   simp -implicitDefEqProofs [h1]
   exact⟨k-1,by omega,1,by omega,by rw[hst];simp[h1],by simpa using hw⟩
  ·have hw2:IntKind.i64.wrap ((j:Int)-1)=((j-1:Nat):Int):=by rw[Ae (by omega) (by omega)];omega
   have h2:(0:Int)<j:=by omega
   have h2':0<j:=by omega
   have h3:j-1<xs.length:=by omega
   rw[Vj h3]at hst
   by_cases h4:xs[j-1]<xs[j]
   ·have h4':¬xs[j]≤xs[j-1]:=by omega
    simp -implicitDefEqProofs [h1,h2,h2',hw2,h3,hjn,h4']
    exact⟨k-1,by omega,j+1,by omega,by rw[hst];simp[h1,h0,h4],by simp[hw]⟩
   ·have e:Bc xs=false:=by unfold Bc;rw[VN hjn (by rw[hst];simp[h1,h0,h4])];rfl
    have h4':xs[j]≤xs[j-1]:=by omega
    simp -implicitDefEqProofs [h1,h2,h2',hw2,h3,hjn,h4',e]
 ·obtain rfl:j=xs.length:=by omega
  have e:Bc xs=decide (0<xs.length):=by unfold Bc;rw[hr];rfl
  by_cases h5:0<xs.length
  ·have h5':(0:Int)<xs.length:=by omega
   simp -implicitDefEqProofs [e,h5,h5']
  ·have h5':¬(0:Int)<xs.length:=by omega
   simp -implicitDefEqProofs [e,h5,h5']
theorem Ka {p:Int→Bool} {xs:List Int} {j:Nat} (h:j<xs.length):(xs.take (j+1)).filter p=(xs.take j).filter p++(if p xs[j]then [xs[j]]else []):=by
 have e:xs.take (j+1)=xs.take j++ [xs[j]]:=by simp
 rw[e,List.filter_append]
 by_cases hp:p xs[j]=true<;>simp[hp]
theorem Ky {p:Int→Bool} {xs:List Int} {j:Nat} (h:xs.length≤j):(xs.take j).filter p=xs.filter p:=by rw[List.take_of_length_le h]
theorem Ng {p:Int→Bool} {xs:List Int} {j:Nat}:((xs.take j).filter p).length≤j:=by
 have:=List.length_filter_le p (xs.take j)
 have h2:(xs.take j).length≤j:=by simp;omega
 omega
def common (a b:List Int):List Int:=a.filter fun v=>decide (v∈b)
def Axn (a:List Int) (v:Int):List Int:=a.filter fun x=> !decide (x=v)
abbrev J9 (R:Rel):Prop:=∀a b:List Int,a.length≤4194304→b.length≤maxLen→R [.sl 1 1 a.length (ints a),.sl 1 1 b.length (ints b)] [] (.sl 0 1 (common a b).length (ints (common a b))) []
theorem Anc (D:Dn) (hH:Tk (D Kg)):J9 (Body D PU):=by
 intro a b ha hb'
 have hres:common a b=a.filter (fun v=>decide (v∈b)):=rfl
 rw[hres]
 simp -implicitDefEqProofs
 refine Ah (fun k s=>∃j o1 o2,j+k=a.length∧s=⟨[.sl 1 1 a.length (ints a),.sl 1 1 b.length (ints b),.undef,.arr 3,.sc (.int .i64 j),.undef,.undef],[.free,o1,o2,.arr 1 0 ((a.take j).filter (fun v=>decide (v∈b))).length (ints ((a.take j).filter (fun v=>decide (v∈b))))]⟩) ?_ a.length _ ⟨0,by simp⟩
 intro k s ⟨j,o1,o2,hj,hs⟩
 subst hs
 by_cases hjn:j<a.length
 ·have hw:IntKind.i64.wrap ((j:Int)+1)=(j+1:Nat):=by rw[Ae (by omega) (by omega)];simp
  have hst:=Ka (p:=fun v=>decide (v∈b)) hjn
  have hln:=Ng (p:=fun v=>decide (v∈b)) (xs:=a) (j:=j)
  have hb:(((a.take j).filter (fun v=>decide (v∈b))).length+1)*8≤1099511627776:=by omega
  simp -implicitDefEqProofs [hjn]
  refine Aa (hH b _ hb') ?_
  by_cases h1:a[j]∈b
  ·rw[if_pos (by simp[h1])]at hst
   simp -implicitDefEqProofs [h1,hjn,hb]
   exact⟨k-1,by omega,j+1,by omega,by simp[hw],by rw[hst];simp,by rw[hst]⟩
  ·rw[if_neg (by simp[h1]),List.append_nil]at hst
   simp -implicitDefEqProofs [h1,hjn,hb]
   exact⟨k-1,by omega,j+1,by omega,by simp[hw],by rw[hst],by rw[hst]⟩
 ·have hx:=Ky (p:=fun v=>decide (v∈b)) (xs:=a) (j:=j) (by omega)
  simp -implicitDefEqProofs [hjn,hx]
theorem AnX (D:Dn) (hH:Tk (D BB)):J9 (Body D P8):=by
 intro a b ha hb'
 have hres:common a b=a.filter (fun v=>decide (v∈b)):=rfl
 rw[hres]
 simp -implicitDefEqProofs
 refine Ah (fun k s=>∃j v4 o1 o2,j+k=a.length∧s=⟨[.undef,.sl 1 1 b.length (ints b),.undef,.arr 3,v4,.sl 1 1 a.length (ints a),.sc (.int .i64 a.length),.sc (.int .i64 j),.undef,.undef],[.free,o1,o2,.arr 1 0 ((a.take j).filter (fun v=>decide (v∈b))).length (ints ((a.take j).filter (fun v=>decide (v∈b))))]⟩) ?_ a.length _ ⟨0,by simp⟩
 intro k s ⟨j,v4,o1,o2,hj,hs⟩
 subst hs
 by_cases hjn:j<a.length
 ·have hw:IntKind.i64.wrap ((j:Int)+1)=(j+1:Nat):=by rw[Ae (by omega) (by omega)];simp
  have hst:=Ka (p:=fun v=>decide (v∈b)) hjn
  have hln:=Ng (p:=fun v=>decide (v∈b)) (xs:=a) (j:=j)
  have hb:(((a.take j).filter (fun v=>decide (v∈b))).length+1)*8≤1099511627776:=by omega
  simp -implicitDefEqProofs [hjn]
  refine Aa (hH b _ hb') ?_
  by_cases h1:a[j]∈b
  ·rw[if_pos (by simp[h1])]at hst
   simp -implicitDefEqProofs [h1,hjn,hb]
   exact⟨k-1,by omega,j+1,by omega,by simp[hw],by rw[hst];simp,by rw[hst]⟩
  ·rw[if_neg (by simp[h1]),List.append_nil]at hst
   simp -implicitDefEqProofs [h1,hjn,hb]
   exact⟨k-1,by omega,j+1,by omega,by simp[hw],by rw[hst],by rw[hst]⟩
 ·have hx:=Ky (p:=fun v=>decide (v∈b)) (xs:=a) (j:=j) (by omega)
  simp -implicitDefEqProofs [hjn,hx]
end Go.Eng.T
namespace Go.Eng.T
set_option maxRecDepth 20000
set_option maxHeartbeats 1000000
def Wi (l:List Int):Int:=l.foldl (fun a v=>if v>a then v else a) 0
theorem Arc {x:Int}:∀(l:List Int) (a:Int),(∀y,y∈l→y<x)→a<x→l.foldl (fun a v=>if v>a then v else a) a<x
 | [],a,_,h=>h
 | y::l,a,hl,h=>by
  simp only[List.foldl_cons]
  refine Arc l _ (fun z hz=>hl z (by simp[hz])) ?_
  split
  ·exact hl y (by simp)
  ·exact h
theorem Aha {xs:List Int}:∀(n:Nat),JR xs n=true→∀i j,i<j→j<n→xs.getD i 0<xs.getD j 0
 | 0,_,i,j,_,h=>by omega
 | n+1,hr,i,j,hij,hj=>by
  rw[Qy]at hr
  simp only[Bool.and_eq_true,Bool.or_eq_true,decide_eq_true_eq]at hr
  obtain⟨h1,_,h3⟩:=hr
  by_cases hjn:j<n
  ·exact Aha n h1 i j hij hjn
  ·obtain rfl:j=n:=by omega
   have h4:xs.getD (j-1) 0<xs.getD j 0:=by
    rcases h3 with h3 | h3
    ·omega
    ·exact h3
   by_cases he:i=j-1
   ·rw[he];exact h4
   ·have:=Aha j h1 i (j-1) (by omega) (by omega)
    omega
theorem AvE {xs:List Int} {n i:Nat} (h:JR xs n=true) (hi:i<n):InV (xs.getD i 0) 1 9:=by
 unfold JR at h
 have:=List.all_eq_true.1 h i (List.mem_range.2 hi)
 simp at this
 exact⟨this.1.1,this.1.2⟩
theorem Ajp {xs:List Int} (h:Bc xs=true):xs.Pairwise (· < ·):=by
 unfold Bc at h
 simp only[Bool.and_eq_true,decide_eq_true_eq]at h
 rw[List.pairwise_iff_getElem]
 intro i j hi hj hij
 have:=Aha _ h.1 i j hij hj
 rwa [Vj hi,Vj hj]at this
theorem ArS {xs:List Int} (h:Bc xs=true):∀x,x∈xs→InV x 1 9:=by
 unfold Bc at h
 simp only[Bool.and_eq_true,decide_eq_true_eq]at h
 intro x hx
 obtain⟨i,hi,rfl⟩:=List.getElem_of_mem hx
 have:=AvE h.1 hi
 rwa [Vj hi]at this
theorem AsH {l:List Int} (hp:l.Pairwise (· < ·)) (h0:∀x,x∈l→0<x) (hn:0<l.length):Wi l=l[l.length-1]:=by
 obtain⟨l',x,rfl⟩:∃l' x,l=l'++ [x]:=by
  rcases List.eq_nil_or_concat l with h | ⟨l',x,h⟩
  ·rw[h]at hn;simp at hn
  ·exact⟨l',x,by simpa using h⟩
 rw[List.pairwise_append]at hp
 have h1:Wi l' <x:=Arc l' 0 (fun y hy=>hp.2.2 y hy x (by simp)) (h0 x (by simp))
 have h2:Wi (l'++ [x])=if x>Wi l' then x else Wi l':=by unfold Wi;rw[List.foldl_append];rfl
 rw[h2,if_pos h1]
 simp
def CX (a b:List Int):Int:=if Bc a=true∧Bc b=true then Wi (common a b)else 0
abbrev GA (R:Rel):Prop:=∀a b:List Int,a.length≤4194304→b.length≤4194304→R [.sl 1 1 a.length (ints a),.sl 1 1 b.length (ints b)] [] (I (CX a b)) []
theorem ml {n:Nat} (h:n≤4194304):n≤maxLen:=by unfold maxLen;omega
theorem Ai9 (D:Dn) (hC:J9 (D Afu)) (hA:Cg (D F3)):GA (Body D MG):=by
 intro a b ha hb
 have hcl:(common a b).length≤4194304:=Nat.le_trans (List.length_filter_le _ _) ha
 simp -implicitDefEqProofs
 refine Aa (hC a b ha (ml hb)) ?_
 simp -implicitDefEqProofs
 refine Aa (hA a (ml ha)) ?_
 by_cases h1:Bc a=true
 rotate_left
 ·simp -implicitDefEqProofs [h1,CX]
 simp -implicitDefEqProofs [h1]
 refine Aa (hA b (ml hb)) ?_
 by_cases h2:Bc b=true
 rotate_left
 ·simp -implicitDefEqProofs [h2,CX]
 have e:CX a b=Wi (common a b):=by unfold CX;rw[if_pos ⟨h1,h2⟩]
 rw[e]
 by_cases h3:common a b=[]
 ·simp -implicitDefEqProofs [h2,h3,Wi]
 have h4:0<(common a b).length:=List.length_pos_iff.2 h3
 have h5:=AsH (l:=common a b) ((Ajp h1).filter _) (fun x hx=>by have:=ArS h1 x (List.mem_filter.1 hx).1;omega) h4
 rw[h5]
 generalize common a b=l at h3 h4 hcl
 have hw:IntKind.i64.wrap ((l.length:Int)-1)=((l.length-1:Nat):Int):=by rw[Ae (by omega) (by omega)];omega
 have h6:l.length-1<l.length:=by omega
 simp -implicitDefEqProofs [h2,h3,hw,h6,h4]
theorem Aip (D:Dn) (hC:J9 (D Aff)) (hA:Cg (D FZ)):GA (Body D LQ):=by
 intro a b ha hb
 have hcl:(common a b).length≤4194304:=Nat.le_trans (List.length_filter_le _ _) ha
 simp -implicitDefEqProofs
 refine Aa (hA a (ml ha)) ?_
 by_cases h1:Bc a=true
 rotate_left
 ·simp -implicitDefEqProofs [h1,CX]
 simp -implicitDefEqProofs [h1]
 refine Aa (hA b (ml hb)) ?_
 by_cases h2:Bc b=true
 rotate_left
 ·simp -implicitDefEqProofs [h2,CX]
 have e:CX a b=Wi (common a b):=by unfold CX;rw[if_pos ⟨h1,h2⟩]
 rw[e]
 simp -implicitDefEqProofs [h2]
 refine Aa (hC a b ha (ml hb)) ?_
 generalize common a b=l at hcl
 simp -implicitDefEqProofs
 refine Ah (fun k s=>∃j,j+k=l.length∧s=⟨[.undef,.undef,.undef,.sc (.int .i64 (Wi (l.take j))),.undef,.undef,.arr 0,.sc (.int .i64 l.length),.sc (.int .i64 j),.undef],[.arr 1 0 l.length (ints l)]⟩) ?_ l.length _ ⟨0,by simp,by simp[Wi]⟩
 intro k s ⟨j,hj,hs⟩
 subst hs
 by_cases hjn:j<l.length
 ·have hw:IntKind.i64.wrap ((j:Int)+1)=(j+1:Nat):=by rw[Ae (by omega) (by omega)];simp
  have hst:Wi (l.take (j+1))=if l[j]>Wi (l.take j)then l[j]else Wi (l.take j):=by
   have e:l.take (j+1)=l.take j++ [l[j]]:=by simp
   unfold Wi
   rw[e,List.foldl_append];rfl
  simp -implicitDefEqProofs [hjn]
  exact⟨k-1,by omega,j+1,by omega,by rw[hst],by simp[hw]⟩
 ·have hx:l.take j=l:=List.take_of_length_le (by omega)
  simp -implicitDefEqProofs [hjn,hx]
end Go.Eng.T
namespace Go.Eng.T
structure Ext where
 tag:Int
 body:List Int
 deriving DecidableEq
structure Hello where
 versions:List Int
 exts:List Ext
 deriving DecidableEq
structure P9 where
 version:Int
 exts:List Ext
 deriving DecidableEq
def Bl (x:Ext):List V:=[.sc (.int .i64 x.tag),.sl 0 1 x.body.length (ints x.body)]
def Cv (h:Hello):List V:=[.sl 0 1 h.versions.length (ints h.versions),.sl 0 2 h.exts.length (h.exts.flatMap Bl)]
def Vy (a:P9):List V:=[.sc (.int .i64 a.version),.sl 0 2 a.exts.length (a.exts.flatMap Bl)]
theorem Vn (x:Ext):(Bl x).length=2:=rfl
@[simp] theorem ACV (xs:List Ext):(xs.flatMap Bl).map (Be 0)=xs.flatMap Bl:=VJ (fun _=>rfl) xs
@[simp high] theorem ADa {xs:List Ext} {j:Nat} (h:j<xs.length):Fw (xs.flatMap Bl) (j*2) 2=some (Bl xs[j]):=Mf Vn h
@[simp high] theorem OL (xs:List Ext):(xs.flatMap Bl).length=xs.length*2:=Lu Vn xs
@[simp high] theorem AC7 {xs:List Ext} {j:Nat} (h:j<xs.length):(xs.flatMap Bl)[j*2]? =some (.sc (.int .i64 xs[j].tag)):=by
 have:=AA (o:=0) Vn h (by omega)
 simpa[Bl]using this
@[simp high] theorem ACU {xs:List Ext} {j:Nat} (h:j<xs.length):(xs.flatMap Bl)[j*2+1]? =some (.sl 0 1 xs[j].body.length (ints xs[j].body)):=by
 have:=AA (o:=1) Vn h (by omega)
 simpa[Bl]using this
theorem As8 {α:Type} {f:α→List V} {e:Nat} (hf:∀x,(f x).length=e) (xs:List α) (i:Nat):(xs.flatMap f).take (i*e)=(xs.take i).flatMap f:=by
 induction xs generalizing i with
 | nil=>simp
 | cons x xs ih=>
  cases i with
  | zero=>simp
  | succ i=>
   simp only[List.flatMap_cons,List.take_succ_cons]
   rw[←ih i,show(i+1)*e=(f x).length+i*e by rw[hf,Nat.add_mul];omega,List.take_length_add_append]
theorem AtN {α:Type} {f:α→List V} {e:Nat} (hf:∀x,(f x).length=e) (xs:List α) (o n:Nat):part (xs.flatMap f) e o n=((xs.drop o).take n).flatMap f:=by
 unfold part
 rw[VG hf,As8 hf]
@[simp high] theorem AB6 (xs:List Ext) (o n:Nat):part (xs.flatMap Bl) 2 o n=((xs.drop o).take n).flatMap Bl:=AtN Vn xs o n
attribute [simp] Bl Cv Vy
def Rf (l:List Ext):Prop:=l.length≤4194304∧∀x,x∈l→x.body.length≤4194304
theorem K5 {l:List Ext} (h:Rf l) {j:Nat} (hj:j<l.length):l[j].body.length≤4194304:=h.2 _ (List.getElem_mem hj)
theorem Zi:Rf []:=⟨by simp,by simp⟩
theorem Apu {l:List Ext} (h:Rf l) (p:Ext→Bool):Rf (l.filter p):=
 ⟨Nat.le_trans (List.length_filter_le p l) h.1,fun x hx=>h.2 x (List.mem_filter.1 hx).1⟩
def Qp (q:Nat→Bool) (j:Nat):Bool:=(List.range j).all q
@[simp] theorem ABe (q:Nat→Bool):Qp q 0=true:=rfl
theorem MB (q:Nat→Bool) (j:Nat):Qp q (j+1)=(Qp q j&&q j):=by
 unfold Qp
 rw[List.range_succ,List.all_append]
 simp
theorem AoK {q:Nat→Bool} {j n:Nat} (h:j<n) (hn:q j=false):Qp q n=false:=by
 have:∀m,Qp q (j+1+m)=false:=by
  intro m
  induction m with
  | zero=>rw[Nat.add_zero,MB,hn];simp
  | succ m ih=>rw[show j+1+(m+1)=(j+1+m)+1 by omega,MB,ih];rfl
 have:=this (n-(j+1))
 rwa [show j+1+(n-(j+1))=n by omega]at this
theorem AtE {q:Nat→Bool} {n:Nat}:Qp q n=true↔∀i,i<n→q i=true:=by
 unfold Qp
 rw[List.all_eq_true]
 simp
theorem Afy {α:Type} {p:α→Bool} {xs:List α} {j:Nat} (h:j<xs.length):(xs.take (j+1)).filter p=(xs.take j).filter p++(if p xs[j]then [xs[j]]else []):=by
 have e:xs.take (j+1)=xs.take j++ [xs[j]]:=by simp
 rw[e,List.filter_append]
 by_cases hp:p xs[j]=true<;>simp[hp]
theorem AbE {α:Type} {p:α→Bool} {xs:List α} {j:Nat} (h:xs.length≤j):(xs.take j).filter p=xs.filter p:=by rw[List.take_of_length_le h]
theorem AjW {α:Type} {p:α→Bool} {xs:List α} {j:Nat}:((xs.take j).filter p).length≤j:=by
 have:=List.length_filter_le p (xs.take j)
 have h2:(xs.take j).length≤j:=by simp;omega
 omega
end Go.Eng.T
namespace Go.Eng.T
end Go.Eng.T
namespace Go.Eng.T
set_option maxRecDepth 20000
abbrev Jr (D:Dn) (R:Rel):Prop:=∀(xs:List Ext) (g:Nat) (caps:List V) (p:Ext→Bool),xs.length≤maxLen→LD caps→(∀(j:Nat) (h:j<xs.length),D g (arg (Bl xs[j])::caps) [] (B (p xs[j])) [])→R [.sl 1 2 xs.length (xs.flatMap Bl),.fn g caps] [] (I (Gy p xs 0)) []
theorem Agp (D:Dn):Jr D (Body D Df):=by
 intro xs g caps p hl hc hp
 unfold maxLen at hl
 simp -implicitDefEqProofs
 refine Ah (fun k s=>∃j,j+k=xs.length∧Gy p xs 0=Gy p (xs.drop j) j∧s=⟨[.sl 1 2 xs.length (xs.flatMap Bl),.fn g caps,.undef,.undef,.sc (.int .i64 xs.length),.sc (.int .i64 j),.undef,.undef],[]⟩) ?_ xs.length _ ⟨0,by simp,by simp,by simp⟩
 intro k s ⟨j,hj,hi,hs⟩
 subst hs
 by_cases hjn:j<xs.length
 ·have hw:IntKind.i64.wrap ((j:Int)+1)=(j+1:Nat):=by rw[Ae (by omega) (by omega)];simp
  rw[RX hjn]at hi
  simp -implicitDefEqProofs [hjn,hc.1,hc.2.1]
  refine Aa (hp j hjn) ?_
  by_cases he:p xs[j]=true
  ·rw[if_pos he]at hi
   simp -implicitDefEqProofs [he,hi]
  ·rw[if_neg he]at hi
   simp -implicitDefEqProofs [he]
   exact⟨k-1,by omega,j+1,by omega,by simpa using hi,by simp[hw]⟩
 ·rw[U8 (by omega)]at hi
  simp -implicitDefEqProofs [hjn,hi]
abbrev IL (D:Dn) (R:Rel):Prop:=∀(xs:List Ext) (g:Nat) (caps:List V) (p:Ext→Bool),xs.length≤maxLen→LD caps→(∀(j:Nat) (h:j<xs.length),D g (arg (Bl xs[j])::caps) [] (B (p xs[j])) [])→R [.sl 1 2 xs.length (xs.flatMap Bl),.fn g caps] [] (B (xs.any p)) []
theorem Aal (D:Dn) (hI:Jr D (D EQ)):IL D (Body D CF):=by
 intro xs g caps p hl hc hp
 simp -implicitDefEqProofs [hc.2.2]
 refine Aa (hI xs g caps p hl hc hp) ?_
 have e:decide (0≤Gy p xs 0)=xs.any p:=by rw[Bool.eq_iff_iff];simp only[decide_eq_true_eq];rw[Te (by omega)]
 simp -implicitDefEqProofs [e]
end Go.Eng.T
namespace Go.Eng.T
set_option maxRecDepth 20000
def FW (t:Int) (x:Ext):Bool:=decide (x.tag=t)
def HV (l:List Ext) (t:Int):Int:=Gy (FW t) l 0
abbrev NN (R:Rel):Prop:=∀(l:List Ext) (t:Int),l.length≤maxLen→R [.sl 1 2 l.length (l.flatMap Bl),I t] [] (I (HV l t)) []
theorem Avo (D:Dn):NN (Body D UG):=by
 intro l t hl
 unfold maxLen at hl
 have hres:HV l t=Gy (FW t) l 0:=rfl
 rw[hres]
 simp -implicitDefEqProofs
 refine Ah (fun k s=>∃j,j+k=l.length∧Gy (FW t) l 0=Gy (FW t) (l.drop j) j∧s=⟨[.sl 1 2 l.length (l.flatMap Bl),I t,.undef,I j,.undef,.undef],[]⟩) ?_ (l.length) _ ⟨0,by simp,by simp,by simp⟩
 intro k s ⟨j,hj,hi,hs⟩
 subst hs
 by_cases hjn:j<l.length
 ·have hw:IntKind.i64.wrap ((j:Int)+1)=(j+1:Nat):=by rw[Ae (by omega) (by omega)];simp
  rw[RX hjn]at hi
  by_cases he:l[j].tag=t
  ·rw[if_pos (by simp[FW,he])]at hi
   simp -implicitDefEqProofs [hjn,he,hi]
  ·rw[if_neg (by simp[FW,he])]at hi
   simp -implicitDefEqProofs [hjn,he]
   exact⟨k-1,by omega,j+1,by omega,by simpa using hi,by simp[hw]⟩
 ·rw[U8 (by omega)]at hi
  simp -implicitDefEqProofs [hjn,hi]
abbrev Ae2 (R:Rel):Prop:=∀(x:Ext) (t:Int),R [arg (Bl x),.rptr 1 [I t] 0] [] (B (FW t x)) []
theorem Aw4 (D:Dn):Ae2 (Body D Q8):=by
 intro x t
 simp -implicitDefEqProofs [FW,At1]
theorem Awk (D:Dn) (h1:Ae2 (D AiQ)) (hX:Jr D (D EQ)):NN (Body D Uu):=by
 intro l t hl
 have hres:HV l t=Gy (FW t) l 0:=rfl
 rw[hres]
 simp -implicitDefEqProofs
 refine Aa (hX l 351 _ (FW t) hl (Aco FY) (fun j h=>h1 l[j] t)) ?_
 simp -implicitDefEqProofs
def UU (x:Ext):Bool:=decide (InR x.tag 0 255)&&(decide (x.body.length≤4)&&allIn x.body 0 255)
def Sk (l:List Ext) (i:Nat):Bool:=match l[i]? with
 | some x=>UU x&& !(l.take i).any (FW x.tag)
 | none=>true
theorem AbX {l:List Ext} {i:Nat} (h:i<l.length):Sk l i=(UU l[i]&& !(l.take i).any (FW l[i].tag)):=by
 unfold Sk
 rw[List.getElem?_eq_getElem h]
def Eg (l:List Ext):Bool:=Qp (Sk l) l.length&&decide (l.length≤6)
theorem ApQ {α:Type} {p:α→Bool}:∀ {xs:List α} {i:Int},Gy p xs i= -1∨(i≤Gy p xs i∧Gy p xs i<i+xs.length)
 | [],i=> .inl rfl
 | x::r,i=>by
  by_cases hp:p x=true
  ·right;simp[Gy,hp];omega
  ·rcases ApQ (p:=p) (xs:=r) (i:=i+1)with h | h
   ·left;simp[Gy,hp,h]
   ·right;simp[Gy,hp]at *;omega
theorem ArH {α:Type} {p:α→Bool}:∀ {xs:List α} {i:Int} {j:Nat},0≤i→(h:j<xs.length)→p xs[j]=true→(Gy p xs i<i+j↔(xs.take j).any p=true)
 | x::r,i,0,hi,h,hp=>by
  have:p x=true:=hp
  simp[Gy,this]
 | x::r,i,j+1,hi,h,hp=>by
  by_cases hx:p x=true
  ·simp[Gy,hx];omega
  ·have:=ArH (p:=p) (xs:=r) (i:=i+1) (j:=j) (by omega) (by simpa using h) (by simpa using hp)
   simp only[Gy,hx,List.take_succ_cons,List.any_cons,Bool.false_or]
   rw[←this]
   simp
   omega
theorem Am5 {l:List Ext} {j:Nat} (h:j<l.length):(HV l l[j].tag<(j:Int))=((l.take j).any (FW l[j].tag)=true):=by
 have:=ArH (p:=FW l[j].tag) (i:=0) (by omega) h (by simp[FW])
 rw[Int.zero_add]at this
 exact propext this
theorem Aho {l:List Ext} {j:Nat} {t:Int}:(0≤HV (l.take j) t)=((l.take j).any (FW t)=true):=Te (by omega)
theorem Io {l:List Ext} {j:Nat} (h:j<l.length) (hn:Sk l j=false):Eg l=false:=by
 unfold Eg
 rw[AoK h hn];rfl
abbrev Fb (R:Rel):Prop:=∀l:List Ext,Rf l→R [.sl 1 2 l.length (l.flatMap Bl)] [] (B (Eg l)) []
theorem AqA (D:Dn) (hI:WS (D EA)) (hB:VE (D TG)) (hX:NN (D Qm)):Fb (Body D QJ):=by
 intro l hl
 have hll:=hl.1
 simp -implicitDefEqProofs
 refine Ah (fun k s=>∃j,j+k=l.length∧Qp (Sk l) j=true∧s=⟨[.sl 1 2 l.length (l.flatMap Bl),.undef,I j,.undef,.undef],[]⟩) ?_ (l.length) _ ⟨0,by simp,by simp,by simp⟩
 intro k s ⟨j,hj,hr,hs⟩
 subst hs
 by_cases hjn:j<l.length
 ·have hw:IntKind.i64.wrap ((j:Int)+1)=(j+1:Nat):=by rw[Ae (by omega) (by omega)];simp
  have hst:=MB (Sk l) j
  have hq:=AbX hjn
  have hb:=K5 hl hjn
  rw[hr,Bool.true_and]at hst
  simp -implicitDefEqProofs [hjn]
  refine Aa (hI _ _ _) ?_
  by_cases h1:InR l[j].tag 0 255
  rotate_left
  ·have e:=Io hjn (by rw[hq];simp[UU,h1])
   simp -implicitDefEqProofs [h1,e]
  by_cases h2:l[j].body.length≤4
  rotate_left
  ·have e:=Io hjn (by rw[hq];simp[UU,h2])
   have h2':(4:Int)<l[j].body.length:=by omega
   simp -implicitDefEqProofs [hjn,h1,h2',e]
  have h2':¬(4:Int)<l[j].body.length:=by omega
  simp -implicitDefEqProofs [hjn,h1,h2']
  refine Aa (hB _ (by unfold maxLen;omega)) ?_
  by_cases h3:allIn l[j].body 0 255=true
  rotate_left
  ·have e:=Io hjn (by rw[hq];simp[UU,h3])
   simp -implicitDefEqProofs [hjn,h3,e]
  simp -implicitDefEqProofs [hjn,h3]
  refine Aa (hX l _ (by unfold maxLen;omega)) ?_
  by_cases h4:(l.take j).any (FW l[j].tag)=true
  ·have e:=Io hjn (by rw[hq];simp only[h4];simp)
   have h4':HV l l[j].tag<(j:Int):=by rw[Am5 hjn];exact h4
   simp -implicitDefEqProofs [hjn,h4',e]
  ·have h4':¬HV l l[j].tag<(j:Int):=by rw[Am5 hjn];exact h4
   have h4f:(l.take j).any (FW l[j].tag)=false:=by simpa using h4
   simp -implicitDefEqProofs [hjn,h4']
   exact⟨k-1,by omega,j+1,by omega,by rw[hst,hq,h4f];simp[UU,h1,h2,h3],by simp[hw]⟩
 ·obtain rfl:j=l.length:=by omega
  have e:Eg l=decide (l.length≤6):=by unfold Eg;rw[hr];rfl
  by_cases h5:l.length≤6
  ·have h5':(l.length:Int)≤6:=by omega
   simp -implicitDefEqProofs [e,h5,h5']
  ·have h5':¬(l.length:Int)≤6:=by omega
   simp -implicitDefEqProofs [e,h5,h5']
theorem Apq (D:Dn) (hI:WS (D CP)) (hX:NN (D AcV)) (hN:Ie (D IE)):Fb (Body D Q9):=by
 intro l hl
 have hll:=hl.1
 simp -implicitDefEqProofs
 refine Ah (fun k s=>∃j o0,j+k=l.length∧Qp (Sk l) j=true∧s=⟨[.sl 1 2 l.length (l.flatMap Bl),.undef,.undef,.undef,.sl 1 2 l.length (l.flatMap Bl),I l.length,I j,.undef,.undef],[o0]⟩) ?_ (l.length) _ ⟨0,.free,by simp,by simp,by simp⟩
 intro k s ⟨j,o0,hj,hr,hs⟩
 subst hs
 by_cases hjn:j<l.length
 ·have hw:IntKind.i64.wrap ((j:Int)+1)=(j+1:Nat):=by rw[Ae (by omega) (by omega)];simp
  have hst:=MB (Sk l) j
  have hq:=AbX hjn
  have hb:=K5 hl hjn
  rw[hr,Bool.true_and]at hst
  simp -implicitDefEqProofs [hjn]
  refine Aa (hI _ _ _) ?_
  by_cases h1:InR l[j].tag 0 255
  rotate_left
  ·have e:=Io hjn (by rw[hq];simp[UU,h1])
   simp -implicitDefEqProofs [h1,e]
  have hjl:j≤l.length:=by omega
  have hmin:min j l.length=j:=by omega
  simp -implicitDefEqProofs [hjn,hjl,hmin,h1]
  have hxx:=hX (l.take j) l[j].tag (by simp;unfold maxLen;omega)
  rw[List.length_take,hmin]at hxx
  refine Aa (hxx) ?_
  by_cases h4:(l.take j).any (FW l[j].tag)=true
  ·have e:=Io hjn (by rw[hq];simp only[h4];simp)
   have h4':0≤HV (l.take j) l[j].tag:=by rw[Aho];exact h4
   simp -implicitDefEqProofs [hjn,h4',e]
  have h4':¬0≤HV (l.take j) l[j].tag:=by rw[Aho];exact h4
  have h4f:(l.take j).any (FW l[j].tag)=false:=by simpa using h4
  by_cases h2:l[j].body.length≤4
  rotate_left
  ·have e:=Io hjn (by rw[hq];simp[UU,h2])
   have h2':(4:Int)<l[j].body.length:=by omega
   simp -implicitDefEqProofs [hjn,h4',h2',e]
  have h2':¬(4:Int)<l[j].body.length:=by omega
  simp -implicitDefEqProofs [hjn,h4',h2']
  refine Aa (hN _ _ _ (by unfold maxLen;omega)) ?_
  by_cases h3:allIn l[j].body 0 255=true
  rotate_left
  ·have e:=Io hjn (by rw[hq];simp[UU,h3])
   simp -implicitDefEqProofs [hjn,h3,e]
  simp -implicitDefEqProofs [hjn,h3]
  exact⟨k-1,by omega,j+1,by omega,by rw[hst,hq,h4f];simp[UU,h1,h2,h3],by simp[hw]⟩
 ·obtain rfl:j=l.length:=by omega
  have e:Eg l=decide (l.length≤6):=by unfold Eg;rw[hr];rfl
  by_cases h5:l.length≤6
  ·have h5':(l.length:Int)≤6:=by omega
   simp -implicitDefEqProofs [e,h5,h5']
  ·have h5':¬(l.length:Int)≤6:=by omega
   simp -implicitDefEqProofs [e,h5,h5']
def Ao (l:List Ext):List Int:=l.map (·.tag)
theorem AjT {l:List Ext} {j:Nat} (h:j<l.length):Ao (l.take (j+1))=Ao (l.take j)++ [l[j].tag]:=by
 have e:l.take (j+1)=l.take j++ [l[j]]:=by simp
 unfold Ao
 rw[e,List.map_append];rfl
abbrev JE (R:Rel):Prop:=∀l:List Ext,l.length≤4194304→R [.sl 1 2 l.length (l.flatMap Bl)] [] (.sl 0 1 (Ao l).length (ints (Ao l))) []
theorem Asu (D:Dn):JE (Body D Tq):=by
 intro l hl
 simp -implicitDefEqProofs
 refine Ah (fun k s=>∃j o1 o2,j+k=l.length∧s=⟨[.sl 1 2 l.length (l.flatMap Bl),.undef,.arr 3,I j,.undef],[.free,o1,o2,.arr 1 0 (Ao (l.take j)).length (ints (Ao (l.take j)))]⟩) ?_ (l.length) _ ⟨0,.free,.free,by simp,by simp[Ao]⟩
 intro k s ⟨j,o1,o2,hj,hs⟩
 subst hs
 by_cases hjn:j<l.length
 ·have hw:IntKind.i64.wrap ((j:Int)+1)=(j+1:Nat):=by rw[Ae (by omega) (by omega)];simp
  have hst:=AjT hjn
  have hlen:(Ao (l.take j)).length=j:=by simp[Ao];omega
  have hb:(j+1)*8≤1099511627776:=by omega
  simp -implicitDefEqProofs [hjn,hlen,hb]
  exact⟨k-1,by omega,j+1,by omega,by simp[hw],by rw[hst];simp[hlen],by rw[hst]⟩
 ·have e:l.take j=l:=List.take_of_length_le (by omega)
  simp -implicitDefEqProofs [hjn,e]
theorem AtO (D:Dn):JE (Body D Tp):=by
 intro l hl
 simp -implicitDefEqProofs
 refine Ah (fun k s=>∃j v3 o1 o2 o3,j+k=l.length∧s=⟨[.undef,.undef,.arr 4,v3,.sl 1 2 l.length (l.flatMap Bl),I l.length,I j,.undef],[.free,o1,o2,o3,.arr 1 0 (Ao (l.take j)).length (ints (Ao (l.take j)))]⟩) ?_ (l.length) _ ⟨0,.undef,.free,.free,.free,by simp,by simp[Ao]⟩
 intro k s ⟨j,v3,o1,o2,o3,hj,hs⟩
 subst hs
 by_cases hjn:j<l.length
 ·have hw:IntKind.i64.wrap ((j:Int)+1)=(j+1:Nat):=by rw[Ae (by omega) (by omega)];simp
  have hst:=AjT hjn
  have hlen:(Ao (l.take j)).length=j:=by simp[Ao];omega
  have hb:(j+1)*8≤1099511627776:=by omega
  simp -implicitDefEqProofs [hjn,hlen,hb]
  exact⟨k-1,by omega,j+1,by omega,by simp[hw],by rw[hst];simp[hlen],by rw[hst]⟩
 ·have e:l.take j=l:=List.take_of_length_le (by omega)
  simp -implicitDefEqProofs [hjn,e]
end Go.Eng.T
namespace Go.Eng.T
set_option maxRecDepth 20000
def kept (p:Int→Bool) (l:List Ext):List Ext:=l.filter fun x=>p x.tag
theorem VP {p:Int→Bool} {l:List Ext} {j:Nat} (h:j<l.length):kept p (l.take (j+1))=kept p (l.take j)++(if p l[j].tag then [l[j]]else []):=Afy (p:=fun x:Ext=>p x.tag) h
theorem Rz {p:Int→Bool} {l:List Ext} {j:Nat} (h:l.length≤j):kept p (l.take j)=kept p l:=AbE h
theorem RP {p:Int→Bool} {l:List Ext} {j:Nat}:(kept p (l.take j)).length≤j:=AjW
theorem Sb {l:List Ext} (h:Rf l) (p:Int→Bool):Rf (kept p l):=Apu h _
theorem OM {p:Int→Bool} {l:List Ext} {j:Nat} (h:j<l.length) (hp:p l[j].tag=true):
 (kept p (l.take j)).flatMap Bl++ [.sc (.int .i64 l[j].tag),.sl 0 1 l[j].body.length (ints l[j].body)]=(kept p (l.take (j+1))).flatMap Bl:=by
 rw[VP h,if_pos hp,List.flatMap_append];simp
theorem He {p:Int→Bool} {l:List Ext} {j:Nat} (h:j<l.length) (hp:p l[j].tag=true):(kept p (l.take (j+1))).length=(kept p (l.take j)).length+1:=by
 rw[VP h,if_pos hp];simp
theorem RF {p:Int→Bool} {l:List Ext} {j:Nat} (h:j<l.length) (hp:¬p l[j].tag=true):kept p (l.take (j+1))=kept p (l.take j):=by
 rw[VP h,if_neg hp,List.append_nil]
def AjX (caps:List V):Prop:=∀k,caps.any (m1 k)=false
theorem OI:AjX []:=fun _=>rfl
theorem XY {fl:Nat} {cs:List V} {o:Nat} {r:List V} (h:AjX r):AjX (.rptr fl cs o::r):=fun k=>by
 have:=h k
 simp only[List.any_cons,this,m1,Bool.or_self]
theorem OT {k g:Nat} {caps:List V} (h:AjX caps):O6 k (.fn g caps)= .fn g caps:=by
 have:=h k
 simp only[O6,m3,m2,this]
 rfl
theorem Va {a b g:Nat} {caps:List V} (h:AjX caps):ZT a b (.fn g caps)= .fn g caps:=by
 have:=h a
 simp only[ZT,m3,m2,this]
 rfl
abbrev J8 (D:Dn) (R:Rel):Prop:=∀(l:List Ext) (g:Nat) (caps:List V) (p:Int→Bool),Rf l→LD caps→AjX caps→(∀t:Int,D g (I t::caps) [] (B (p t)) [])→
 R [.sl 1 2 l.length (l.flatMap Bl),.fn g caps] [] (.sl 0 2 (kept p l).length ((kept p l).flatMap Bl)) []
theorem Apk (D:Dn):J8 D (Body D PX):=by
 intro l g caps p hl hc hno hp
 have hll:=hl.1
 simp -implicitDefEqProofs [↓OT hno,↓Va hno]
 refine Ah (fun k s=>∃j v4 o1 o2 o3 o4 o5,j+k=l.length∧s=⟨[.undef,.fn g caps,.undef,.arr 6,v4,.sl 1 2 l.length (l.flatMap Bl),I l.length,I j,.undef,.undef],[.free,o1,o2,o3,o4,o5,.arr 2 0 (kept p (l.take j)).length ((kept p (l.take j)).flatMap Bl)]⟩) ?_ (l.length) _ ⟨0,.undef,.free,.free,.free,.free,.free,by simp,by simp[kept,↓OT hno,↓Va hno]⟩
 intro k s ⟨j,v4,o1,o2,o3,o4,o5,hj,hs⟩
 subst hs
 by_cases hjn:j<l.length
 ·have hw:IntKind.i64.wrap ((j:Int)+1)=(j+1:Nat):=by rw[Ae (by omega) (by omega)];simp
  have hb:=K5 hl hjn
  have h1:l[j].body.length*8≤1099511627776:=by omega
  have hkl:=RP (p:=p) (l:=l) (j:=j)
  have h2:((kept p (l.take j)).length+1)*32≤1099511627776:=by omega
  simp -implicitDefEqProofs [hjn,↓OT hno,↓Va hno,hc.1,hc.2.1]
  refine Aa (hp l[j].tag) ?_
  by_cases he:p l[j].tag=true
  ·have hst:=OM hjn he
   have hsl:=He hjn he
   simp -implicitDefEqProofs [he,hjn,↓OT hno,↓Va hno,h1,h2]
   exact⟨k-1,by omega,j+1,by omega,by simp[hw],by rw[hsl],by rw[←hst]⟩
  ·have hst:=RF hjn he
   simp -implicitDefEqProofs [he,↓OT hno,↓Va hno]
   exact⟨k-1,by omega,j+1,by omega,by simp[hw],by rw[hst],by rw[hst]⟩
 ·have e:=Rz (p:=p) (l:=l) (j:=j) (by omega)
  simp -implicitDefEqProofs [hjn,e]
abbrev Zb (R:Rel):Prop:=∀t:Int,R [I t] [] (B true) []
abbrev SN (R:Rel):Prop:=∀t:Int,R [I t] [] (B (!Av t)) []
theorem Aos (D:Dn):Zb (Body D Mq):=by
 intro t
 simp -implicitDefEqProofs
theorem AgD (D:Dn) (hR:EW (D R8)):SN (Body D Jj):=by
 intro t
 simp -implicitDefEqProofs
 refine Aa (hR t) ?_
 simp -implicitDefEqProofs
theorem Atb (l:List Ext):kept (fun _=>true) l=l:=by simp[kept]
abbrev MO (R:Rel):Prop:=∀l:List Ext,Rf l→R [.sl 1 2 l.length (l.flatMap Bl)] [] (.sl 0 2 l.length (l.flatMap Bl)) []
theorem ApC (D:Dn) (h1:Zb (D RH)) (hK:J8 D (D Hz)):MO (Body D Px):=by
 intro l hl
 simp -implicitDefEqProofs
 refine Aa (hK l RH [] (fun _=>true) hl FY OI (fun t=>h1 t)) ?_
 simp -implicitDefEqProofs [Atb]
def XO (l:List Ext):List Ext:=kept (fun t=> !Av t) l
def JF (l:List Ext) (tags:List Int):List Ext:=kept (fun t=>decide (t∈tags)) l
abbrev F6 (R:Rel):Prop:=∀l:List Ext,Rf l→R [.sl 1 2 l.length (l.flatMap Bl)] [] (.sl 0 2 (XO l).length ((XO l).flatMap Bl)) []
theorem Afr (D:Dn) (h1:SN (D Oc)) (hK:J8 D (D Hz)):F6 (Body D La):=by
 intro l hl
 simp -implicitDefEqProofs
 refine Aa (hK l Oc [] (fun t=> !Av t) hl FY OI (fun t=>h1 t)) ?_
 simp -implicitDefEqProofs [XO]
abbrev K9 (R:Rel):Prop:=∀(l:List Ext) (tags:List Int),Rf l→tags.length≤maxLen→R [.sl 1 2 l.length (l.flatMap Bl),.sl 1 1 tags.length (ints tags)] [] (.sl 0 2 (JF l tags).length ((JF l tags).flatMap Bl)) []
abbrev VZ (R:Rel):Prop:=∀(t:Int) (tags:List Int),tags.length≤maxLen→R [I t,.rptr 1 [.sl 0 1 tags.length (ints tags)] 0] [] (B (decide (t∈tags))) []
theorem Af2 {a:List Int} {r:List V} (h:LD r):LD (.rptr 1 [.sl 0 1 a.length (ints a)] 0::r):=XG (fun H=>by simp) (fun H=>by simp) h
theorem Ap5 (D:Dn) (hH:Tk (D BB)):VZ (Body D N7):=by
 intro t tags hl
 simp -implicitDefEqProofs
 refine Aa (hH tags t hl) ?_
 simp -implicitDefEqProofs
theorem Aqx (D:Dn) (h1:VZ (D T9)) (hK:J8 D (D Hz)):K9 (Body D QS):=by
 intro l tags hl ht
 simp -implicitDefEqProofs
 refine Aa (hK l T9 _ (fun t=>decide (t∈tags)) hl (Af2 FY) (XY OI) (fun t=>h1 t tags ht)) ?_
 simp -implicitDefEqProofs [JF]
theorem Apb (D:Dn) (hH:Tk (D Kg)):K9 (Body D QZ):=by
 intro l tags hl ht
 have hll:=hl.1
 have hres:JF l tags=kept (fun t=>decide (t∈tags)) l:=rfl
 rw[hres]
 generalize hp:(fun t=>decide (t∈tags))=p
 simp -implicitDefEqProofs
 refine Ah (fun k s=>∃j o1 o2 o3 o4,j+k=l.length∧s=⟨[.sl 1 2 l.length (l.flatMap Bl),.sl 1 1 tags.length (ints tags),.undef,.arr 5,I j,.undef,.undef],[.free,o1,o2,o3,o4,.arr 2 0 (kept p (l.take j)).length ((kept p (l.take j)).flatMap Bl)]⟩) ?_ (l.length) _ ⟨0,.free,.free,.free,.free,by simp,by simp[kept]⟩
 intro k s ⟨j,o1,o2,o3,o4,hj,hs⟩
 subst hs
 by_cases hjn:j<l.length
 ·have hw:IntKind.i64.wrap ((j:Int)+1)=(j+1:Nat):=by rw[Ae (by omega) (by omega)];simp
  have hb:=K5 hl hjn
  have h1:l[j].body.length*8≤1099511627776:=by omega
  have hkl:=RP (p:=p) (l:=l) (j:=j)
  have h2:((kept p (l.take j)).length+1)*32≤1099511627776:=by omega
  simp -implicitDefEqProofs [hjn]
  refine Aa (hH tags l[j].tag ht) ?_
  have hpe:decide (l[j].tag∈tags)=p l[j].tag:=by rw[←hp]
  rw[hpe]
  by_cases he:p l[j].tag=true
  ·have hst:=OM hjn he
   have hsl:=He hjn he
   simp -implicitDefEqProofs [he,hjn,h1,h2]
   exact⟨k-1,by omega,j+1,by omega,by simp[hw],by rw[hsl],by rw[←hst]⟩
  ·have hst:=RF hjn he
   simp -implicitDefEqProofs [he]
   exact⟨k-1,by omega,j+1,by omega,by simp[hw],by rw[hst],by rw[hst]⟩
 ·have e:=Rz (p:=p) (l:=l) (j:=j) (by omega)
  simp -implicitDefEqProofs [hjn,e]
theorem AfR (D:Dn) (hR:EW (D L9)):F6 (Body D Ll):=by
 intro l hl
 have hll:=hl.1
 have hres:XO l=kept (fun t=> !Av t) l:=rfl
 rw[hres]
 generalize hp:(fun t=> !Av t)=p
 simp -implicitDefEqProofs
 refine Ah (fun k s=>∃j o1 o2 o3 o4,j+k=l.length∧s=⟨[.sl 1 2 l.length (l.flatMap Bl),.undef,.arr 5,I j,.undef,.undef],[.free,o1,o2,o3,o4,.arr 2 0 (kept p (l.take j)).length ((kept p (l.take j)).flatMap Bl)]⟩) ?_ (l.length) _ ⟨0,.free,.free,.free,.free,by simp,by simp[kept]⟩
 intro k s ⟨j,o1,o2,o3,o4,hj,hs⟩
 subst hs
 by_cases hjn:j<l.length
 ·have hw:IntKind.i64.wrap ((j:Int)+1)=(j+1:Nat):=by rw[Ae (by omega) (by omega)];simp
  have hb:=K5 hl hjn
  have h1:l[j].body.length*8≤1099511627776:=by omega
  have hkl:=RP (p:=p) (l:=l) (j:=j)
  have h2:((kept p (l.take j)).length+1)*32≤1099511627776:=by omega
  simp -implicitDefEqProofs [hjn]
  refine Aa (hR l[j].tag) ?_
  have hpe:(!Av l[j].tag)=p l[j].tag:=by rw[←hp]
  by_cases he:p l[j].tag=true
  ·have hst:=OM hjn he
   have hsl:=He hjn he
   have he':Av l[j].tag=false:=by rw[he]at hpe;simpa using hpe
   simp -implicitDefEqProofs [he',hjn,h1,h2]
   exact⟨k-1,by omega,j+1,by omega,by simp[hw],by rw[hsl],by rw[←hst]⟩
  ·have hst:=RF hjn he
   have he':Av l[j].tag=true:=by simp at he;rw[he]at hpe;simpa using hpe
   simp -implicitDefEqProofs [he']
   exact⟨k-1,by omega,j+1,by omega,by simp[hw],by rw[hst],by rw[hst]⟩
 ·have e:=Rz (p:=p) (l:=l) (j:=j) (by omega)
  simp -implicitDefEqProofs [hjn,e]
theorem Aqj (l:List Ext):JF l (Ao l)=l:=by
 unfold JF kept
 rw[List.filter_eq_self]
 intro x hx
 simp only[decide_eq_true_eq]
 exact List.mem_map.2 ⟨x,hx,rfl⟩
theorem KC (l:List Ext):(Ao l).length=l.length:=by simp[Ao]
theorem Asb (D:Dn) (hT:JE (D AaD)) (hK:K9 (D WO)):MO (Body D QI):=by
 intro l hl
 have hll:=hl.1
 simp -implicitDefEqProofs
 refine Aa (hT l hll) ?_
 simp -implicitDefEqProofs
 refine Aa (hK l (Ao l) hl (by rw[KC];unfold maxLen;omega)) ?_
 simp -implicitDefEqProofs [Aqj]
end Go.Eng.T
namespace Go.Eng.T
set_option maxRecDepth 20000
def hB (h:Hello):Prop:=h.versions.length≤4194304∧Rf h.exts
def Co (h:Hello):Bool:=Bc h.versions&&Eg h.exts
abbrev DL (R:Rel):Prop:=∀h:Hello,hB h→R [arg (Cv h)] [] (B (Co h)) []
theorem Ap8 (D:Dn) (hA:Cg (D F3)) (hE:Fb (D Jz)):DL (Body D Q7):=by
 intro h hh
 simp -implicitDefEqProofs
 refine Aa (hA _ (by have:=hh.1;unfold maxLen;omega)) ?_
 by_cases h1:Bc h.versions=true
 rotate_left
 ·simp -implicitDefEqProofs [h1,Co]
 simp -implicitDefEqProofs [h1]
 refine Aa (hE _ hh.2) ?_
 simp -implicitDefEqProofs [h1,Co]
theorem Aqr (D:Dn) (hA:Cg (D FZ)) (hE:Fb (D Jl)):DL (Body D Rh):=by
 intro h hh
 simp -implicitDefEqProofs
 refine Aa (hA _ (by have:=hh.1;unfold maxLen;omega)) ?_
 by_cases h1:Bc h.versions=true
 rotate_left
 ·simp -implicitDefEqProofs [h1,Co]
 simp -implicitDefEqProofs [h1]
 refine Aa (hE _ hh.2) ?_
 simp -implicitDefEqProofs [h1,Co]
abbrev JC (R:Rel):Prop:=∀h:Hello,hB h→R [arg (Cv h)] [] (.agg (Cv h)) []
theorem AnG (D:Dn) (hE:MO (D Vq)):JC (Body D NC):=by
 intro h hh
 have h1:h.versions.length*8≤1099511627776:=by have:=hh.1;omega
 simp -implicitDefEqProofs [h1]
 refine Aa (hE _ hh.2) ?_
 simp -implicitDefEqProofs
theorem Aq4 (D:Dn) (hE:MO (D WM)):JC (Body D PZ):=by
 intro h hh
 have h1:h.versions.length*8≤1099511627776:=by have:=hh.1;omega
 simp -implicitDefEqProofs [h1]
 refine Aa (hE _ hh.2) ?_
 simp -implicitDefEqProofs
def lossy (b:Fx) (x:Ext):Bool:=decide (x.tag∈b.drops)||(b.lists&&(!decide (x.tag∈b.strips)&& !decide (InR x.tag 1 3)))
def Aq0 (vs:List Int):Int:=vs.getLastD 0
def LZ (b:Fx) (h:Hello):Bool:=(decide (0<b.limit)&&decide (b.limit<Aq0 h.versions))||h.exts.any (lossy b)
def stays (b:Fx) (t:Int):Bool:= !decide (t∈b.strips)
def AL:Hello:=⟨[],[]⟩
def BI (b:Fx) (h:Hello):Hello×Bool:=if GR b&&(Co h&& !LZ b h)then(⟨h.versions,kept (stays b) h.exts⟩,true)else(AL,false)
abbrev M5 (R:Rel):Prop:=∀(b:Fx) (h:Hello),GY b→hB h→R [arg (Ck b),arg (Cv h)] [] (.tup [.agg (Cv (BI b h).1),B (BI b h).2]) []
theorem Vo {xs:List Int} (h:Bc xs=true):0<xs.length:=by
 unfold Bc at h
 simp only[Bool.and_eq_true,decide_eq_true_eq]at h
 exact h.2
theorem Azz {xs:List Int} (h:xs.length-1<xs.length):Aq0 xs=xs[xs.length-1]:=by
 unfold Aq0
 rw[List.getLastD_eq_getLast?,List.getLast?_eq_getElem?,List.getElem?_eq_getElem h];rfl
theorem ApZ (D:Dn) (hX:QV (D AcK)) (hE:DL (D Fy)) (hH:Tk (D Kg)) (hI:WS (D EA)):M5 (Body D QX):=by
 intro b h hb hh
 obtain⟨hv,hx⟩:=hh
 have hll:=hx.1
 simp -implicitDefEqProofs
 refine Aa (hX b hb) ?_
 by_cases h1:GR b=true
 rotate_left
 ·simp -implicitDefEqProofs [h1,BI,AL]
 simp -implicitDefEqProofs [h1]
 refine Aa (hE h ⟨hv,hx⟩) ?_
 by_cases h2:Co h=true
 rotate_left
 ·simp -implicitDefEqProofs [h2,BI,AL]
 have hpos:0<h.versions.length:=Vo (by unfold Co at h2;simp only[Bool.and_eq_true]at h2;exact h2.1)
 have hn1:h.versions.length-1<h.versions.length:=by omega
 have hw1:IntKind.i64.wrap ((h.versions.length:Int)-1)=((h.versions.length-1:Nat):Int):=by rw[Ae (by omega) (by omega)];omega
 have htop:=Azz hn1
 by_cases h3:0<b.limit
 ·by_cases h4:b.limit<h.versions[h.versions.length-1]
  ·have e:BI b h=(AL,false):=by simp[BI,LZ,htop,h3,h4]
   simp -implicitDefEqProofs [h2,h3,hw1,hn1,hpos,h4,e,AL]
  ·have h3':b.limit<Aq0 h.versions↔False:=by rw[htop];simpa using h4
   have b0:h.versions.length*8≤1099511627776:=by omega
   simp -implicitDefEqProofs [h2,h3,hw1,hn1,hpos,h4,b0]
   refine Ah (fun k s=>∃j v8 o6 o7 o8 o9,j+k=h.exts.length∧(h.exts.take j).any (lossy b)=false∧s=⟨[.undef,.undef,.ptr 0 0,.ptr 1 0,.ptr 2 0,.undef,.ptr 5 0,I j,v8,.undef,.undef,.undef,.undef,.undef],[.var ((Ck b).map (Be 1)),.var ((Cv h).map (Be 1)),.var [.nil 1,.nil 2],.dead,.arr 1 0 h.versions.length (ints h.versions),.var [.arr 4,.arr 10],o6,o7,o8,o9,.arr 2 0 (kept (stays b) (h.exts.take j)).length ((kept (stays b) (h.exts.take j)).flatMap Bl)]⟩) ?_ (h.exts.length) _ ⟨0,.undef,.free,.free,.free,.free,by simp,by simp,by simp[kept]⟩
   intro k s ⟨j,v8,o6,o7,o8,o9,hj,hp,hs⟩
   subst hs
   by_cases hjn:j<h.exts.length
   ·have hw:IntKind.i64.wrap ((j:Int)+1)=(j+1:Nat):=by rw[Ae (by omega) (by omega)];simp
    have hbd:=K5 hx hjn
    have b1:h.exts[j].body.length*8≤1099511627776:=by omega
    have hkl:=RP (p:=stays b) (l:=h.exts) (j:=j)
    have b2:((kept (stays b) (h.exts.take j)).length+1)*32≤1099511627776:=by omega
    have hst:=Ag6 (p:=lossy b) hjn
    rw[hp,Bool.false_or]at hst
    simp -implicitDefEqProofs [hjn]
    refine Aa (hH _ _ hb.2) ?_
    simp -implicitDefEqProofs
    refine Aa (hH _ _ hb.1) ?_
    by_cases g1:h.exts[j].tag∈b.drops
    ·have e:BI b h=(AL,false):=by
      have:=UL (p:=lossy b) hjn (by simp[lossy,g1])
      simp[BI,LZ,this]
     simp -implicitDefEqProofs [g1,e,AL]
    by_cases g2:h.exts[j].tag∈b.strips
    ·have hl:lossy b h.exts[j]=false:=by simp[lossy,g1,g2]
     have hk:=RF (p:=stays b) hjn (by simp[stays,g2])
     by_cases g3:b.lists=true
     ·simp -implicitDefEqProofs [g1,g2,g3]
      exact⟨k-1,by omega,j+1,by omega,by simpa using hst.trans hl,by simp[hw],by rw[hk],by rw[hk]⟩
     ·simp -implicitDefEqProofs [g1,g2,g3]
      exact⟨k-1,by omega,j+1,by omega,by simpa using hst.trans hl,by simp[hw],by rw[hk],by rw[hk]⟩
    have hk:=OM (p:=stays b) hjn (by simp[stays,g2])
    have hkl:=He (p:=stays b) hjn (by simp[stays,g2])
    by_cases g3:b.lists=true
    rotate_left
    ·have hl:lossy b h.exts[j]=false:=by simp[lossy,g1,g2,g3]
     simp -implicitDefEqProofs [g1,g2,g3,hjn,b1,b2]
     exact⟨k-1,by omega,j+1,by omega,by simpa using hst.trans hl,by simp[hw],by rw[hkl],by rw[←hk]⟩
    simp -implicitDefEqProofs [g1,g2,g3]
    refine Aa (hI _ _ _) ?_
    by_cases g4:InR h.exts[j].tag 1 3
    ·have hl:lossy b h.exts[j]=false:=by simp[lossy,g1,g2,g3,g4]
     simp -implicitDefEqProofs [g4,hjn,b1,b2]
     exact⟨k-1,by omega,j+1,by omega,by simpa using hst.trans hl,by simp[hw],by rw[hkl],by rw[←hk]⟩
    ·have e:BI b h=(AL,false):=by
      have:=UL (p:=lossy b) hjn (by simp[lossy,g1,g2,g3,g4])
      simp[BI,LZ,this]
     simp -implicitDefEqProofs [g4,e,AL]
   ·have hje:j=h.exts.length:=by omega
    have ea:h.exts.any (lossy b)=false:=any_none (by omega) hp
    have ek:=Rz (p:=stays b) (l:=h.exts) (j:=j) (by omega)
    have e:BI b h=(⟨h.versions,kept (stays b) h.exts⟩,true):=by simp only[BI,h1,h2,LZ,ea,h3'];simp
    simp -implicitDefEqProofs [hjn,e,ek]
 ·have b0:h.versions.length*8≤1099511627776:=by omega
  simp -implicitDefEqProofs [h2,h3,b0]
  refine Ah (fun k s=>∃j v8 o6 o7 o8 o9,j+k=h.exts.length∧(h.exts.take j).any (lossy b)=false∧s=⟨[.undef,.undef,.ptr 0 0,.ptr 1 0,.ptr 2 0,.undef,.ptr 5 0,I j,v8,.undef,.undef,.undef,.undef,.undef],[.var ((Ck b).map (Be 1)),.var ((Cv h).map (Be 1)),.var [.nil 1,.nil 2],.dead,.arr 1 0 h.versions.length (ints h.versions),.var [.arr 4,.arr 10],o6,o7,o8,o9,.arr 2 0 (kept (stays b) (h.exts.take j)).length ((kept (stays b) (h.exts.take j)).flatMap Bl)]⟩) ?_ (h.exts.length) _ ⟨0,.undef,.free,.free,.free,.free,by simp,by simp,by simp[kept]⟩
  intro k s ⟨j,v8,o6,o7,o8,o9,hj,hp,hs⟩
  subst hs
  by_cases hjn:j<h.exts.length
  ·have hw:IntKind.i64.wrap ((j:Int)+1)=(j+1:Nat):=by rw[Ae (by omega) (by omega)];simp
   have hbd:=K5 hx hjn
   have b1:h.exts[j].body.length*8≤1099511627776:=by omega
   have hkl:=RP (p:=stays b) (l:=h.exts) (j:=j)
   have b2:((kept (stays b) (h.exts.take j)).length+1)*32≤1099511627776:=by omega
   have hst:=Ag6 (p:=lossy b) hjn
   rw[hp,Bool.false_or]at hst
   simp -implicitDefEqProofs [hjn]
   refine Aa (hH _ _ hb.2) ?_
   simp -implicitDefEqProofs
   refine Aa (hH _ _ hb.1) ?_
   by_cases g1:h.exts[j].tag∈b.drops
   ·have e:BI b h=(AL,false):=by
     have:=UL (p:=lossy b) hjn (by simp[lossy,g1])
     simp[BI,LZ,this]
    simp -implicitDefEqProofs [g1,e,AL]
   by_cases g2:h.exts[j].tag∈b.strips
   ·have hl:lossy b h.exts[j]=false:=by simp[lossy,g1,g2]
    have hk:=RF (p:=stays b) hjn (by simp[stays,g2])
    by_cases g3:b.lists=true
    ·simp -implicitDefEqProofs [g1,g2,g3]
     exact⟨k-1,by omega,j+1,by omega,by simpa using hst.trans hl,by simp[hw],by rw[hk],by rw[hk]⟩
    ·simp -implicitDefEqProofs [g1,g2,g3]
     exact⟨k-1,by omega,j+1,by omega,by simpa using hst.trans hl,by simp[hw],by rw[hk],by rw[hk]⟩
   have hk:=OM (p:=stays b) hjn (by simp[stays,g2])
   have hkl:=He (p:=stays b) hjn (by simp[stays,g2])
   by_cases g3:b.lists=true
   rotate_left
   ·have hl:lossy b h.exts[j]=false:=by simp[lossy,g1,g2,g3]
    simp -implicitDefEqProofs [g1,g2,g3,hjn,b1,b2]
    exact⟨k-1,by omega,j+1,by omega,by simpa using hst.trans hl,by simp[hw],by rw[hkl],by rw[←hk]⟩
   simp -implicitDefEqProofs [g1,g2,g3]
   refine Aa (hI _ _ _) ?_
   by_cases g4:InR h.exts[j].tag 1 3
   ·have hl:lossy b h.exts[j]=false:=by simp[lossy,g1,g2,g3,g4]
    simp -implicitDefEqProofs [g4,hjn,b1,b2]
    exact⟨k-1,by omega,j+1,by omega,by simpa using hst.trans hl,by simp[hw],by rw[hkl],by rw[←hk]⟩
   ·have e:BI b h=(AL,false):=by
     have:=UL (p:=lossy b) hjn (by simp[lossy,g1,g2,g3,g4])
     simp[BI,LZ,this]
    simp -implicitDefEqProofs [g4,e,AL]
  ·have hje:j=h.exts.length:=by omega
   have ea:h.exts.any (lossy b)=false:=any_none (by omega) hp
   have ek:=Rz (p:=stays b) (l:=h.exts) (j:=j) (by omega)
   have e:BI b h=(⟨h.versions,kept (stays b) h.exts⟩,true):=by simp only[BI,h1,h2,LZ,ea,h3];simp
   simp -implicitDefEqProofs [hjn,e,ek]
abbrev VO (R:Rel):Prop:=∀(t:Int) (b:Fx),GY b→R [I t,.rptr 1 (Ck b) 0] [] (B (stays b t)) []
theorem ApE (D:Dn) (hH:Tk (D BB)):VO (Body D Nq):=by
 intro t b hb
 simp -implicitDefEqProofs
 refine Aa (hH b.strips t hb.2) ?_
 simp -implicitDefEqProofs [stays]
abbrev AeG (R:Rel):Prop:=∀(x:Ext) (b:Fx),GY b→R [arg (Bl x),.rptr 1 (Ck b) 0] [] (B (lossy b x)) []
theorem Av9 (D:Dn) (hH:Tk (D BB)) (hI:WS (D CP)):AeG (Body D QR):=by
 intro x b hb
 simp -implicitDefEqProofs
 refine Aa (hH b.drops x.tag hb.1) ?_
 by_cases g1:x.tag∈b.drops
 ·simp -implicitDefEqProofs [g1,lossy]
 by_cases g3:b.lists=true
 rotate_left
 ·simp -implicitDefEqProofs [g1,g3,lossy]
 simp -implicitDefEqProofs [g1,g3]
 refine Aa (hH b.strips x.tag hb.2) ?_
 by_cases g2:x.tag∈b.strips
 ·simp -implicitDefEqProofs [g1,g2,g3,lossy]
 simp -implicitDefEqProofs [g2]
 refine Aa (hI _ _ _) ?_
 simp -implicitDefEqProofs [g1,g2,g3,lossy]
def AyD (xs:List Int):Int:=xs.foldl max (xs.headD 0)
abbrev ABg (R:Rel):Prop:=∀xs:List Int,0<xs.length→xs.length≤4194304→R [.sl 1 1 xs.length (ints xs)] [] (I (AyD xs)) []
abbrev Aqw (R:Rel):Prop:=∀xs:List Int,xs.length≤4194304→R [.sl 1 1 xs.length (ints xs)] [] (.sl 0 1 xs.length (ints xs)) []
abbrev AlE (R:Rel):Prop:=∀(b:Fx) (h:Hello),GY b→hB h→GR b=true→Bc h.versions=true→R [arg (Ck b),arg (Cv h)] [] (B (LZ b h)) []
theorem Zv:∀(xs:List Int) (a:Int),(∀x,x∈xs→a≤x)→(∀i,(h:i+1<xs.length)→xs[i]≤xs[i+1])→xs.foldl max a=(xs.getLast?.getD a)
 | [],a,_,_=>rfl
 | x::r,a,h1,h2=>by
  have hx:=h1 x (by simp)
  have hr:∀y,y∈r→x≤y:=by
   intro y hy
   obtain⟨n,hn,rfl⟩:=List.getElem_of_mem hy
   have key:∀m,(hm:m<r.length)→x≤r[m]:=by
    intro m
    induction m with
    | zero=>intro hm;have:=h2 0 (by simp;omega);simpa using this
    | succ m ih=>
     intro hm
     have h3:=ih (by omega)
     have:=h2 (m+1) (by simp;omega)
     simp only[List.getElem_cons_succ]at this
     omega
   exact key n hn
  have ih:=Zv r x hr (fun i h=>by have:=h2 (i+1) (by simp;omega);simpa using this)
  simp only[List.foldl_cons]
  rw[show max a x=x by omega,ih]
  cases r with
  | nil=>rfl
  | cons y s=>simp[List.getLast?_cons_cons,List.getLast?_cons]
theorem AlD {xs:List Int} (h:Bc xs=true) {i:Nat} (hi:i+1<xs.length):xs[i]<xs[i+1]:=by
 unfold Bc JR at h
 simp only[Bool.and_eq_true,List.all_eq_true,List.mem_range]at h
 have:=(h.1 (i+1) hi).2
 rw[Vj hi,show i+1-1=i by omega,Vj (by omega)]at this
 simpa using this
theorem AsE {xs:List Int} (h:Bc xs=true):AyD xs=Aq0 xs:=by
 cases xs with
 | nil=>rfl
 | cons x r=>
  unfold AyD Aq0
  simp only[List.headD_cons,List.foldl_cons]
  rw[show max x x=x by omega,Zv r x ?_ ?_]
  ·cases r with
   | nil=>rfl
   | cons y s=>simp[List.getLastD_eq_getLast?,List.getLast?_cons_cons,List.getLast?_cons]
  ·intro y hy
   obtain⟨n,hn,rfl⟩:=List.getElem_of_mem hy
   induction n with
   | zero=>have:=AlD h (i:=0) (by simp;omega);simp at this;omega
   | succ m ih=>
    have h3:=ih (by omega) (List.getElem_mem _)
    have:=AlD h (i:=m+1) (by simp;omega)
    simp only[List.getElem_cons_succ]at this
    omega
  ·intro i hi
   have:=AlD h (i:=i+1) (by simp;omega)
   simp only[List.getElem_cons_succ]at this
   omega
theorem Acg {b:Fx} {r:List V} (h:LD r):LD (.rptr 1 (Ck b) 0::r):=XG (fun H=>by simp) (fun H=>by simp) h
theorem AyH (D:Dn) (hM:ABg (D TR)) (h1:AeG (D QY)) (hC:IL D (D GU)):AlE (Body D Vw):=by
 intro b h hb hh hbox hver
 obtain⟨hv,hx⟩:=hh
 have hll:=hx.1
 have hpos:=Vo hver
 have hlim:0≤b.limit:=by unfold GR at hbox;simp only[Bool.and_eq_true,decide_eq_true_eq]at hbox;exact hbox.1.1.1.1.1
 by_cases h0:b.limit=0
 ·obtain⟨lim,dr,st,li⟩:=b
  dsimp only at h0
  subst h0
  simp -implicitDefEqProofs
  refine Aa (hC h.exts QY _ (lossy ⟨0,dr,st,li⟩) (by unfold maxLen;omega) (Acg (b:=⟨0,dr,st,li⟩) FY) (fun j hj=>h1 h.exts[j] ⟨0,dr,st,li⟩ hb)) ?_
  simp -implicitDefEqProofs [LZ]
 ·have hn:0<b.limit:=by omega
  simp -implicitDefEqProofs [h0]
  refine Aa (hM h.versions hpos hv) ?_
  rw[AsE hver]
  by_cases h4:b.limit<Aq0 h.versions
  ·simp -implicitDefEqProofs [h0,h4,LZ,hn]
  ·simp -implicitDefEqProofs [h0,h4]
   refine Aa (hC h.exts QY _ (lossy b) (by unfold maxLen;omega) (Acg FY) (fun j hj=>h1 h.exts[j] b hb)) ?_
   simp -implicitDefEqProofs [LZ,hn,h4]
theorem ApO (D:Dn) (hX:QV (D AcC)) (hE:DL (D Gc)) (hL:AlE (D AmA)) (hC:Aqw (D Rk)) (h1':VO (D Ug)) (hK:J8 D (D Hz)):M5 (Body D Q0):=by
 intro b h hb hh
 simp -implicitDefEqProofs
 refine Aa (hX b hb) ?_
 by_cases h1:GR b=true
 rotate_left
 ·simp -implicitDefEqProofs [h1,BI,AL]
 simp -implicitDefEqProofs [h1]
 refine Aa (hE h hh) ?_
 by_cases h2:Co h=true
 rotate_left
 ·simp -implicitDefEqProofs [h2,BI,AL]
 have hver:Bc h.versions=true:=by unfold Co at h2;simp only[Bool.and_eq_true]at h2;exact h2.1
 simp -implicitDefEqProofs [h2]
 refine Aa (hL b h hb hh h1 hver) ?_
 by_cases h3:LZ b h=true
 ·simp -implicitDefEqProofs [h3,BI,AL]
 have e:BI b h=(⟨h.versions,kept (stays b) h.exts⟩,true):=by simp[BI,h1,h2,h3]
 simp -implicitDefEqProofs [h3]
 refine Aa (hC h.versions hh.1) ?_
 simp -implicitDefEqProofs
 refine Aa (hK h.exts Ug _ (stays b) hh.2 (Acg FY) (XY OI) (fun t=>h1' t b hb)) ?_
 simp -implicitDefEqProofs [e]
end Go.Eng.T
namespace Go.Eng.T
set_option maxRecDepth 20000
def GK:List Fx→Hello→Hello×Bool
 | [],h=>(h,true)
 | b::r,h=>if(BI b h).2=true then GK r (BI b h).1 else(AL,false)
theorem AcD {path:List Fx} {j:Nat} {x:Hello} (h:j<path.length):GK (path.drop j) x=if(BI path[j] x).2=true then GK (path.drop (j+1)) (BI path[j] x).1 else(AL,false):=by
 rw[List.drop_eq_getElem_cons h];rfl
theorem Ahe {path:List Fx} {j:Nat} {x:Hello} (h:path.length≤j):GK (path.drop j) x=(x,true):=by rw[List.drop_eq_nil_of_le h];rfl
def AV (path:List Fx) (h:Hello):Hello×Bool:=if decide (path.length≤4)&&Co h then GK path h else(AL,false)
theorem AgS:hB AL:=⟨by simp[AL],Zi⟩
theorem Al7 {b:Fx} {h:Hello} (hh:hB h):hB (BI b h).1:=by
 unfold BI
 split
 ·exact⟨hh.1,Sb hh.2 _⟩
 ·exact AgS
theorem Aql {b:Fx} {h:Hello} (hk:(BI b h).2=false):(BI b h).1=AL:=by
 unfold BI at *
 split at hk
 ·cases hk
 ·rename_i hc;rw[if_neg hc]
abbrev E8 (R:Rel):Prop:=∀(path:List Fx) (h:Hello),lnS GY path→hB h→R [.sl 1 4 path.length (path.flatMap Ck),arg (Cv h)] [] (.tup [.agg (Cv (AV path h).1),B (AV path h).2]) []
theorem AnY (D:Dn) (hE:DL (D Fy)) (hC:JC (D UZ)) (hP:M5 (D Ail)):E8 (Body D PN):=by
 intro path h hb hh
 have hl:=hb.1
 unfold maxLen at hl
 by_cases h1:path.length≤4
 rotate_left
 ·have h1':(4:Int)<path.length:=by omega
  simp -implicitDefEqProofs [h1',h1,AV,AL]
 have h1':¬(4:Int)<path.length:=by omega
 simp -implicitDefEqProofs [h1']
 refine Aa (hE h hh) ?_
 by_cases h2:Co h=true
 rotate_left
 ·simp -implicitDefEqProofs [h2,h1,AV,AL]
 have e:AV path h=GK path h:=by simp[AV,h1,h2]
 rw[e]
 simp -implicitDefEqProofs [h2]
 refine Aa (hC h hh) ?_
 simp -implicitDefEqProofs
 refine Ah (fun k s=>∃j x o5 o6 o7,j+k=path.length∧hB x∧GK path h=GK (path.drop j) x∧s=⟨[.sl 1 4 path.length (path.flatMap Ck),.undef,.undef,.ptr 1 0,.undef,.ptr 4 0,I j,.undef,.undef,.undef,.undef,.undef],[.var ((Cv h).map (Be 1)),.var [.nil 1,.nil 2],.free,.free,.var [.arr 8,.arr 9],o5,o6,o7,.arr 1 0 x.versions.length (ints x.versions),.arr 2 0 x.exts.length (x.exts.flatMap Bl)]⟩) ?_ (path.length) _ ⟨0,h,.free,.free,.free,by simp,hh,by simp,by simp⟩
 intro k s ⟨j,x,o5,o6,o7,hj,hx,hg,hs⟩
 subst hs
 by_cases hjn:j<path.length
 ·have hw:IntKind.i64.wrap ((j:Int)+1)=(j+1:Nat):=by rw[Ae (by omega) (by omega)];simp
  rw[AcD hjn]at hg
  simp -implicitDefEqProofs [hjn]
  refine Aa (hP path[j] x (hb.2 j hjn) hx) ?_
  have hx':=Al7 (b:=path[j]) hx
  generalize BI path[j] x=r at hg hx'
  by_cases hk:r.2=true
  ·rw[if_pos hk]at hg
   simp -implicitDefEqProofs [hk]
   refine⟨k-1,by omega,j+1,by omega,r.1,hx',?_⟩
   simp[hw,hg]
  ·rw[if_neg hk]at hg
   simp -implicitDefEqProofs [hk,hg,AL]
 ·rw[Ahe (by omega)]at hg
  simp -implicitDefEqProofs [hjn,hg]
theorem Ane (D:Dn) (hE:DL (D Gc)) (hC:JC (D Uf)) (hP:M5 (D AiR)):E8 (Body D PW):=by
 intro path h hb hh
 have hl:=hb.1
 unfold maxLen at hl
 simp -implicitDefEqProofs
 refine Aa (hE h hh) ?_
 by_cases h2:Co h=true
 rotate_left
 ·simp -implicitDefEqProofs [h2,AV,AL]
 by_cases h1:path.length≤4
 rotate_left
 ·have h1':(4:Int)<path.length:=by omega
  simp -implicitDefEqProofs [h2,h1',h1,AV,AL]
 have h1':¬(4:Int)<path.length:=by omega
 have e:AV path h=GK path h:=by simp[AV,h1,h2]
 rw[e]
 simp -implicitDefEqProofs [h2,h1']
 refine Aa (hC h hh) ?_
 simp -implicitDefEqProofs
 refine Ah (fun k s=>∃j x ok o5 o6,j+k=path.length∧hB x∧GK path h=(if ok=true then GK (path.drop j) x else(AL,false))∧(ok=false→x=AL)∧s=⟨[.sl 1 4 path.length (path.flatMap Ck),.undef,.undef,.ptr 1 0,.undef,.ptr 4 0,B ok,I j,.undef,.undef],[.var ((Cv h).map (Be 1)),.var [.nil 1,.nil 2],.free,.free,.var [.arr 7,.arr 8],o5,o6,.arr 1 0 x.versions.length (ints x.versions),.arr 2 0 x.exts.length (x.exts.flatMap Bl)]⟩) ?_ (path.length) _ ⟨0,h,true,.free,.free,by simp,hh,by simp,by simp,by simp⟩
 intro k s ⟨j,x,ok,o5,o6,hj,hx,hg,hno,hs⟩
 subst hs
 by_cases hok:ok=true
 rotate_left
 ·rw[if_neg hok]at hg
  have hok':ok=false:=by simpa using hok
  have hno':=hno hok'
  subst hok'
  subst hno'
  by_cases hjn:j<path.length
  ·simp -implicitDefEqProofs [hjn,hg,AL]
  ·simp -implicitDefEqProofs [hjn,hg,AL]
 rw[if_pos hok]at hg
 subst hok
 by_cases hjn:j<path.length
 ·have hw:IntKind.i64.wrap ((j:Int)+1)=(j+1:Nat):=by rw[Ae (by omega) (by omega)];simp
  rw[AcD hjn]at hg
  simp -implicitDefEqProofs [hjn]
  refine Aa (hP path[j] x (hb.2 j hjn) hx) ?_
  have hx':=Al7 (b:=path[j]) hx
  have hno':=Aql (b:=path[j]) (h:=x)
  generalize BI path[j] x=r at hg hx' hno'
  simp -implicitDefEqProofs
  refine⟨k-1,by omega,j+1,by omega,r.1,hx',?_⟩
  simp[hw,hg,hno']
  by_cases hr:r.2=true
  ·right;exact⟨fun h=>by simp[hr]at h,hr⟩
  ·left;exact⟨fun h=>absurd h hr,hno' (by simpa using hr),by simpa using hr⟩
 ·rw[Ahe (by omega)]at hg
  simp -implicitDefEqProofs [hjn,hg]
def AzS (b:Fx):Bool:=decide (b.limit=0)&&(decide (b.drops.length=0)&&(decide (b.strips.length=0)&& !b.lists))
def Aov (path:List Fx):Bool:=decide (path.length≤4)&&path.all AzS
theorem Z0 {α:Type} {p:α→Bool} {xs:List α} {j:Nat} (h:j<xs.length) (hp:p xs[j]=false):xs.all p=false:=List.all_eq_false.2 ⟨_,List.getElem_mem h,by simp[hp]⟩
theorem AgI {α:Type} {p:α→Bool} {xs:List α} {j:Nat} (h:j<xs.length):(xs.take (j+1)).all p=((xs.take j).all p&&p xs[j]):=by
 have e:xs.take (j+1)=xs.take j++ [xs[j]]:=by simp
 rw[e,List.all_append];simp
theorem AkP {α:Type} {p:α→Bool} {xs:List α} {j:Nat} (h:xs.length≤j):(xs.take j).all p=xs.all p:=by rw[List.take_of_length_le h]
abbrev FC (R:Rel):Prop:=∀xs:List Int,xs.length≤4194304→R [.sl 1 1 xs.length (ints xs)] [] (.agg (Cv ⟨xs,[]⟩)) []
theorem Aiq (D:Dn):FC (Body D Ma):=by
 intro xs h
 have h1:xs.length*8≤1099511627776:=by omega
 simp -implicitDefEqProofs [h1]
theorem AiG (D:Dn):FC (Body D LU):=by
 intro xs h
 have h1:xs.length*8≤1099511627776:=by omega
 simp -implicitDefEqProofs [h1]
def isOpen (path:List Fx) (vs:List Int):Bool:=Bc vs&&(AV path ⟨vs.take 1,[]⟩).2
abbrev F4 (R:Rel):Prop:=∀(path:List Fx) (vs:List Int),lnS GY path→vs.length≤4194304→R [.sl 1 4 path.length (path.flatMap Ck),.sl 1 1 vs.length (ints vs)] [] (B (isOpen path vs)) []
theorem Ah7 (D:Dn) (hA:Cg (D F3)) (hH:FC (D RN)) (hP:E8 (D K8)):F4 (Body D MC):=by
 intro path vs hb hv
 simp -implicitDefEqProofs
 refine Aa (hA vs (by unfold maxLen;omega)) ?_
 by_cases h1:Bc vs=true
 rotate_left
 ·simp -implicitDefEqProofs [h1,isOpen]
 have hpos:=Vo h1
 have h1l:(1:Int)≤vs.length:=by omega
 have h1n:1≤vs.length:=by omega
 have hlen:(vs.take 1).length=1:=by simp;omega
 have hmin:min 1 vs.length=1:=by omega
 simp -implicitDefEqProofs [h1,h1l,h1n]
 have hh:=hH (vs.take 1) (by omega)
 rw[hlen]at hh
 refine Aa (hh) ?_
 simp -implicitDefEqProofs [hmin]
 have hp:=hP path ⟨vs.take 1,[]⟩ hb ⟨by simp;omega,Zi⟩
 simp -implicitDefEqProofs [hmin]at hp
 refine Aa (hp) ?_
 simp -implicitDefEqProofs [isOpen,h1]
theorem AhW (D:Dn) (hA:Cg (D FZ)) (hH:FC (D RZ)) (hP:E8 (D KW)):F4 (Body D LK):=by
 intro path vs hb hv
 simp -implicitDefEqProofs
 refine Aa (hA vs (by unfold maxLen;omega)) ?_
 by_cases h1:Bc vs=true
 rotate_left
 ·simp -implicitDefEqProofs [h1,isOpen]
 have hpos:=Vo h1
 have h1l:(1:Int)≤vs.length:=by omega
 have h1n:1≤vs.length:=by omega
 have hlen:(vs.take 1).length=1:=by simp;omega
 have hmin:min 1 vs.length=1:=by omega
 simp -implicitDefEqProofs [h1,h1l,h1n]
 have hh:=hH (vs.take 1) (by omega)
 rw[hlen]at hh
 refine Aa (hh) ?_
 simp -implicitDefEqProofs [hmin]
 have hp:=hP path ⟨vs.take 1,[]⟩ hb ⟨by simp;omega,Zi⟩
 simp -implicitDefEqProofs [hmin]at hp
 refine Aa (hp) ?_
 simp -implicitDefEqProofs [isOpen,h1]
def Jq (path:List Fx) (v:Int):Bool:= !(AV path ⟨[v],[]⟩).2
def Bd (path:List Fx) (vs:List Int):List Int:=if Bc vs=true then vs.filter (Jq path)else []
abbrev FH (R:Rel):Prop:=∀(path:List Fx) (vs:List Int),lnS GY path→vs.length≤4194304→R [.sl 1 4 path.length (path.flatMap Ck),.sl 1 1 vs.length (ints vs)] [] (.sl 0 1 (Bd path vs).length (ints (Bd path vs))) []
theorem AqS (path:List Fx) (v:Int):isOpen path [v]= !Jq path v:=by
 unfold isOpen Jq
 by_cases h:Bc [v]=true
 ·simp[h]
 ·have:AV path ⟨[v],[]⟩=(AL,false):=by
   unfold AV Co
   have h':Bc [v]=false:=by simpa using h
   simp[h']
  simp[h,this]
theorem Adx (D:Dn) (hA:Cg (D F3)) (hO:F4 (D RO)):FH (Body D J5):=by
 intro path vs hb hv
 by_cases h1:Bc vs=true
 rotate_left
 ·have e:Bd path vs=[]:=by unfold Bd;rw[if_neg h1]
  rw[e]
  simp -implicitDefEqProofs
  refine Ah (fun k s=>s=⟨[.sl 1 4 path.length (path.flatMap Ck),.sl 1 1 vs.length (ints vs),.undef,.arr 3,I 0,.undef,.undef],[.free,.free,.free,.arr 1 0 0 (ints [])]⟩) ?_ 0 _ (by simp)
  intro k s hs
  subst hs
  by_cases h0:0<vs.length
  ·simp -implicitDefEqProofs [h0]
   refine Aa (hA vs (by unfold maxLen;omega)) ?_
   simp -implicitDefEqProofs [h1]
  ·simp -implicitDefEqProofs [h0]
 have e:Bd path vs=vs.filter (Jq path):=by unfold Bd;rw[if_pos h1]
 rw[e]
 simp -implicitDefEqProofs
 refine Ah (fun k s=>∃j o1 o2,j+k=vs.length∧s=⟨[.sl 1 4 path.length (path.flatMap Ck),.sl 1 1 vs.length (ints vs),.undef,.arr 3,I j,.undef,.undef],[.free,o1,o2,.arr 1 0 ((vs.take j).filter (Jq path)).length (ints ((vs.take j).filter (Jq path)))]⟩) ?_ (vs.length) _ ⟨0,.free,.free,by simp,by simp⟩
 intro k s ⟨j,o1,o2,hj,hs⟩
 subst hs
 by_cases hjn:j<vs.length
 ·have hw:IntKind.i64.wrap ((j:Int)+1)=(j+1:Nat):=by rw[Ae (by omega) (by omega)];simp
  have hst:=Ka (p:=Jq path) hjn
  have hfl:=Ng (p:=Jq path) (xs:=vs) (j:=j)
  have hb1:(((vs.take j).filter (Jq path)).length+1)*8≤1099511627776:=by omega
  have hw1:IntKind.i64.wrap ((j:Int)+1)=(j:Int)+1:=Ae (by omega) (by omega)
  have hj1:j+1≤vs.length:=by omega
  have hj2:(j:Int)+1≤vs.length:=by omega
  have hdt:(vs.drop j).take 1=[vs[j]]:=by rw[List.drop_eq_getElem_cons hjn];rfl
  simp -implicitDefEqProofs [hjn]
  refine Aa (hA vs (by unfold maxLen;omega)) ?_
  have hjj:(j:Int)≤(j:Int)+1:=by omega
  have h11:j+1-j=1:=by omega
  simp -implicitDefEqProofs [h1,hw1,hj1,hj2,hdt,hjn,hjj,h11]
  refine Aa (hO path [vs[j]] hb (by simp)) ?_
  rw[AqS]
  by_cases h2:Jq path vs[j]=true
  ·rw[if_pos h2]at hst
   simp -implicitDefEqProofs [h2,hjn,hb1]
   exact⟨k-1,by omega,j+1,by omega,by simp[hw],by rw[hst];simp,by rw[hst]⟩
  ·rw[if_neg h2,List.append_nil]at hst
   simp -implicitDefEqProofs [h2]
   exact⟨k-1,by omega,j+1,by omega,by simp[hw],by rw[hst],by rw[hst]⟩
 ·have e2:=Ky (p:=Jq path) (xs:=vs) (j:=j) (by omega)
  simp -implicitDefEqProofs [hjn,e2]
theorem Ac9 (D:Dn) (hA:Cg (D FZ)) (hH:FC (D RZ)) (hP:E8 (D KW)):FH (Body D JL):=by
 intro path vs hb hv
 simp -implicitDefEqProofs
 refine Aa (hA vs (by unfold maxLen;omega)) ?_
 by_cases h1:Bc vs=true
 rotate_left
 ·have e:Bd path vs=[]:=by unfold Bd;rw[if_neg h1]
  rw[e]
  simp -implicitDefEqProofs [h1]
 have e:Bd path vs=vs.filter (Jq path):=by unfold Bd;rw[if_pos h1]
 rw[e]
 simp -implicitDefEqProofs [h1]
 refine Ah (fun k s=>∃j v4 o1 o2 o3 o4 o5 o6 o7 o8,j+k=vs.length∧s=⟨[.sl 1 4 path.length (path.flatMap Ck),.undef,.undef,.arr 9,v4,.undef,.undef,.sl 1 1 vs.length (ints vs),I vs.length,I j,.undef,.undef],[.free,o1,o2,o3,o4,o5,o6,o7,o8,.arr 1 0 ((vs.take j).filter (Jq path)).length (ints ((vs.take j).filter (Jq path)))]⟩) ?_ (vs.length) _ ⟨0,.undef,.free,.free,.free,.free,.free,.free,.free,.free,by simp,by simp⟩
 intro k s ⟨j,v4,o1,o2,o3,o4,o5,o6,o7,o8,hj,hs⟩
 subst hs
 by_cases hjn:j<vs.length
 ·have hw:IntKind.i64.wrap ((j:Int)+1)=(j+1:Nat):=by rw[Ae (by omega) (by omega)];simp
  have hst:=Ka (p:=Jq path) hjn
  have hfl:=Ng (p:=Jq path) (xs:=vs) (j:=j)
  have hb1:(((vs.take j).filter (Jq path)).length+1)*8≤1099511627776:=by omega
  simp -implicitDefEqProofs [hjn]
  refine Aa (hH [vs[j]] (by simp)) ?_
  simp -implicitDefEqProofs
  refine Aa (hP path ⟨[vs[j]],[]⟩ hb ⟨by simp,Zi⟩) ?_
  have hq:Jq path vs[j]= !(AV path ⟨[vs[j]],[]⟩).2:=rfl
  generalize AV path ⟨[vs[j]],[]⟩=r at hq
  by_cases h2:r.2=true
  ·have h3:¬Jq path vs[j]=true:=by rw[hq,h2];simp
   rw[if_neg h3,List.append_nil]at hst
   simp -implicitDefEqProofs [h2]
   exact⟨k-1,by omega,j+1,by omega,by simp[hw],by rw[hst],by rw[hst]⟩
  ·have h3:Jq path vs[j]=true:=by rw[hq];simpa using h2
   rw[if_pos h3]at hst
   simp -implicitDefEqProofs [h2,hb1]
   exact⟨k-1,by omega,j+1,by omega,by simp[hw],by rw[hst];simp,by rw[hst]⟩
 ·have e2:=Ky (p:=Jq path) (xs:=vs) (j:=j) (by omega)
  simp -implicitDefEqProofs [hjn,e2]
end Go.Eng.T
namespace Go.Eng.T
set_option maxRecDepth 20000
def Ad3 {α:Type} (p:α→Bool):List α→Nat→List Int
 | [],_=> []
 | x::r,i=>if p x then(i:Int)::Ad3 p r (i+1)else Ad3 p r (i+1)
theorem Aoh {α:Type} {p:α→Bool} (b:List α):∀(a:List α) (i:Nat),Ad3 p (a++b) i=Ad3 p a i++Ad3 p b (i+a.length)
 | [],i=>by simp[Ad3]
 | x::r,i=>by
  have:=Aoh (p:=p) b r (i+1)
  simp only[List.cons_append,Ad3,this,List.length_cons]
  rw[show i+1+r.length=i+(r.length+1)by omega]
  by_cases h:p x=true<;>simp[h]
theorem Avp {α:Type} {p:α→Bool}:∀(xs:List α) (i:Nat),(Ad3 p xs i).length≤xs.length
 | [],_=>by simp[Ad3]
 | x::r,i=>by
  have:=Avp (p:=p) r (i+1)
  by_cases h:p x=true
  ·simp[Ad3,h];omega
  ·simp[Ad3,h];omega
end Go.Eng.T
namespace Go.Eng.T
set_option maxRecDepth 20000
set_option maxHeartbeats 1000000
def Pp (xs:List (List Int)):List V:=xs.map fun l=> .sl 0 1 l.length (ints l)
@[simp high] theorem AB5 (xs:List (List Int)):(Pp xs).length=xs.length:=by simp[Pp]
@[simp] theorem ABY:Pp []=[]:=rfl
@[simp] theorem ACD (xs:List (List Int)):(Pp xs).map (Be 0)=Pp xs:=by simp[Pp,Function.comp_def,Be]
@[simp high] theorem ACw {xs:List (List Int)} {j:Nat} (h:j<xs.length):(Pp xs)[j]? =some (V.sl 0 1 xs[j].length (ints xs[j])):=by simp[Pp,h]
def KI (xs:List (List Int)):Nat:=Bq List.length xs
theorem AeX {xs:List (List Int)} {j:Nat} (h:j<xs.length):xs[j].length≤KI xs:=size_at (f:=List.length) h
theorem UA {xs:List (List Int)}:xs.length≤KI xs:=H7
abbrev Kh (ls:List (List Int)):V:= .sl 1 1 ls.length (Pp ls)
def ADj (s:List Int) (v:Int) (l:List Int):Bool:=decide (0<CX s l)&&decide (CX (Axn s v) l=0)
def ACQ (s:List Int) (ls:List (List Int)) (v:Int):List Int:=Ad3 (ADj s v) ls 0
end Go.Eng.T
namespace Go.Eng.T
set_option maxRecDepth 20000
set_option maxHeartbeats 1000000
def leftOf (a b:List Int):List Int:=a.filter fun v=> !decide (v∈b)
abbrev Ub (R:Rel):Prop:=∀a b:List Int,a.length≤4194304→b.length≤4194304→R [.sl 1 1 a.length (ints a),.sl 1 1 b.length (ints b)] [] (.sl 0 1 (leftOf a b).length (ints (leftOf a b))) []
theorem Asi (D:Dn) (hH:Tk (D Kg)):Ub (Body D QN):=by
 intro a b ha hb
 have hres:leftOf a b=a.filter (fun v=> !decide (v∈b)):=rfl
 rw[hres]
 simp -implicitDefEqProofs
 refine Ah (fun k s=>∃j o1 o2,j+k=a.length∧s=⟨[.sl 1 1 a.length (ints a),.sl 1 1 b.length (ints b),.undef,.arr 3,I j,.undef,.undef],[.free,o1,o2,.arr 1 0 ((a.take j).filter (fun v=> !decide (v∈b))).length (ints ((a.take j).filter (fun v=> !decide (v∈b))))]⟩) ?_ (a.length) _ ⟨0,.free,.free,by simp,by simp⟩
 intro k s ⟨j,o1,o2,hj,hs⟩
 subst hs
 by_cases hjn:j<a.length
 ·have hw:IntKind.i64.wrap ((j:Int)+1)=(j+1:Nat):=by rw[Ae (by omega) (by omega)];simp
  have hst:=Ka (p:=fun v=> !decide (v∈b)) hjn
  have hln:=Ng (p:=fun v=> !decide (v∈b)) (xs:=a) (j:=j)
  have hbd:(((a.take j).filter (fun v=> !decide (v∈b))).length+1)*8≤1099511627776:=by omega
  simp -implicitDefEqProofs [hjn]
  refine Aa (hH b _ (by unfold maxLen;omega)) ?_
  by_cases h1:a[j]∈b
  ·rw[if_neg (by simp[h1]),List.append_nil]at hst
   simp -implicitDefEqProofs [h1,hjn,hbd]
   exact⟨k-1,by omega,j+1,by omega,by simp[hw],by rw[hst],by rw[hst]⟩
  ·rw[if_pos (by simp[h1])]at hst
   simp -implicitDefEqProofs [h1,hjn,hbd]
   exact⟨k-1,by omega,j+1,by omega,by simp[hw],by rw[hst];simp,by rw[hst]⟩
 ·have hx:=Ky (p:=fun v=> !decide (v∈b)) (xs:=a) (j:=j) (by omega)
  simp -implicitDefEqProofs [hjn,hx]
theorem AqF (D:Dn) (hH:Tk (D BB)):Ub (Body D Rm):=by
 intro a b ha hb
 have hres:leftOf a b=a.filter (fun v=> !decide (v∈b)):=rfl
 rw[hres]
 simp -implicitDefEqProofs
 refine Ah (fun k s=>∃j v4 o1 o2,j+k=a.length∧s=⟨[.undef,.sl 1 1 b.length (ints b),.undef,.arr 3,v4,.sl 1 1 a.length (ints a),I a.length,I j,.undef,.undef],[.free,o1,o2,.arr 1 0 ((a.take j).filter (fun v=> !decide (v∈b))).length (ints ((a.take j).filter (fun v=> !decide (v∈b))))]⟩) ?_ (a.length) _ ⟨0,.undef,.free,.free,by simp,by simp⟩
 intro k s ⟨j,v4,o1,o2,hj,hs⟩
 subst hs
 by_cases hjn:j<a.length
 ·have hw:IntKind.i64.wrap ((j:Int)+1)=(j+1:Nat):=by rw[Ae (by omega) (by omega)];simp
  have hst:=Ka (p:=fun v=> !decide (v∈b)) hjn
  have hln:=Ng (p:=fun v=> !decide (v∈b)) (xs:=a) (j:=j)
  have hbd:(((a.take j).filter (fun v=> !decide (v∈b))).length+1)*8≤1099511627776:=by omega
  simp -implicitDefEqProofs [hjn]
  refine Aa (hH b _ (by unfold maxLen;omega)) ?_
  by_cases h1:a[j]∈b
  ·rw[if_neg (by simp[h1]),List.append_nil]at hst
   simp -implicitDefEqProofs [h1,hjn,hbd]
   exact⟨k-1,by omega,j+1,by omega,by simp[hw],by rw[hst],by rw[hst]⟩
  ·rw[if_pos (by simp[h1])]at hst
   simp -implicitDefEqProofs [h1,hjn,hbd]
   exact⟨k-1,by omega,j+1,by omega,by simp[hw],by rw[hst];simp,by rw[hst]⟩
 ·have hx:=Ky (p:=fun v=> !decide (v∈b)) (xs:=a) (j:=j) (by omega)
  simp -implicitDefEqProofs [hjn,hx]
def upTo (xs:List Int) (i:Nat):Bool:=decide (i=0)||decide (xs.getD (i-1) 0<xs.getD i 0)
def LB (xs:List Int):Bool:=Qp (upTo xs) xs.length&&allIn xs 0 255
abbrev Aao (R:Rel):Prop:=∀xs:List Int,xs.length≤maxLen→R [.sl 1 1 xs.length (ints xs)] [] (B (LB xs)) []
theorem Anb {xs:List Int} {j:Nat} (h:j<xs.length) (hn:¬InR xs[j] 0 255):LB xs=false:=by unfold LB;rw[AnF h hn];simp
theorem AcR {xs:List Int} {j:Nat} (h:j<xs.length) (hn:upTo xs j=false):LB xs=false:=by unfold LB;rw[AoK h hn];simp
theorem Akg (xs:List Int):upTo xs 0=true:=by simp[upTo]
theorem AeT {xs:List Int} {j:Nat} (h0:¬j=0) (h:j<xs.length) (h':j-1<xs.length):upTo xs j=decide (xs[j-1]<xs[j]):=by
 unfold upTo
 rw[Vj h,Vj h']
 simp[h0]
theorem AqR (D:Dn) (hN:Ie (D IE)):Aao (Body D Q5):=by
 intro xs hl
 have hl0:=hl
 unfold maxLen at hl
 simp -implicitDefEqProofs
 refine Ah (fun k s=>∃j,j+k=xs.length∧Qp (upTo xs) j=true∧s=⟨[.sl 1 1 xs.length (ints xs),.undef,.undef,.undef,.sl 1 1 xs.length (ints xs),I xs.length,I j,.undef,.undef],[]⟩) ?_ (xs.length) _ ⟨0,by simp,by simp,by simp⟩
 intro k s ⟨j,hj,hr,hs⟩
 subst hs
 by_cases hjn:j<xs.length
 ·have hw:IntKind.i64.wrap ((j:Int)+1)=(j+1:Nat):=by rw[Ae (by omega) (by omega)];simp
  have hst:=MB (upTo xs) j
  rw[hr,Bool.true_and]at hst
  by_cases h0:j=0
  ·subst h0
   simp -implicitDefEqProofs [hjn]
   exact⟨k-1,by omega,1,by omega,by rw[hst,Akg],by simpa using hw⟩
  ·have hw2:IntKind.i64.wrap ((j:Int)-1)=((j-1:Nat):Int):=by rw[Ae (by omega) (by omega)];omega
   have h2:(0:Int)<j:=by omega
   have h2':0<j:=by omega
   have h3:j-1<xs.length:=by omega
   rw[AeT h0 hjn h3]at hst
   by_cases h4:xs[j-1]<xs[j]
   ·have h4':¬xs[j]≤xs[j-1]:=by omega
    simp -implicitDefEqProofs [h2,h2',hw2,h3,hjn,h4']
    exact⟨k-1,by omega,j+1,by omega,by rw[hst];simp[h4],by simp[hw]⟩
   ·have e:=AcR hjn (by rw[AeT h0 hjn h3];simp[h4])
    have h4':xs[j]≤xs[j-1]:=by omega
    simp -implicitDefEqProofs [h2,h2',hw2,h3,hjn,h4',e]
 ·obtain rfl:j=xs.length:=by omega
  have e:LB xs=allIn xs 0 255:=by unfold LB;rw[hr];rfl
  simp -implicitDefEqProofs
  refine Aa (hN xs _ _ hl0) ?_
  simp -implicitDefEqProofs [e]
def A7 (e:AJ):Bool:=Bc e.versions&&(decide (e.tags.length≤5)&&(LB e.tags&&(!e.tags.any Av&&(decide (e.path.length≤4)&&(e.path.all GR&&decide (InR e.cls 0 5))))))
abbrev Fu (R:Rel):Prop:=∀e:AJ,GD e→R [arg (Ak e)] [] (B (A7 e)) []
theorem Ah9 (D:Dn) (hI:WS (D EA)) (hR:EW (D L9)) (hX:QV (D AcK)) (hA:Cg (D F3)):Fu (Body D Ms):=by
 intro e hl
 obtain⟨hl1,hl2,hl3⟩:=hl
 have hl4:=hl3.1
 have hl2':=hl2
 unfold Iz at hl2
 unfold maxLen at hl2 hl4
 simp -implicitDefEqProofs
 refine Ah (fun k s=>∃j,j+k=e.tags.length∧allIn (e.tags.take j) 0 255=true∧Qp (upTo e.tags) j=true∧(e.tags.take j).any Av=false∧s=⟨[.undef,.ptr 0 0,.undef,I j,.undef,.undef,.undef,.undef,.undef],[.var ((Ak e).map (Be 1))]⟩) ?_ (e.tags.length) _ ⟨0,by simp,by simp[allIn],by simp,by simp,by simp⟩
 intro k s ⟨j,hj,hp,hr,hq,hs⟩
 subst hs
 by_cases hjn:j<e.tags.length
 ·have hw:IntKind.i64.wrap ((j:Int)+1)=(j+1:Nat):=by rw[Ae (by omega) (by omega)];simp
  have hst:=MB (upTo e.tags) j
  rw[hr,Bool.true_and]at hst
  have hsq:=Ag6 (p:=Av) hjn
  rw[hq,Bool.false_or]at hsq
  simp -implicitDefEqProofs [hjn]
  refine Aa (hI _ _ _) ?_
  by_cases h1:InR e.tags[j] 0 255
  rotate_left
  ·have e0:A7 e=false:=by unfold A7;rw[Anb hjn h1];simp
   simp -implicitDefEqProofs [h1,e0]
  simp -implicitDefEqProofs [h1,hjn]
  refine Aa (hR _) ?_
  by_cases h5:Av e.tags[j]=true
  ·have e0:A7 e=false:=by unfold A7;rw[UL hjn h5];simp
   simp -implicitDefEqProofs [h5,e0]
  have h5':Av e.tags[j]=false:=by simpa using h5
  by_cases h0:j=0
  ·subst h0
   simp -implicitDefEqProofs [h1,h5']
   exact⟨k-1,by omega,1,by omega,by rw[Yy hjn,hp];simp[h1],by rw[hst,Akg],by simpa using hsq.trans h5',by simpa using hw⟩
  ·have hw2:IntKind.i64.wrap ((j:Int)-1)=((j-1:Nat):Int):=by rw[Ae (by omega) (by omega)];omega
   have h2:(0:Int)<j:=by omega
   have h2':0<j:=by omega
   have h3:j-1<e.tags.length:=by omega
   rw[AeT h0 hjn h3]at hst
   by_cases h4:e.tags[j-1]<e.tags[j]
   ·have h4':¬e.tags[j]≤e.tags[j-1]:=by omega
    simp -implicitDefEqProofs [h1,h5',h2,h2',hw2,h3,hjn,h4']
    exact⟨k-1,by omega,j+1,by omega,by rw[Yy hjn,hp];simp[h1],by rw[hst];simp[h4],by simpa using hsq.trans h5',by simp[hw]⟩
   ·have e0:A7 e=false:=by unfold A7;rw[AcR hjn (by rw[AeT h0 hjn h3];simp[h4])];simp
    have h4':e.tags[j]≤e.tags[j-1]:=by omega
    simp -implicitDefEqProofs [h1,h5',h2,h2',hw2,h3,hjn,h4',e0]
 obtain rfl:j=e.tags.length:=by omega
 have et:LB e.tags=true:=by unfold LB;rw[hr,Aki (by omega) hp];rfl
 have er:e.tags.any Av=false:=any_none (by omega) hq
 simp -implicitDefEqProofs
 refine Ah (fun k s=>∃j,j+k=e.path.length∧(e.path.take j).all GR=true∧s=⟨[.undef,.ptr 0 0,.undef,.undef,I j,.undef,.undef,.undef,.undef],[.var ((Ak e).map (Be 1))]⟩) ?_ (e.path.length) _ ⟨0,by simp,by simp,by simp⟩
 intro k s ⟨j,hj,hb,hs⟩
 subst hs
 by_cases hjn:j<e.path.length
 ·have hw:IntKind.i64.wrap ((j:Int)+1)=(j+1:Nat):=by rw[Ae (by omega) (by omega)];simp
  have hst:=AgI (p:=GR) hjn
  rw[hb,Bool.true_and]at hst
  simp -implicitDefEqProofs [hjn]
  refine Aa (hX _ (hl3.2 j hjn)) ?_
  by_cases h1:GR e.path[j]=true
  ·simp -implicitDefEqProofs [h1]
   exact⟨k-1,by omega,j+1,by omega,by simpa using hst.trans h1,by simp[hw]⟩
  ·have e0:A7 e=false:=by unfold A7;rw[Z0 hjn (by simpa using h1)];simp
   simp -implicitDefEqProofs [h1,e0]
 have eb:e.path.all GR=true:=by rw[←AkP (j:=j) (by omega),hb]
 simp -implicitDefEqProofs [hjn]
 refine Aa (hA _ hl1) ?_
 by_cases g1:Bc e.versions=true
 rotate_left
 ·simp -implicitDefEqProofs [g1,A7]
 by_cases g2:e.tags.length≤5
 rotate_left
 ·have g2':¬(e.tags.length:Int)≤5:=by omega
  simp -implicitDefEqProofs [g1,g2,g2',A7]
 have g2':(e.tags.length:Int)≤5:=by omega
 by_cases g3:e.path.length≤4
 rotate_left
 ·have g3':¬(e.path.length:Int)≤4:=by omega
  simp -implicitDefEqProofs [g1,g2,g2',g3,g3',A7]
 have g3':(e.path.length:Int)≤4:=by omega
 simp -implicitDefEqProofs [g1,g2',g3']
 refine Aa (hI _ _ _) ?_
 have ee:A7 e=decide (InR e.cls 0 5):=by unfold A7;rw[et,er,eb];simp[g1,g2,g3]
 simp -implicitDefEqProofs [ee]
abbrev OA (R:Rel):Prop:=∀b:Fx,GY b→R [arg (Ck b)] [] (B (!GR b)) []
theorem Aif (D:Dn) (hX:QV (D AcC)):OA (Body D JY):=by
 intro b hb
 simp -implicitDefEqProofs
 refine Aa (hX b hb) ?_
 simp -implicitDefEqProofs
theorem Aq5 {α:Type} (p:α→Bool) (xs:List α):(xs.any fun x=> !p x)= !xs.all p:=by rw[List.all_eq_not_any_not];simp
theorem Aia (D:Dn) (hA:Cg (D FZ)) (hT:Aao (D AhY)) (hH:M6 (D R5)) (h1:OA (D OW)) (hC:IX D (D GX)) (hI:WS (D CP)):Fu (Body D Mx):=by
 intro e hl
 obtain⟨hl1,hl2,hl3⟩:=hl
 simp -implicitDefEqProofs
 refine Aa (hA _ hl1) ?_
 by_cases g1:Bc e.versions=true
 rotate_left
 ·simp -implicitDefEqProofs [g1,A7]
 by_cases g2:e.tags.length≤5
 rotate_left
 ·have g2':¬(e.tags.length:Int)≤5:=by omega
  simp -implicitDefEqProofs [g1,g2,g2',A7]
 have g2':(e.tags.length:Int)≤5:=by omega
 simp -implicitDefEqProofs [g1,g2']
 refine Aa (hT _ hl2) ?_
 by_cases g4:LB e.tags=true
 rotate_left
 ·simp -implicitDefEqProofs [g4,A7]
 simp -implicitDefEqProofs [g4]
 refine Aa (hH _ hl2) ?_
 by_cases g5:e.tags.any Av=true
 ·have e0:A7 e=false:=by unfold A7;rw[g5];simp
  generalize e.tags.any Av=q at g5
  subst g5
  simp -implicitDefEqProofs [e0]
 have g5':e.tags.any Av=false:=by simpa using g5
 have ee:A7 e=(decide (e.path.length≤4)&&(e.path.all GR&&decide (InR e.cls 0 5))):=by unfold A7;rw[g5',g1,g4];simp[g2]
 rw[ee]
 generalize e.tags.any Av=q at g5'
 subst g5'
 by_cases g3:e.path.length≤4
 rotate_left
 ·have g3':¬(e.path.length:Int)≤4:=by omega
  simp -implicitDefEqProofs [g3,g3']
 have g3':(e.path.length:Int)≤4:=by omega
 simp -implicitDefEqProofs [g3,g3']
 refine Aa (hC e.path OW [] (fun b=> !GR b) hl3.1 FY (fun j hj=>h1 e.path[j] (hl3.2 j hj))) ?_
 rw[Aq5]
 generalize e.path.all GR=q
 by_cases g6:q=true
 rotate_left
 ·simp -implicitDefEqProofs [g6]
 simp -implicitDefEqProofs [g6]
 refine Aa (hI _ _ _) ?_
 simp -implicitDefEqProofs
theorem AAF {b:Fx} (h:Cc b≤4194304):GY b:=by
 unfold Cc at h
 exact⟨by unfold Iz maxLen;omega,by unfold Iz maxLen;omega⟩
theorem Azo {p:List Fx} (h:Bq Cc p≤4194304):lnS GY p:=
 ⟨by have:=H7 (f:=Cc) (xs:=p);unfold maxLen;omega,fun j hj=>AAF (by have:=size_at (f:=Cc) hj;omega)⟩
theorem Akv {e:AJ} (h:Ad e≤4194304):GD e:=by
 unfold Ad at h
 exact⟨by unfold Iz maxLen;omega,by unfold Iz maxLen;omega,Azo (by omega)⟩
theorem Akb {w:World} (h:Br w≤4194304) {n:Nat} (hn:n<w.ends.length):Ad w.ends[n]≤4194304:=by
 have:=size_at (f:=Ad) hn
 have:=(AbJ h).2.2.1
 omega
theorem AbW {e:AJ} (h:Ad e≤4194304):e.versions.length≤4194304:=by unfold Ad at h;omega
theorem Anx (path:List Fx) (vs:List Int):(Bd path vs).length≤vs.length:=by
 unfold Bd
 split
 ·exact List.length_filter_le _ _
 ·simp
end Go.Eng.T
namespace Go.Eng.T
set_option maxRecDepth 20000
set_option maxHeartbeats 2000000
abbrev KL (D:Dn) (R:Rel):Prop:=∀(xs:List (List Int)) (g:Nat) (caps:List V) (p:List Int→Bool),xs.length≤maxLen→LD caps→(∀(j:Nat) (h:j<xs.length),D g (.sl 1 1 xs[j].length (ints xs[j])::caps) [] (B (p xs[j])) [])→R [Kh xs,.fn g caps] [] (I (Gy p xs 0)) []
theorem Ac7 (D:Dn):KL D (Body D Ei):=by
 intro xs g caps p hl hc hp
 unfold maxLen at hl
 simp -implicitDefEqProofs
 refine Ah (fun k s=>∃j,j+k=xs.length∧Gy p xs 0=Gy p (xs.drop j) j∧s=⟨[Kh xs,.fn g caps,.undef,.undef,I xs.length,I j,.undef,.undef],[]⟩) ?_ (xs.length) _ ⟨0,by simp,by simp,by simp⟩
 intro k s ⟨j,hj,hi,hs⟩
 subst hs
 by_cases hjn:j<xs.length
 ·have hw:IntKind.i64.wrap ((j:Int)+1)=(j+1:Nat):=by rw[Ae (by omega) (by omega)];simp
  rw[RX hjn]at hi
  simp -implicitDefEqProofs [hjn,hc.1,hc.2.1]
  refine Aa (hp j hjn) ?_
  by_cases he:p xs[j]=true
  ·rw[if_pos he]at hi
   simp -implicitDefEqProofs [he,hi]
  ·rw[if_neg he]at hi
   simp -implicitDefEqProofs [he]
   exact⟨k-1,by omega,j+1,by omega,by simpa using hi,by simp[hw]⟩
 ·rw[U8 (by omega)]at hi
  simp -implicitDefEqProofs [hjn,hi]
abbrev Hq (D:Dn) (R:Rel):Prop:=∀(xs:List (List Int)) (g:Nat) (caps:List V) (p:List Int→Bool),xs.length≤maxLen→LD caps→(∀(j:Nat) (h:j<xs.length),D g (.sl 1 1 xs[j].length (ints xs[j])::caps) [] (B (p xs[j])) [])→R [Kh xs,.fn g caps] [] (B (xs.any p)) []
theorem XF (D:Dn) (hI:KL D (D KZ)):Hq D (Body D DT):=by
 intro xs g caps p hl hc hp
 simp -implicitDefEqProofs [hc.2.2]
 refine Aa (hI xs g caps p hl hc hp) ?_
 have e:decide (0≤Gy p xs 0)=xs.any p:=by rw[Bool.eq_iff_iff];simp only[decide_eq_true_eq];rw[Te (by omega)]
 simp -implicitDefEqProofs [e]
def Si (k:Int):Bool:=decide (InR k 1 2147483646)
abbrev Kk (R:Rel):Prop:=∀k:Int,R [I k] [] (B (Si k)) []
theorem AnM (D:Dn) (hI:WS (D EA)):Kk (Body D Mg):=by
 intro k
 simp -implicitDefEqProofs
 refine Aa (hI _ _ _) ?_
 simp -implicitDefEqProofs [Si]
theorem Anw (D:Dn) (hI:WS (D CP)):Kk (Body D MJ):=by
 intro k
 simp -implicitDefEqProofs
 refine Aa (hI _ _ _) ?_
 simp -implicitDefEqProofs [Si]
end Go.Eng.T
namespace Go.Eng.T
set_option maxRecDepth 20000
set_option maxHeartbeats 1000000
def I7:List Int→Int→Nat
 | [],_=>0
 | x::r,v=>if x<v then I7 r v+1 else 0
theorem ArD:∀(l:List Int) (v:Int),I7 l v≤l.length
 | [],_=>Nat.le_refl 0
 | x::r,v=>by
  have:=ArD r v
  simp only[I7,List.length_cons]
  split<;>omega
theorem Asq {l:List Int} {v:Int} {j:Nat} (h:j<l.length) (hv:¬l[j]<v):I7 (l.drop j) v=0:=by
 rw[List.drop_eq_getElem_cons h]
 simp only[I7,if_neg hv]
def Awz (l:List Int) (i:Nat) (v:Int):List Int:=l.take i++v::l.drop i
theorem Awp {l:List Int} {i:Nat} {v:Int} (h:i≤l.length):(Awz l i v).length=l.length+1:=by simp[Awz];omega
def Ajn (l:List Int) (v:Int):List Int:=if l[I7 l v]? =some v then l else Awz l (I7 l v) v
theorem AvP (l:List Int) (v:Int):(Ajn l v).length≤l.length+1:=by
 unfold Ajn
 split
 ·omega
 ·rw[Awp (ArD l v)];omega
end Go.Eng.T
namespace Go.Eng.T
set_option maxRecDepth 20000
set_option maxHeartbeats 1000000
def ACC {α:Type} (f:α→α) (xs:List α) (j:Nat):List α:=(xs.take j).map f++xs.drop j
section
variable {α:Type} {f:α→α} {xs:List α} {j:Nat}
@[simp] theorem ACq (h:j≤xs.length):(ACC f xs j).length=xs.length:=by simp[ACC];omega
end
end Go.Eng.T
namespace Go.Eng.T
end Go.Eng.T
namespace Go.Eng.T
set_option maxRecDepth 20000
set_option maxHeartbeats 2000000
def AAb {α:Type} (f:Nat→α→α) (xs:List α) (j:Nat):List α:=xs.mapIdx fun i x=>if i<j then f i x else x
section
variable {α:Type} {f:Nat→α→α} {xs:List α} {j:Nat}
@[simp] theorem ACc:(AAb f xs j).length=xs.length:=by simp[AAb]
end
def AwP (w:World) (i:Nat) (e:AJ):AJ:=if isIn w.rollout i w.ends.length=true then⟨Ajn e.versions w.rollout.version,e.tags,e.path,e.cls⟩else e
def Awj (w:World):Bool:=AjP w.rollout&& !w.rollout.off
def enter (w:World):World:=if Awj w=true then {w with ends:=w.ends.mapIdx (AwP w),stage:=[],reached:=max w.reached (w.rollout.pos+1)}else w
abbrev Ar1 (R:Rel):Prop:=∀a b:Int,R [I a,I b] [] (I (max a b)) []
abbrev Aq7 (R:Rel):Prop:=∀a b:Int,R [I a,I b] [] (I (min a b)) []
theorem ABO (D:Dn):Ar1 (Body D AbC):=by
 intro a b
 by_cases h:a<b
 ·have e:max a b=b:=by omega
  simp -implicitDefEqProofs [h,e]
 ·have e:max a b=a:=by omega
  simp -implicitDefEqProofs [h,e]
theorem ABN (D:Dn):Aq7 (Body D AbT):=by
 intro a b
 by_cases h:a<b
 ·have e:min a b=a:=by omega
  simp -implicitDefEqProofs [h,e]
  intro;omega
 ·have e:min a b=b:=by omega
  simp -implicitDefEqProofs [h,e]
  intro;omega
end Go.Eng.T
