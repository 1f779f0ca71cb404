/- Own work: part 45 of the proof of FnExactIsTogether. -/
import Derived.Test.YtdgpapmladligaaGreatP44
set_option linter.unusedSimpArgs false
set_option linter.unusedVariables false
namespace Go.Eng.T
abbrev Aem (R:Rel):Prop:=∀xs:List FH,Bn BX xs≤4194304→R [.sl 1 4 xs.length (xs.flatMap Cg)] [] (.sl 0 4 xs.length (xs.flatMap Cg)) []
theorem AvW (D:Dn) (hto:Aky (D 226)):Aem (Body D Sk):=by
 intro xs h
 have hlen:=Ic (f:=BX) (xs:=xs)
 have h1:((xs.length:Nat):Int)*64≤1099511627776:=by omega
 simp -implicitDefEqProofs [h1]
 refine Ag (fun k s=>∃j o1 o2,j+k=xs.length∧s=⟨[.sl 1 4 xs.length (xs.flatMap Cg),.undef,.arr 0,.sc (.int .i64 j),.undef],[.arr 4 0 xs.length ((mix (⟨0,[],[],false⟩:FH) xs j).flatMap Cg),o1,o2]⟩) ?_ xs.length _ ⟨0,.free,.free,by simp,by simp[UN];exact Aak (f:=Cg) (⟨0,[],[],false⟩:FH) _⟩
 intro k s ⟨j,o1,o2,hj,hs⟩
 subst hs
 by_cases hjn:j<xs.length
 ·have hw:IntKind.i64.wrap ((j:Int)+1)=(j+1:Nat):=by rw[Ad (by omega) (by omega)];simp
  have hsz:=size_at (f:=BX) hjn
  have hfit:j*4+4≤xs.length*4:=by omega
  have hjl:j≤xs.length:=by omega
  simp -implicitDefEqProofs [hjn]
  refine Aa (hto xs[j] (by omega)) ?_
  simp -implicitDefEqProofs [hjn,hfit,hjl]
  exact⟨k-1,by omega,j+1,by omega,by simp[hw],by rw[←Zp hjn]⟩
 ·have hje:mix (⟨0,[],[],false⟩:FH) xs j=xs:=ZX (by omega)
  simp -implicitDefEqProofs [hjn,hje]
abbrev Aes (R:Rel):Prop:=∀(xs:List FH) (l:Int),0≤l→l≤4194304→lnS F9 xs→R [.sl 1 4 xs.length (xs.flatMap Cg),I l] [] (I (szl (Bn BX xs) l)) []
theorem Awg (D:Dn) (hsz:AkG (D 206)):Aes (Body D TV):=by
 intro xs l h1 h2 hln
 have h3:=hln.1
 unfold maxLen at h3
 have hw:IntKind.i64.wrap (l-(xs.length:Int))=l-xs.length:=Ad (by omega) (by omega)
 by_cases h:l<(xs.length:Int)
 ·have h':l-(xs.length:Int)<0:=by omega
  have e2:szl (Bn BX xs) l= -1:=by unfold szl Bn;rw[if_pos (by omega)]
  simp -implicitDefEqProofs [hw,h',e2]
 ·have h':¬l-(xs.length:Int)<0:=by omega
  simp -implicitDefEqProofs [hw,h']
  refine Ag (fun k s=>∃j,j+k=xs.length∧((xs.take j).map BX).sum+xs.length≤l∧s=⟨[.sl 1 4 xs.length (xs.flatMap Cg),.sc (.int .i64 (l-xs.length-((((xs.take j).map BX).sum:Nat):Int))),.undef,.sc (.int .i64 j),.undef,.undef,.undef],[]⟩) ?_ xs.length _ ⟨0,by simp,by simp;omega,by simp⟩
  intro k s ⟨j,hj,hp,hs⟩
  subst hs
  by_cases hjn:j<xs.length
  ·have hw:IntKind.i64.wrap ((j:Int)+1)=(j+1:Nat):=by rw[Ad (by omega) (by omega)];simp
   have ht:=Vh (f:=BX) hjn
   have htl:=M8 (f:=BX) (xs:=xs) (j:=j+1)
   simp -implicitDefEqProofs [hjn, -List.map_take]
   refine Aa (hsz xs[j] _ (by omega) (by omega) (hln.2 j hjn)) ?_
   by_cases he:l-xs.length-((((xs.take j).map BX).sum:Nat):Int)<BX xs[j]
   ·have e1:szl (BX xs[j]) (l-xs.length-((((xs.take j).map BX).sum:Nat):Int))= -1:=by unfold szl;rw[if_pos he]
    have e2:szl (Bn BX xs) l= -1:=by unfold szl Bn;rw[if_pos (by omega)]
    simp -implicitDefEqProofs [e1,e2, -List.map_take]
   ·have e1:szl (BX xs[j]) (l-xs.length-((((xs.take j).map BX).sum:Nat):Int))=l-xs.length-((((xs.take j).map BX).sum:Nat):Int)-BX xs[j]:=by unfold szl;rw[if_neg he]
    have e3:¬l-xs.length-((((xs.take j).map BX).sum:Nat):Int)-BX xs[j]<0:=by omega
    simp -implicitDefEqProofs [e1,e3, -List.map_take]
    refine⟨k-1,by omega,j+1,by omega,by omega,?_,by simp[hw]⟩
    rw[ht];omega
  ·have hsm:=Aef (f:=BX) (xs:=xs) (j:=j) (by omega)
   have e2:szl (Bn BX xs) l=l-xs.length-((((xs.take j).map BX).sum:Nat):Int):=by unfold szl Bn;rw[if_neg (by omega)];omega
   simp -implicitDefEqProofs [hjn,e2, -List.map_take]
abbrev Qm (R:Rel):Prop:=∀(x:AQ) (l:Int),0≤l→l≤4194304→Gy x→R [arg (Aj x),I l] [] (I (szl (Ac x) l)) []
theorem AlL (D:Dn) (hszIntS:Oo (D 16)) (hszBoxS:Aes (D 139)):Qm (Body D Lu):=by
 intro x l hl1 hl2 hln
 simp only[Gy]at hln
 simp -implicitDefEqProofs
 refine Aa (hszIntS x.versions (l) (by omega) (by omega) hln.1) ?_
 by_cases g0:l<((x.versions.length:Nat):Int)
 ·have gg:l<((Ac x:Nat):Int):=by simp only[Ac];omega
  have e1:szl (x.versions.length) (l)= -1:=by unfold szl;rw[if_pos g0]
  have e2:szl (Ac x) l= -1:=by unfold szl;rw[if_pos gg]
  simp -implicitDefEqProofs [e1,e2]
 have e3:szl (x.versions.length) (l)=l-((x.versions.length:Nat):Int):=by unfold szl;rw[if_neg g0]
 have p0:¬l-((x.versions.length:Nat):Int)<0:=by omega
 simp -implicitDefEqProofs [e3,p0]
 refine Aa (hszIntS x.tags (l-((x.versions.length:Nat):Int)) (by omega) (by omega) hln.2.1) ?_
 by_cases g1:l-((x.versions.length:Nat):Int)<((x.tags.length:Nat):Int)
 ·have gg:l<((Ac x:Nat):Int):=by simp only[Ac];omega
  have e1:szl (x.tags.length) (l-((x.versions.length:Nat):Int))= -1:=by unfold szl;rw[if_pos g1]
  have e2:szl (Ac x) l= -1:=by unfold szl;rw[if_pos gg]
  simp -implicitDefEqProofs [e1,e2]
 have e4:szl (x.tags.length) (l-((x.versions.length:Nat):Int))=l-((x.versions.length:Nat):Int)-((x.tags.length:Nat):Int):=by unfold szl;rw[if_neg g1]
 have p1:¬l-((x.versions.length:Nat):Int)-((x.tags.length:Nat):Int)<0:=by omega
 simp -implicitDefEqProofs [e4,p1]
 refine Aa (hszBoxS x.path (l-((x.versions.length:Nat):Int)-((x.tags.length:Nat):Int)) (by omega) (by omega) hln.2.2) ?_
 by_cases g2:l-((x.versions.length:Nat):Int)-((x.tags.length:Nat):Int)<((Bn BX x.path:Nat):Int)
 ·have gg:l<((Ac x:Nat):Int):=by simp only[Ac];omega
  have e1:szl (Bn BX x.path) (l-((x.versions.length:Nat):Int)-((x.tags.length:Nat):Int))= -1:=by unfold szl;rw[if_pos g2]
  have e2:szl (Ac x) l= -1:=by unfold szl;rw[if_pos gg]
  simp -implicitDefEqProofs [e1,e2]
 have e5:szl (Bn BX x.path) (l-((x.versions.length:Nat):Int)-((x.tags.length:Nat):Int))=l-((x.versions.length:Nat):Int)-((x.tags.length:Nat):Int)-((Bn BX x.path:Nat):Int):=by unfold szl;rw[if_neg g2]
 have p2:¬l-((x.versions.length:Nat):Int)-((x.tags.length:Nat):Int)-((Bn BX x.path:Nat):Int)<0:=by omega
 simp -implicitDefEqProofs [e5,p2]
 have gg:¬l<((Ac x:Nat):Int):=by simp only[Ac];omega
 unfold szl;rw[if_neg gg];simp only[Ac]<;>omega
abbrev Qr (R:Rel):Prop:=∀x:AQ,Ac x≤4194304→R [arg (Aj x)] [] (.agg (Aj x)) []
theorem Akc (D:Dn) (htoIntS:OH (D 31)) (htoBoxS:Aem (D 170)):Qr (Body D LY):=by
 intro x h
 simp only[Ac]at h
 simp -implicitDefEqProofs
 refine Aa (htoIntS x.versions (by omega)) ?_
 simp -implicitDefEqProofs
 refine Aa (htoIntS x.tags (by omega)) ?_
 simp -implicitDefEqProofs
 refine Aa (htoBoxS x.path (by omega)) ?_
 simp -implicitDefEqProofs
abbrev OG (R:Rel):Prop:=∀(xs:List AQ) (l:Int),0≤l→l≤4194304→lnS Gy xs→R [.sl 1 4 xs.length (xs.flatMap Aj),I l] [] (I (szl (Bn Ac xs) l)) []
theorem AhK (D:Dn) (hsz:Qm (D 62)):OG (Body D Kk):=by
 intro xs l h1 h2 hln
 have h3:=hln.1
 unfold maxLen at h3
 have hw:IntKind.i64.wrap (l-(xs.length:Int))=l-xs.length:=Ad (by omega) (by omega)
 by_cases h:l<(xs.length:Int)
 ·have h':l-(xs.length:Int)<0:=by omega
  have e2:szl (Bn Ac xs) l= -1:=by unfold szl Bn;rw[if_pos (by omega)]
  simp -implicitDefEqProofs [hw,h',e2]
 ·have h':¬l-(xs.length:Int)<0:=by omega
  simp -implicitDefEqProofs [hw,h']
  refine Ag (fun k s=>∃j,j+k=xs.length∧((xs.take j).map Ac).sum+xs.length≤l∧s=⟨[.sl 1 4 xs.length (xs.flatMap Aj),.sc (.int .i64 (l-xs.length-((((xs.take j).map Ac).sum:Nat):Int))),.undef,.sc (.int .i64 j),.undef,.undef,.undef],[]⟩) ?_ xs.length _ ⟨0,by simp,by simp;omega,by simp⟩
  intro k s ⟨j,hj,hp,hs⟩
  subst hs
  by_cases hjn:j<xs.length
  ·have hw:IntKind.i64.wrap ((j:Int)+1)=(j+1:Nat):=by rw[Ad (by omega) (by omega)];simp
   have ht:=Vh (f:=Ac) hjn
   have htl:=M8 (f:=Ac) (xs:=xs) (j:=j+1)
   simp -implicitDefEqProofs [hjn, -List.map_take]
   refine Aa (hsz xs[j] _ (by omega) (by omega) (hln.2 j hjn)) ?_
   by_cases he:l-xs.length-((((xs.take j).map Ac).sum:Nat):Int)<Ac xs[j]
   ·have e1:szl (Ac xs[j]) (l-xs.length-((((xs.take j).map Ac).sum:Nat):Int))= -1:=by unfold szl;rw[if_pos he]
    have e2:szl (Bn Ac xs) l= -1:=by unfold szl Bn;rw[if_pos (by omega)]
    simp -implicitDefEqProofs [e1,e2, -List.map_take]
   ·have e1:szl (Ac xs[j]) (l-xs.length-((((xs.take j).map Ac).sum:Nat):Int))=l-xs.length-((((xs.take j).map Ac).sum:Nat):Int)-Ac xs[j]:=by unfold szl;rw[if_neg he]
    have e3:¬l-xs.length-((((xs.take j).map Ac).sum:Nat):Int)-Ac xs[j]<0:=by omega
    simp -implicitDefEqProofs [e1,e3, -List.map_take]
    refine⟨k-1,by omega,j+1,by omega,by omega,?_,by simp[hw]⟩
    rw[ht];omega
  ·have hsm:=Aef (f:=Ac) (xs:=xs) (j:=j) (by omega)
   have e2:szl (Bn Ac xs) l=l-xs.length-((((xs.take j).map Ac).sum:Nat):Int):=by unfold szl Bn;rw[if_neg (by omega)];omega
   simp -implicitDefEqProofs [hjn,e2, -List.map_take]
abbrev Oz (R:Rel):Prop:=∀xs:List AQ,Bn Ac xs≤4194304→R [.sl 1 4 xs.length (xs.flatMap Aj)] [] (.sl 0 4 xs.length (xs.flatMap Aj)) []
theorem Ahq (D:Dn) (hto:Qr (D 98)):Oz (Body D Kl):=by
 intro xs h
 have hlen:=Ic (f:=Ac) (xs:=xs)
 have h1:((xs.length:Nat):Int)*80≤1099511627776:=by omega
 simp -implicitDefEqProofs [h1]
 refine Ag (fun k s=>∃j o1 o2 o3,j+k=xs.length∧s=⟨[.sl 1 4 xs.length (xs.flatMap Aj),.undef,.arr 0,.sc (.int .i64 j),.undef],[.arr 4 0 xs.length ((mix (⟨[],[],[],0⟩:AQ) xs j).flatMap Aj),o1,o2,o3]⟩) ?_ xs.length _ ⟨0,.free,.free,.free,by simp,by simp[UN];exact Aak (f:=Aj) (⟨[],[],[],0⟩:AQ) _⟩
 intro k s ⟨j,o1,o2,o3,hj,hs⟩
 subst hs
 by_cases hjn:j<xs.length
 ·have hw:IntKind.i64.wrap ((j:Int)+1)=(j+1:Nat):=by rw[Ad (by omega) (by omega)];simp
  have hsz:=size_at (f:=Ac) hjn
  have hfit:j*4+4≤xs.length*4:=by omega
  have hjl:j≤xs.length:=by omega
  simp -implicitDefEqProofs [hjn]
  refine Aa (hto xs[j] (by omega)) ?_
  simp -implicitDefEqProofs [hjn,hfit,hjl]
  exact⟨k-1,by omega,j+1,by omega,by simp[hw],by rw[←Zp hjn]⟩
 ·have hje:mix (⟨[],[],[],0⟩:AQ) xs j=xs:=ZX (by omega)
  simp -implicitDefEqProofs [hjn,hje]
abbrev SA (R:Rel):Prop:=∀(x:Gz) (l:Int),0≤l→l≤4194304→VA x→R [arg (PW x),I l] [] (I (szl (Bo x) l)) []
theorem An9 (D:Dn) (hszIntS:Oo (D 16)):SA (Body D NW):=by
 intro x l hl1 hl2 hln
 simp only[VA]at hln
 simp -implicitDefEqProofs
 refine Aa (hszIntS x.stages (l) (by omega) (by omega) hln) ?_
 by_cases g0:l<((x.stages.length:Nat):Int)
 ·have gg:l<((Bo x:Nat):Int):=by simp only[Bo];omega
  have e1:szl (x.stages.length) (l)= -1:=by unfold szl;rw[if_pos g0]
  have e2:szl (Bo x) l= -1:=by unfold szl;rw[if_pos gg]
  simp -implicitDefEqProofs [e1,e2]
 have e3:szl (x.stages.length) (l)=l-((x.stages.length:Nat):Int):=by unfold szl;rw[if_neg g0]
 have p0:¬l-((x.stages.length:Nat):Int)<0:=by omega
 simp -implicitDefEqProofs [e3,p0]
 have gg:¬l<((Bo x:Nat):Int):=by simp only[Bo];omega
 unfold szl;rw[if_neg gg];simp only[Bo]<;>omega
abbrev Tm (R:Rel):Prop:=∀x:Gz,Bo x≤4194304→R [arg (PW x)] [] (.agg (PW x)) []
theorem AmY (D:Dn) (htoIntS:OH (D 31)):Tm (Body D Oc):=by
 intro x h
 simp only[Bo]at h
 simp -implicitDefEqProofs
 refine Aa (htoIntS x.stages (by omega)) ?_
 simp -implicitDefEqProofs
abbrev Tj (R:Rel):Prop:=∀x y:Gz,Bo x≤2 ^ 40→Bo y≤2 ^ 40→R [arg (PW x),arg (PW y)] [] (B (decide (x=y))) []
theorem Ame (D:Dn) (heqIntS:Fg (D 47)):Tj (Body D Nt):=by
 intro x y h1 h2
 simp only[Bo]at h1 h2
 by_cases g_version:x.version=y.version
 rotate_left
 ·have hne:x≠y:=fun h=>g_version (by rw[h])
  simp -implicitDefEqProofs [g_version,hne]
 simp -implicitDefEqProofs [g_version]
 refine Aa (heqIntS x.stages y.stages (by unfold maxLen;omega) (by unfold maxLen;omega)) ?_
 by_cases g_stages:x.stages=y.stages
 rotate_left
 ·have hne:x≠y:=fun h=>g_stages (by rw[h])
  simp -implicitDefEqProofs [g_stages,hne]
 simp -implicitDefEqProofs [g_stages]
 by_cases g_pos:x.pos=y.pos
 rotate_left
 ·have hne:x≠y:=fun h=>g_pos (by rw[h])
  simp -implicitDefEqProofs [g_pos,hne]
 simp -implicitDefEqProofs [g_pos]
 by_cases g_off:x.off=y.off
 rotate_left
 ·have hne:x≠y:=fun h=>g_off (by rw[h])
  simp -implicitDefEqProofs [g_off,hne]
 simp -implicitDefEqProofs [g_off]
 have hxy:x=y:=by cases x;cases y;simp_all
 simp -implicitDefEqProofs [hxy]
end Go.Eng.T
namespace Go.Eng.T
abbrev Aeq (R:Rel):Prop:=∀(x:AdE) (l:Int),0≤l→l≤4194304→Akh x→R [arg (Uy x),I l] [] (I (szl (Er x) l)) []
theorem AvG (D:Dn) (hszIntS:Oo (D 16)):Aeq (Body D TG):=by
 intro x l hl1 hl2 hln
 simp only[Akh]at hln
 simp -implicitDefEqProofs
 refine Aa (hszIntS x.tags (l) (by omega) (by omega) hln) ?_
 by_cases g0:l<((x.tags.length:Nat):Int)
 ·have gg:l<((Er x:Nat):Int):=by simp only[Er];omega
  have e1:szl (x.tags.length) (l)= -1:=by unfold szl;rw[if_pos g0]
  have e2:szl (Er x) l= -1:=by unfold szl;rw[if_pos gg]
  simp -implicitDefEqProofs [e1,e2]
 have e3:szl (x.tags.length) (l)=l-((x.tags.length:Nat):Int):=by unfold szl;rw[if_neg g0]
 have p0:¬l-((x.tags.length:Nat):Int)<0:=by omega
 simp -implicitDefEqProofs [e3,p0]
 have gg:¬l<((Er x:Nat):Int):=by simp only[Er];omega
 unfold szl;rw[if_neg gg];simp only[Er]<;>omega
abbrev Aek (R:Rel):Prop:=∀x:AdE,Er x≤4194304→R [arg (Uy x)] [] (.agg (Uy x)) []
theorem AvI (D:Dn) (htoIntS:OH (D 31)):Aek (Body D TU):=by
 intro x h
 simp only[Er]at h
 simp -implicitDefEqProofs
 refine Aa (htoIntS x.tags (by omega)) ?_
 simp -implicitDefEqProofs
abbrev Aew (R:Rel):Prop:=∀x y:AdE,Er x≤2 ^ 40→Er y≤2 ^ 40→R [arg (Uy x),arg (Uy y)] [] (B (decide (x=y))) []
theorem AwN (D:Dn) (heqIntS:Fg (D 47)):Aew (Body D TB):=by
 intro x y h1 h2
 simp only[Er]at h1 h2
 by_cases g_ok:x.ok=y.ok
 rotate_left
 ·have hne:x≠y:=fun h=>g_ok (by rw[h])
  simp -implicitDefEqProofs [g_ok,hne]
 simp -implicitDefEqProofs [g_ok]
 by_cases g_version:x.version=y.version
 rotate_left
 ·have hne:x≠y:=fun h=>g_version (by rw[h])
  simp -implicitDefEqProofs [g_version,hne]
 simp -implicitDefEqProofs [g_version]
 refine Aa (heqIntS x.tags y.tags (by unfold maxLen;omega) (by unfold maxLen;omega)) ?_
 by_cases g_tags:x.tags=y.tags
 rotate_left
 ·have hne:x≠y:=fun h=>g_tags (by rw[h])
  simp -implicitDefEqProofs [g_tags,hne]
 simp -implicitDefEqProofs [g_tags]
 have hxy:x=y:=by cases x;cases y;simp_all
 simp -implicitDefEqProofs [hxy]
abbrev RJ (R:Rel):Prop:=∀(x:Ct) (l:Int),0≤l→l≤4194304→MX x→R [arg (AP x),I l] [] (I (szl (Ai x) l)) []
theorem Ap9 (D:Dn) (hszDeal:Aeq (D 140)) (hszIntS:Oo (D 16)):RJ (Body D PI):=by
 intro x l hl1 hl2 hln
 simp only[MX]at hln
 simp -implicitDefEqProofs
 refine Aa (hszDeal x.deal (l) (by omega) (by omega) hln.1) ?_
 by_cases g0:l<((Er x.deal:Nat):Int)
 ·have gg:l<((Ai x:Nat):Int):=by simp only[Ai];omega
  have e1:szl (Er x.deal) (l)= -1:=by unfold szl;rw[if_pos g0]
  have e2:szl (Ai x) l= -1:=by unfold szl;rw[if_pos gg]
  simp -implicitDefEqProofs [e1,e2]
 have e3:szl (Er x.deal) (l)=l-((Er x.deal:Nat):Int):=by unfold szl;rw[if_neg g0]
 have p0:¬l-((Er x.deal:Nat):Int)<0:=by omega
 simp -implicitDefEqProofs [e3,p0]
 refine Aa (hszIntS x.up (l-((Er x.deal:Nat):Int)) (by omega) (by omega) hln.2) ?_
 by_cases g1:l-((Er x.deal:Nat):Int)<((x.up.length:Nat):Int)
 ·have gg:l<((Ai x:Nat):Int):=by simp only[Ai];omega
  have e1:szl (x.up.length) (l-((Er x.deal:Nat):Int))= -1:=by unfold szl;rw[if_pos g1]
  have e2:szl (Ai x) l= -1:=by unfold szl;rw[if_pos gg]
  simp -implicitDefEqProofs [e1,e2]
 have e4:szl (x.up.length) (l-((Er x.deal:Nat):Int))=l-((Er x.deal:Nat):Int)-((x.up.length:Nat):Int):=by unfold szl;rw[if_neg g1]
 have p1:¬l-((Er x.deal:Nat):Int)-((x.up.length:Nat):Int)<0:=by omega
 simp -implicitDefEqProofs [e4,p1]
 have gg:¬l<((Ai x:Nat):Int):=by simp only[Ai];omega
 unfold szl;rw[if_neg gg];simp only[Ai]<;>omega
abbrev RX (R:Rel):Prop:=∀x:Ct,Ai x≤4194304→R [arg (AP x)] [] (.agg (AP x)) []
theorem Aqg (D:Dn) (htoDeal:Aek (D 171)) (htoIntS:OH (D 31)):RX (Body D OV):=by
 intro x h
 simp only[Ai]at h
 simp -implicitDefEqProofs
 refine Aa (htoDeal x.deal (by omega)) ?_
 simp -implicitDefEqProofs
 refine Aa (htoIntS x.up (by omega)) ?_
 simp -implicitDefEqProofs
abbrev Rs (R:Rel):Prop:=∀x y:Ct,Ai x≤2 ^ 40→Ai y≤2 ^ 40→R [arg (AP x),arg (AP y)] [] (B (decide (x=y))) []
theorem Ap2 (D:Dn) (heqDeal:Aew (D 205)) (heqIntS:Fg (D 47)):Rs (Body D PV):=by
 intro x y h1 h2
 simp only[Ai]at h1 h2
 simp -implicitDefEqProofs
 refine Aa (heqDeal x.deal y.deal (by omega) (by omega)) ?_
 by_cases g_deal:x.deal=y.deal
 rotate_left
 ·have hne:x≠y:=fun h=>g_deal (by rw[h])
  simp -implicitDefEqProofs [g_deal,hne]
 simp -implicitDefEqProofs [g_deal]
 by_cases g_tries:x.tries=y.tries
 rotate_left
 ·have hne:x≠y:=fun h=>g_tries (by rw[h])
  simp -implicitDefEqProofs [g_tries,hne]
 simp -implicitDefEqProofs [g_tries]
 refine Aa (heqIntS x.up y.up (by unfold maxLen;omega) (by unfold maxLen;omega)) ?_
 by_cases g_up:x.up=y.up
 rotate_left
 ·have hne:x≠y:=fun h=>g_up (by rw[h])
  simp -implicitDefEqProofs [g_up,hne]
 simp -implicitDefEqProofs [g_up]
 have hxy:x=y:=by cases x;cases y;simp_all
 simp -implicitDefEqProofs [hxy]
end Go.Eng.T
namespace Go.Eng.T
abbrev TN (R:Rel):Prop:=∀(xs:List Ct) (l:Int),0≤l→l≤4194304→lnS MX xs→R [.sl 1 5 xs.length (xs.flatMap AP),I l] [] (I (szl (Bn Ai xs) l)) []
theorem AnN (D:Dn) (hsz:RJ (D 63)):TN (Body D NJ):=by
 intro xs l h1 h2 hln
 have h3:=hln.1
 unfold maxLen at h3
 have hw:IntKind.i64.wrap (l-(xs.length:Int))=l-xs.length:=Ad (by omega) (by omega)
 by_cases h:l<(xs.length:Int)
 ·have h':l-(xs.length:Int)<0:=by omega
  have e2:szl (Bn Ai xs) l= -1:=by unfold szl Bn;rw[if_pos (by omega)]
  simp -implicitDefEqProofs [hw,h',e2]
 ·have h':¬l-(xs.length:Int)<0:=by omega
  simp -implicitDefEqProofs [hw,h']
  refine Ag (fun k s=>∃j,j+k=xs.length∧((xs.take j).map Ai).sum+xs.length≤l∧s=⟨[.sl 1 5 xs.length (xs.flatMap AP),.sc (.int .i64 (l-xs.length-((((xs.take j).map Ai).sum:Nat):Int))),.undef,.sc (.int .i64 j),.undef,.undef,.undef],[]⟩) ?_ xs.length _ ⟨0,by simp,by simp;omega,by simp⟩
  intro k s ⟨j,hj,hp,hs⟩
  subst hs
  by_cases hjn:j<xs.length
  ·have hw:IntKind.i64.wrap ((j:Int)+1)=(j+1:Nat):=by rw[Ad (by omega) (by omega)];simp
   have ht:=Vh (f:=Ai) hjn
   have htl:=M8 (f:=Ai) (xs:=xs) (j:=j+1)
   simp -implicitDefEqProofs [hjn, -List.map_take]
   refine Aa (hsz xs[j] _ (by omega) (by omega) (hln.2 j hjn)) ?_
   by_cases he:l-xs.length-((((xs.take j).map Ai).sum:Nat):Int)<Ai xs[j]
   ·have e1:szl (Ai xs[j]) (l-xs.length-((((xs.take j).map Ai).sum:Nat):Int))= -1:=by unfold szl;rw[if_pos he]
    have e2:szl (Bn Ai xs) l= -1:=by unfold szl Bn;rw[if_pos (by omega)]
    simp -implicitDefEqProofs [e1,e2, -List.map_take]
   ·have e1:szl (Ai xs[j]) (l-xs.length-((((xs.take j).map Ai).sum:Nat):Int))=l-xs.length-((((xs.take j).map Ai).sum:Nat):Int)-Ai xs[j]:=by unfold szl;rw[if_neg he]
    have e3:¬l-xs.length-((((xs.take j).map Ai).sum:Nat):Int)-Ai xs[j]<0:=by omega
    simp -implicitDefEqProofs [e1,e3, -List.map_take]
    refine⟨k-1,by omega,j+1,by omega,by omega,?_,by simp[hw]⟩
    rw[ht];omega
  ·have hsm:=Aef (f:=Ai) (xs:=xs) (j:=j) (by omega)
   have e2:szl (Bn Ai xs) l=l-xs.length-((((xs.take j).map Ai).sum:Nat):Int):=by unfold szl Bn;rw[if_neg (by omega)];omega
   simp -implicitDefEqProofs [hjn,e2, -List.map_take]
abbrev Tq (R:Rel):Prop:=∀xs:List Ct,Bn Ai xs≤4194304→R [.sl 1 5 xs.length (xs.flatMap AP)] [] (.sl 0 5 xs.length (xs.flatMap AP)) []
theorem AnO (D:Dn) (hto:RX (D 99)):Tq (Body D NR):=by
 intro xs h
 have hlen:=Ic (f:=Ai) (xs:=xs)
 have h1:((xs.length:Nat):Int)*72≤1099511627776:=by omega
 simp -implicitDefEqProofs [h1]
 refine Ag (fun k s=>∃j o1 o2,j+k=xs.length∧s=⟨[.sl 1 5 xs.length (xs.flatMap AP),.undef,.arr 0,.sc (.int .i64 j),.undef],[.arr 5 0 xs.length ((mix (⟨⟨false,0,[]⟩,0,[]⟩:Ct) xs j).flatMap AP),o1,o2]⟩) ?_ xs.length _ ⟨0,.free,.free,by simp,by simp[UN];exact Aak (f:=AP) (⟨⟨false,0,[]⟩,0,[]⟩:Ct) _⟩
 intro k s ⟨j,o1,o2,hj,hs⟩
 subst hs
 by_cases hjn:j<xs.length
 ·have hw:IntKind.i64.wrap ((j:Int)+1)=(j+1:Nat):=by rw[Ad (by omega) (by omega)];simp
  have hsz:=size_at (f:=Ai) hjn
  have hfit:j*5+5≤xs.length*5:=by omega
  have hjl:j≤xs.length:=by omega
  simp -implicitDefEqProofs [hjn]
  refine Aa (hto xs[j] (by omega)) ?_
  simp -implicitDefEqProofs [hjn,hfit,hjl]
  exact⟨k-1,by omega,j+1,by omega,by simp[hw],by rw[←Zp hjn]⟩
 ·have hje:mix (⟨⟨false,0,[]⟩,0,[]⟩:Ct) xs j=xs:=ZX (by omega)
  simp -implicitDefEqProofs [hjn,hje]
abbrev Sj (R:Rel):Prop:=∀xs ys:List Ct,Bn Ai xs≤2 ^ 40→Bn Ai ys≤2 ^ 40→R [.sl 1 5 xs.length (xs.flatMap AP),.sl 1 5 ys.length (ys.flatMap AP)] [] (B (decide (xs=ys))) []
theorem AmJ (D:Dn) (heq:Rs (D 135)):Sj (Body D Np):=by
 intro xs ys h1 h2
 have hlen:=Ic (f:=Ai) (xs:=xs)
 by_cases hl:xs.length=ys.length
 ·have hl':(xs.length:Int)=ys.length:=by omega
  simp -implicitDefEqProofs [hl']
  refine Ag (fun k s=>∃j,j+k=xs.length∧xs.take j=ys.take j∧s=⟨[.sl 1 5 xs.length (xs.flatMap AP),.sl 1 5 ys.length (ys.flatMap AP),.undef,.sc (.int .i64 j),.undef,.undef,.undef],[]⟩) ?_ xs.length _ ⟨0,by simp,by simp,by simp⟩
  intro k s ⟨j,hj,hp,hs⟩
  subst hs
  by_cases hjn:j<xs.length
  ·have hw:IntKind.i64.wrap ((j:Int)+1)=(j+1:Nat):=by rw[Ad (by omega) (by omega)];simp
   have hy:j<ys.length:=by omega
   have hsx:=size_at (f:=Ai) hjn
   have hsy:=size_at (f:=Ai) hy
   simp -implicitDefEqProofs [hjn,hy]
   refine Aa (heq xs[j] ys[j] (by omega) (by omega)) ?_
   by_cases he:xs[j]=ys[j]
   ·simp -implicitDefEqProofs [he]
    exact⟨k-1,by omega,j+1,by omega,IA hjn hy hp he,by simp[hw]⟩
   ·have hne:xs≠ys:=fun h=>he (by simp[h])
    simp -implicitDefEqProofs [he,hne]
  ·obtain rfl:xs=ys:=La (by omega) hl hp
   simp -implicitDefEqProofs [hjn]
 ·have hl':¬(xs.length:Int)=ys.length:=by omega
  have:xs≠ys:=fun h=>hl (by rw[h])
  simp -implicitDefEqProofs [hl',this]
abbrev VH (R:Rel):Prop:=∀(x:Cv) (l:Int),0≤l→l≤4194304→PD x→R [arg (Ar x),I l] [] (I (szl (Az x) l)) []
theorem Aqa (D:Dn) (hszDialed:RJ (D 63)):VH (Body D Pm):=by
 intro x l hl1 hl2 hln
 simp only[PD]at hln
 simp -implicitDefEqProofs
 refine Aa (hszDialed x.dialed (l) (by omega) (by omega) hln) ?_
 by_cases g0:l<((Ai x.dialed:Nat):Int)
 ·have gg:l<((Az x:Nat):Int):=by simp only[Az];omega
  have e1:szl (Ai x.dialed) (l)= -1:=by unfold szl;rw[if_pos g0]
  have e2:szl (Az x) l= -1:=by unfold szl;rw[if_pos gg]
  simp -implicitDefEqProofs [e1,e2]
 have e3:szl (Ai x.dialed) (l)=l-((Ai x.dialed:Nat):Int):=by unfold szl;rw[if_neg g0]
 have p0:¬l-((Ai x.dialed:Nat):Int)<0:=by omega
 simp -implicitDefEqProofs [e3,p0]
 have gg:¬l<((Az x:Nat):Int):=by simp only[Az];omega
 unfold szl;rw[if_neg gg];simp only[Az]<;>omega
abbrev VK (R:Rel):Prop:=∀x:Cv,Az x≤4194304→R [arg (Ar x)] [] (.agg (Ar x)) []
theorem AoM (D:Dn) (htoDialed:RX (D 99)):VK (Body D Po):=by
 intro x h
 simp only[Az]at h
 simp -implicitDefEqProofs
 refine Aa (htoDialed x.dialed (by omega)) ?_
 simp -implicitDefEqProofs
abbrev Vy (R:Rel):Prop:=∀x y:Cv,Az x≤2 ^ 40→Az y≤2 ^ 40→R [arg (Ar x),arg (Ar y)] [] (B (decide (x=y))) []
theorem AoD (D:Dn) (heqDialed:Rs (D 135)):Vy (Body D Px):=by
 intro x y h1 h2
 simp only[Az]at h1 h2
 by_cases g_fin:x.fin=y.fin
 rotate_left
 ·have hne:x≠y:=fun h=>g_fin (by rw[h])
  simp -implicitDefEqProofs [g_fin,hne]
 simp -implicitDefEqProofs [g_fin]
 by_cases g_tick:x.tick=y.tick
 rotate_left
 ·have hne:x≠y:=fun h=>g_tick (by rw[h])
  simp -implicitDefEqProofs [g_tick,hne]
 simp -implicitDefEqProofs [g_tick]
 by_cases g_on:x.on=y.on
 rotate_left
 ·have hne:x≠y:=fun h=>g_on (by rw[h])
  simp -implicitDefEqProofs [g_on,hne]
 simp -implicitDefEqProofs [g_on]
 refine Aa (heqDialed x.dialed y.dialed (by omega) (by omega)) ?_
 by_cases g_dialed:x.dialed=y.dialed
 rotate_left
 ·have hne:x≠y:=fun h=>g_dialed (by rw[h])
  simp -implicitDefEqProofs [g_dialed,hne]
 simp -implicitDefEqProofs [g_dialed]
 have hxy:x=y:=by cases x;cases y;simp_all
 simp -implicitDefEqProofs [hxy]
abbrev TT (R:Rel):Prop:=∀(xs:List Cv) (l:Int),0≤l→l≤4194304→lnS PD xs→R [.sl 1 8 xs.length (xs.flatMap Ar),I l] [] (I (szl (Bn Az xs) l)) []
theorem Anv (D:Dn) (hsz:VH (D 64)):TT (Body D Nr):=by
 intro xs l h1 h2 hln
 have h3:=hln.1
 unfold maxLen at h3
 have hw:IntKind.i64.wrap (l-(xs.length:Int))=l-xs.length:=Ad (by omega) (by omega)
 by_cases h:l<(xs.length:Int)
 ·have h':l-(xs.length:Int)<0:=by omega
  have e2:szl (Bn Az xs) l= -1:=by unfold szl Bn;rw[if_pos (by omega)]
  simp -implicitDefEqProofs [hw,h',e2]
 ·have h':¬l-(xs.length:Int)<0:=by omega
  simp -implicitDefEqProofs [hw,h']
  refine Ag (fun k s=>∃j,j+k=xs.length∧((xs.take j).map Az).sum+xs.length≤l∧s=⟨[.sl 1 8 xs.length (xs.flatMap Ar),.sc (.int .i64 (l-xs.length-((((xs.take j).map Az).sum:Nat):Int))),.undef,.sc (.int .i64 j),.undef,.undef,.undef],[]⟩) ?_ xs.length _ ⟨0,by simp,by simp;omega,by simp⟩
  intro k s ⟨j,hj,hp,hs⟩
  subst hs
  by_cases hjn:j<xs.length
  ·have hw:IntKind.i64.wrap ((j:Int)+1)=(j+1:Nat):=by rw[Ad (by omega) (by omega)];simp
   have ht:=Vh (f:=Az) hjn
   have htl:=M8 (f:=Az) (xs:=xs) (j:=j+1)
   simp -implicitDefEqProofs [hjn, -List.map_take]
   refine Aa (hsz xs[j] _ (by omega) (by omega) (hln.2 j hjn)) ?_
   by_cases he:l-xs.length-((((xs.take j).map Az).sum:Nat):Int)<Az xs[j]
   ·have e1:szl (Az xs[j]) (l-xs.length-((((xs.take j).map Az).sum:Nat):Int))= -1:=by unfold szl;rw[if_pos he]
    have e2:szl (Bn Az xs) l= -1:=by unfold szl Bn;rw[if_pos (by omega)]
    simp -implicitDefEqProofs [e1,e2, -List.map_take]
   ·have e1:szl (Az xs[j]) (l-xs.length-((((xs.take j).map Az).sum:Nat):Int))=l-xs.length-((((xs.take j).map Az).sum:Nat):Int)-Az xs[j]:=by unfold szl;rw[if_neg he]
    have e3:¬l-xs.length-((((xs.take j).map Az).sum:Nat):Int)-Az xs[j]<0:=by omega
    simp -implicitDefEqProofs [e1,e3, -List.map_take]
    refine⟨k-1,by omega,j+1,by omega,by omega,?_,by simp[hw]⟩
    rw[ht];omega
  ·have hsm:=Aef (f:=Az) (xs:=xs) (j:=j) (by omega)
   have e2:szl (Bn Az xs) l=l-xs.length-((((xs.take j).map Az).sum:Nat):Int):=by unfold szl Bn;rw[if_neg (by omega)];omega
   simp -implicitDefEqProofs [hjn,e2, -List.map_take]
abbrev TP (R:Rel):Prop:=∀xs:List Cv,Bn Az xs≤4194304→R [.sl 1 8 xs.length (xs.flatMap Ar)] [] (.sl 0 8 xs.length (xs.flatMap Ar)) []
theorem Anb (D:Dn) (hto:VK (D 100)):TP (Body D NN):=by
 intro xs h
 have hlen:=Ic (f:=Az) (xs:=xs)
 have h1:((xs.length:Nat):Int)*96≤1099511627776:=by omega
 simp -implicitDefEqProofs [h1]
 refine Ag (fun k s=>∃j o1 o2,j+k=xs.length∧s=⟨[.sl 1 8 xs.length (xs.flatMap Ar),.undef,.arr 0,.sc (.int .i64 j),.undef],[.arr 8 0 xs.length ((mix (⟨0,0,false,⟨⟨false,0,[]⟩,0,[]⟩⟩:Cv) xs j).flatMap Ar),o1,o2]⟩) ?_ xs.length _ ⟨0,.free,.free,by simp,by simp[UN];exact Aak (f:=Ar) (⟨0,0,false,⟨⟨false,0,[]⟩,0,[]⟩⟩:Cv) _⟩
 intro k s ⟨j,o1,o2,hj,hs⟩
 subst hs
 by_cases hjn:j<xs.length
 ·have hw:IntKind.i64.wrap ((j:Int)+1)=(j+1:Nat):=by rw[Ad (by omega) (by omega)];simp
  have hsz:=size_at (f:=Az) hjn
  have hfit:j*8+8≤xs.length*8:=by omega
  have hjl:j≤xs.length:=by omega
  simp -implicitDefEqProofs [hjn]
  refine Aa (hto xs[j] (by omega)) ?_
  simp -implicitDefEqProofs [hjn,hfit,hjl]
  exact⟨k-1,by omega,j+1,by omega,by simp[hw],by rw[←Zp hjn]⟩
 ·have hje:mix (⟨0,0,false,⟨⟨false,0,[]⟩,0,[]⟩⟩:Cv) xs j=xs:=ZX (by omega)
  simp -implicitDefEqProofs [hjn,hje]
abbrev TF (R:Rel):Prop:=∀xs ys:List Cv,Bn Az xs≤2 ^ 40→Bn Az ys≤2 ^ 40→R [.sl 1 8 xs.length (xs.flatMap Ar),.sl 1 8 ys.length (ys.flatMap Ar)] [] (B (decide (xs=ys))) []
theorem AmS (D:Dn) (heq:Vy (D 136)):TF (Body D NG):=by
 intro xs ys h1 h2
 have hlen:=Ic (f:=Az) (xs:=xs)
 by_cases hl:xs.length=ys.length
 ·have hl':(xs.length:Int)=ys.length:=by omega
  simp -implicitDefEqProofs [hl']
  refine Ag (fun k s=>∃j,j+k=xs.length∧xs.take j=ys.take j∧s=⟨[.sl 1 8 xs.length (xs.flatMap Ar),.sl 1 8 ys.length (ys.flatMap Ar),.undef,.sc (.int .i64 j),.undef,.undef,.undef],[]⟩) ?_ xs.length _ ⟨0,by simp,by simp,by simp⟩
  intro k s ⟨j,hj,hp,hs⟩
  subst hs
  by_cases hjn:j<xs.length
  ·have hw:IntKind.i64.wrap ((j:Int)+1)=(j+1:Nat):=by rw[Ad (by omega) (by omega)];simp
   have hy:j<ys.length:=by omega
   have hsx:=size_at (f:=Az) hjn
   have hsy:=size_at (f:=Az) hy
   simp -implicitDefEqProofs [hjn,hy]
   refine Aa (heq xs[j] ys[j] (by omega) (by omega)) ?_
   by_cases he:xs[j]=ys[j]
   ·simp -implicitDefEqProofs [he]
    exact⟨k-1,by omega,j+1,by omega,IA hjn hy hp he,by simp[hw]⟩
   ·have hne:xs≠ys:=fun h=>he (by simp[h])
    simp -implicitDefEqProofs [he,hne]
  ·obtain rfl:xs=ys:=La (by omega) hl hp
   simp -implicitDefEqProofs [hjn]
 ·have hl':¬(xs.length:Int)=ys.length:=by omega
  have:xs≠ys:=fun h=>hl (by rw[h])
  simp -implicitDefEqProofs [hl',this]
end Go.Eng.T
namespace Go.Eng.T
set_option maxRecDepth 20000
abbrev Y6 (R:Rel):Prop:=∀(x:World) (l:Int),0≤l→l≤4194304→ZK x→R [arg (Hf x),I l] [] (I (szl (A8 x) l)) []
theorem ArS (D:Dn) (hszIntS:Oo (D 16)) (hszEndpointS:OG (D 17)) (hszRollout:SA (D 18)) (hszDialedS:TN (D 19)) (hszLoggedS:TT (D 20)):Y6 (Body D QV):=by
 intro x l hl1 hl2 hln
 simp only[ZK]at hln
 simp -implicitDefEqProofs
 refine Aa (hszIntS x.server (l) (by omega) (by omega) hln.1) ?_
 by_cases g0:l<((x.server.length:Nat):Int)
 ·have gg:l<((A8 x:Nat):Int):=by simp only[A8];omega
  have e1:szl (x.server.length) (l)= -1:=by unfold szl;rw[if_pos g0]
  have e2:szl (A8 x) l= -1:=by unfold szl;rw[if_pos gg]
  simp -implicitDefEqProofs [e1,e2]
 have e3:szl (x.server.length) (l)=l-((x.server.length:Nat):Int):=by unfold szl;rw[if_neg g0]
 have p0:¬l-((x.server.length:Nat):Int)<0:=by omega
 simp -implicitDefEqProofs [e3,p0]
 refine Aa (hszIntS x.tags (l-((x.server.length:Nat):Int)) (by omega) (by omega) hln.2.1) ?_
 by_cases g1:l-((x.server.length:Nat):Int)<((x.tags.length:Nat):Int)
 ·have gg:l<((A8 x:Nat):Int):=by simp only[A8];omega
  have e1:szl (x.tags.length) (l-((x.server.length:Nat):Int))= -1:=by unfold szl;rw[if_pos g1]
  have e2:szl (A8 x) l= -1:=by unfold szl;rw[if_pos gg]
  simp -implicitDefEqProofs [e1,e2]
 have e4:szl (x.tags.length) (l-((x.server.length:Nat):Int))=l-((x.server.length:Nat):Int)-((x.tags.length:Nat):Int):=by unfold szl;rw[if_neg g1]
 have p1:¬l-((x.server.length:Nat):Int)-((x.tags.length:Nat):Int)<0:=by omega
 simp -implicitDefEqProofs [e4,p1]
 refine Aa (hszEndpointS x.ends (l-((x.server.length:Nat):Int)-((x.tags.length:Nat):Int)) (by omega) (by omega) hln.2.2.1) ?_
 by_cases g2:l-((x.server.length:Nat):Int)-((x.tags.length:Nat):Int)<((Bn Ac x.ends:Nat):Int)
 ·have gg:l<((A8 x:Nat):Int):=by simp only[A8];omega
  have e1:szl (Bn Ac x.ends) (l-((x.server.length:Nat):Int)-((x.tags.length:Nat):Int))= -1:=by unfold szl;rw[if_pos g2]
  have e2:szl (A8 x) l= -1:=by unfold szl;rw[if_pos gg]
  simp -implicitDefEqProofs [e1,e2]
 have e5:szl (Bn Ac x.ends) (l-((x.server.length:Nat):Int)-((x.tags.length:Nat):Int))=l-((x.server.length:Nat):Int)-((x.tags.length:Nat):Int)-((Bn Ac x.ends:Nat):Int):=by unfold szl;rw[if_neg g2]
 have p2:¬l-((x.server.length:Nat):Int)-((x.tags.length:Nat):Int)-((Bn Ac x.ends:Nat):Int)<0:=by omega
 simp -implicitDefEqProofs [e5,p2]
 refine Aa (hszRollout x.rollout (l-((x.server.length:Nat):Int)-((x.tags.length:Nat):Int)-((Bn Ac x.ends:Nat):Int)) (by omega) (by omega) hln.2.2.2.1) ?_
 by_cases g3:l-((x.server.length:Nat):Int)-((x.tags.length:Nat):Int)-((Bn Ac x.ends:Nat):Int)<((Bo x.rollout:Nat):Int)
 ·have gg:l<((A8 x:Nat):Int):=by simp only[A8];omega
  have e1:szl (Bo x.rollout) (l-((x.server.length:Nat):Int)-((x.tags.length:Nat):Int)-((Bn Ac x.ends:Nat):Int))= -1:=by unfold szl;rw[if_pos g3]
  have e2:szl (A8 x) l= -1:=by unfold szl;rw[if_pos gg]
  simp -implicitDefEqProofs [e1,e2]
 have e6:szl (Bo x.rollout) (l-((x.server.length:Nat):Int)-((x.tags.length:Nat):Int)-((Bn Ac x.ends:Nat):Int))=l-((x.server.length:Nat):Int)-((x.tags.length:Nat):Int)-((Bn Ac x.ends:Nat):Int)-((Bo x.rollout:Nat):Int):=by unfold szl;rw[if_neg g3]
 have p3:¬l-((x.server.length:Nat):Int)-((x.tags.length:Nat):Int)-((Bn Ac x.ends:Nat):Int)-((Bo x.rollout:Nat):Int)<0:=by omega
 simp -implicitDefEqProofs [e6,p3]
 refine Aa (hszDialedS x.stage (l-((x.server.length:Nat):Int)-((x.tags.length:Nat):Int)-((Bn Ac x.ends:Nat):Int)-((Bo x.rollout:Nat):Int)) (by omega) (by omega) hln.2.2.2.2.1) ?_
 by_cases g4:l-((x.server.length:Nat):Int)-((x.tags.length:Nat):Int)-((Bn Ac x.ends:Nat):Int)-((Bo x.rollout:Nat):Int)<((Bn Ai x.stage:Nat):Int)
 ·have gg:l<((A8 x:Nat):Int):=by simp only[A8];omega
  have e1:szl (Bn Ai x.stage) (l-((x.server.length:Nat):Int)-((x.tags.length:Nat):Int)-((Bn Ac x.ends:Nat):Int)-((Bo x.rollout:Nat):Int))= -1:=by unfold szl;rw[if_pos g4]
  have e2:szl (A8 x) l= -1:=by unfold szl;rw[if_pos gg]
  simp -implicitDefEqProofs [e1,e2]
 have e7:szl (Bn Ai x.stage) (l-((x.server.length:Nat):Int)-((x.tags.length:Nat):Int)-((Bn Ac x.ends:Nat):Int)-((Bo x.rollout:Nat):Int))=l-((x.server.length:Nat):Int)-((x.tags.length:Nat):Int)-((Bn Ac x.ends:Nat):Int)-((Bo x.rollout:Nat):Int)-((Bn Ai x.stage:Nat):Int):=by unfold szl;rw[if_neg g4]
 have p4:¬l-((x.server.length:Nat):Int)-((x.tags.length:Nat):Int)-((Bn Ac x.ends:Nat):Int)-((Bo x.rollout:Nat):Int)-((Bn Ai x.stage:Nat):Int)<0:=by omega
 simp -implicitDefEqProofs [e7,p4]
 refine Aa (hszLoggedS x.log (l-((x.server.length:Nat):Int)-((x.tags.length:Nat):Int)-((Bn Ac x.ends:Nat):Int)-((Bo x.rollout:Nat):Int)-((Bn Ai x.stage:Nat):Int)) (by omega) (by omega) hln.2.2.2.2.2) ?_
 by_cases g5:l-((x.server.length:Nat):Int)-((x.tags.length:Nat):Int)-((Bn Ac x.ends:Nat):Int)-((Bo x.rollout:Nat):Int)-((Bn Ai x.stage:Nat):Int)<((Bn Az x.log:Nat):Int)
 ·have gg:l<((A8 x:Nat):Int):=by simp only[A8];omega
  have e1:szl (Bn Az x.log) (l-((x.server.length:Nat):Int)-((x.tags.length:Nat):Int)-((Bn Ac x.ends:Nat):Int)-((Bo x.rollout:Nat):Int)-((Bn Ai x.stage:Nat):Int))= -1:=by unfold szl;rw[if_pos g5]
  have e2:szl (A8 x) l= -1:=by unfold szl;rw[if_pos gg]
  simp -implicitDefEqProofs [e1,e2]
 have e8:szl (Bn Az x.log) (l-((x.server.length:Nat):Int)-((x.tags.length:Nat):Int)-((Bn Ac x.ends:Nat):Int)-((Bo x.rollout:Nat):Int)-((Bn Ai x.stage:Nat):Int))=l-((x.server.length:Nat):Int)-((x.tags.length:Nat):Int)-((Bn Ac x.ends:Nat):Int)-((Bo x.rollout:Nat):Int)-((Bn Ai x.stage:Nat):Int)-((Bn Az x.log:Nat):Int):=by unfold szl;rw[if_neg g5]
 have p5:¬l-((x.server.length:Nat):Int)-((x.tags.length:Nat):Int)-((Bn Ac x.ends:Nat):Int)-((Bo x.rollout:Nat):Int)-((Bn Ai x.stage:Nat):Int)-((Bn Az x.log:Nat):Int)<0:=by omega
 simp -implicitDefEqProofs [e8,p5]
 have gg:¬l<((A8 x:Nat):Int):=by simp only[A8];omega
 unfold szl;rw[if_neg gg];simp only[A8]<;>omega
abbrev Zx (R:Rel):Prop:=∀x:World,A8 x≤4194304→R [arg (Hf x)] [] (.agg (Hf x)) []
theorem As9 (D:Dn) (htoIntS:OH (D 31)) (htoEndpointS:Oz (D 32)) (htoRollout:Tm (D 33)) (htoDialedS:Tq (D 34)) (htoLoggedS:TP (D 35)):Zx (Body D Qv):=by
 intro x h
 simp only[A8]at h
 simp -implicitDefEqProofs
 refine Aa (htoIntS x.server (by omega)) ?_
 simp -implicitDefEqProofs
 refine Aa (htoIntS x.tags (by omega)) ?_
 simp -implicitDefEqProofs
 refine Aa (htoEndpointS x.ends (by omega)) ?_
 simp -implicitDefEqProofs
 refine Aa (htoRollout x.rollout (by omega)) ?_
 simp -implicitDefEqProofs
 refine Aa (htoDialedS x.stage (by omega)) ?_
 simp -implicitDefEqProofs
 refine Aa (htoLoggedS x.log (by omega)) ?_
 simp -implicitDefEqProofs
abbrev ZM (R:Rel):Prop:=∀x y:World,A8 x≤2 ^ 40→A8 y≤2 ^ 40→R [arg (Hf x),arg (Hf y)] [] (B (decide (x=y))) []
theorem ArK (D:Dn) (heqIntS:Fg (D 47)) (heqEndpointS:Oq (D 48)) (heqRollout:Tj (D 49)) (heqDialedS:Sj (D 50)) (heqLoggedS:TF (D 51)):ZM (Body D Qw):=by
 intro x y h1 h2
 simp only[A8]at h1 h2
 simp -implicitDefEqProofs
 refine Aa (heqIntS x.server y.server (by unfold maxLen;omega) (by unfold maxLen;omega)) ?_
 by_cases g_server:x.server=y.server
 rotate_left
 ·have hne:x≠y:=fun h=>g_server (by rw[h])
  simp -implicitDefEqProofs [g_server,hne]
 simp -implicitDefEqProofs [g_server]
 refine Aa (heqIntS x.tags y.tags (by unfold maxLen;omega) (by unfold maxLen;omega)) ?_
 by_cases g_tags:x.tags=y.tags
 rotate_left
 ·have hne:x≠y:=fun h=>g_tags (by rw[h])
  simp -implicitDefEqProofs [g_tags,hne]
 simp -implicitDefEqProofs [g_tags]
 by_cases g_key:x.key=y.key
 rotate_left
 ·have hne:x≠y:=fun h=>g_key (by rw[h])
  simp -implicitDefEqProofs [g_key,hne]
 simp -implicitDefEqProofs [g_key]
 refine Aa (heqEndpointS x.ends y.ends (by omega) (by omega)) ?_
 by_cases g_ends:x.ends=y.ends
 rotate_left
 ·have hne:x≠y:=fun h=>g_ends (by rw[h])
  simp -implicitDefEqProofs [g_ends,hne]
 simp -implicitDefEqProofs [g_ends]
 refine Aa (heqRollout x.rollout y.rollout (by omega) (by omega)) ?_
 by_cases g_rollout:x.rollout=y.rollout
 rotate_left
 ·have hne:x≠y:=fun h=>g_rollout (by rw[h])
  simp -implicitDefEqProofs [g_rollout,hne]
 simp -implicitDefEqProofs [g_rollout]
 by_cases g_least:x.least=y.least
 rotate_left
 ·have hne:x≠y:=fun h=>g_least (by rw[h])
  simp -implicitDefEqProofs [g_least,hne]
 simp -implicitDefEqProofs [g_least]
 by_cases g_percent:x.percent=y.percent
 rotate_left
 ·have hne:x≠y:=fun h=>g_percent (by rw[h])
  simp -implicitDefEqProofs [g_percent,hne]
 simp -implicitDefEqProofs [g_percent]
 refine Aa (heqDialedS x.stage y.stage (by omega) (by omega)) ?_
 by_cases g_stage:x.stage=y.stage
 rotate_left
 ·have hne:x≠y:=fun h=>g_stage (by rw[h])
  simp -implicitDefEqProofs [g_stage,hne]
 simp -implicitDefEqProofs [g_stage]
 refine Aa (heqLoggedS x.log y.log (by omega) (by omega)) ?_
 by_cases g_log:x.log=y.log
 rotate_left
 ·have hne:x≠y:=fun h=>g_log (by rw[h])
  simp -implicitDefEqProofs [g_log,hne]
 simp -implicitDefEqProofs [g_log]
 by_cases g_now:x.now=y.now
 rotate_left
 ·have hne:x≠y:=fun h=>g_now (by rw[h])
  simp -implicitDefEqProofs [g_now,hne]
 simp -implicitDefEqProofs [g_now]
 by_cases g_hurt:x.hurt=y.hurt
 rotate_left
 ·have hne:x≠y:=fun h=>g_hurt (by rw[h])
  simp -implicitDefEqProofs [g_hurt,hne]
 simp -implicitDefEqProofs [g_hurt]
 by_cases g_reached:x.reached=y.reached
 rotate_left
 ·have hne:x≠y:=fun h=>g_reached (by rw[h])
  simp -implicitDefEqProofs [g_reached,hne]
 simp -implicitDefEqProofs [g_reached]
 have hxy:x=y:=by cases x;cases y;simp_all
 simp -implicitDefEqProofs [hxy]
end Go.Eng.T
namespace Go.Eng.T
theorem ZH {xs:List Int} {v:Int} {j:Nat} (h:j<xs.length) (hp:v∉xs.take j) (hv:¬xs[j]=v):v∉xs.take (j+1):=by
 rw[List.take_add_one,List.getElem?_eq_getElem h]
 intro hm
 rcases List.mem_append.1 hm with hm | hm
 ·exact hp hm
 ·simp at hm;exact hv hm.symm
theorem AcB {xs:List Int} {v:Int} {j:Nat} (h:xs.length≤j) (hp:v∉xs.take j):v∉xs:=by rwa [List.take_of_length_le h]at hp
theorem An0 {xs:List Int} {v:Int} {j:Nat} (h:j<xs.length) (hv:xs[j]=v):v∈xs:=by rw[←hv];exact List.getElem_mem h
def Apo (xs:List Int) (v:Int):Int:=if v∈xs then(xs.idxOf v:Nat)else -1
theorem AvP {xs:List Int} {v:Int} {j:Nat} (h:j<xs.length) (hp:v∉xs.take j) (hv:xs[j]=v):Apo xs v=j:=by
 unfold Apo
 rw[if_pos (An0 h hv)]
 congr 1
 have e:xs=xs.take j++v::xs.drop (j+1):=by
  conv=>lhs;rw[←List.take_append_drop j xs,List.drop_eq_getElem_cons h,hv]
 rw[e,List.idxOf_append,if_neg hp]
 simp
 omega
theorem AyU {xs:List Int} {v:Int}:(0≤Apo xs v)=(v∈xs):=by
 unfold Apo
 by_cases h:v∈xs<;>simp[h]
abbrev Alz (R:Rel):Prop:=∀(xs:List Int) (v:Int),xs.length≤maxLen→R [.sl 1 1 xs.length (ints xs),I v] [] (I (Apo xs v)) []
theorem Ayb (D:Dn):Alz (Body D F4):=by
 intro xs v hl
 unfold maxLen at hl
 simp -implicitDefEqProofs
 refine Ag (fun k s=>∃j,j+k=xs.length∧v∉xs.take j∧s=⟨[.sl 1 1 xs.length (ints xs),.sc (.int .i64 v),.undef,.undef,.sc (.int .i64 xs.length),.sc (.int .i64 j),.undef,.undef],[]⟩) ?_ xs.length _ ⟨0,by simp,by simp,by simp⟩
 intro k s ⟨j,hj,hp,hs⟩
 subst hs
 by_cases hjn:j<xs.length
 ·have hw:IntKind.i64.wrap ((j:Int)+1)=(j+1:Nat):=by rw[Ad (by omega) (by omega)];simp
  by_cases he:v=xs[j]
  ·have hx:=AvP hjn hp he.symm
   simp -implicitDefEqProofs [hjn,←he,hx]
  ·simp -implicitDefEqProofs [hjn,he]
   exact⟨k-1,by omega,j+1,by omega,ZH hjn hp (fun h=>he h.symm),by simp[hw]⟩
 ·have hx:Apo xs v= -1:=by unfold Apo;rw[if_neg (AcB (by omega) hp)]
  simp -implicitDefEqProofs [hjn,hx]
abbrev SF (R:Rel):Prop:=∀(xs:List Int) (v:Int),xs.length≤maxLen→R [.sl 1 1 xs.length (ints xs),I v] [] (B (decide (v∈xs))) []
theorem AoN (D:Dn) (hI:Alz (D 389)):SF (Body D Fh):=by
 intro xs v hl
 simp -implicitDefEqProofs
 refine Aa (hI xs v hl) ?_
 simp -implicitDefEqProofs [AyU]
theorem Ayo (D:Dn):SF (Body D Uq):=by
 intro xs v hl
 unfold maxLen at hl
 simp -implicitDefEqProofs
 refine Ag (fun k s=>∃j,j+k=xs.length∧v∉xs.take j∧s=⟨[.sl 1 1 xs.length (ints xs),.sc (.int .i64 v),.undef,.sc (.int .i64 j),.undef,.undef],[]⟩) ?_ xs.length _ ⟨0,by simp,by simp,by simp⟩
 intro k s ⟨j,hj,hp,hs⟩
 subst hs
 by_cases hjn:j<xs.length
 ·have hw:IntKind.i64.wrap ((j:Int)+1)=(j+1:Nat):=by rw[Ad (by omega) (by omega)];simp
  by_cases he:xs[j]=v
  ·have hx:=An0 hjn he
   simp -implicitDefEqProofs [hjn,he,hx]
  ·simp -implicitDefEqProofs [hjn,he]
   exact⟨k-1,by omega,j+1,by omega,ZH hjn hp he,by simp[hw]⟩
 ·have hx:=AcB (by omega) hp
  simp -implicitDefEqProofs [hjn,hx]
def ACT (v:Int) (d:Ct):Bool:= !d.deal.ok||(decide (d.deal.version<v)&&decide (v∈d.up))
end Go.Eng.T
namespace Go.Eng.T
end Go.Eng.T
namespace Go.Eng.T
def nums:Nat→Int→List Int
 | 0,_=> []
 | n+1,k=>k::nums n (k+1)
@[simp] theorem Awi:∀(n:Nat) (k:Int),(nums n k).length=n
 | 0,_=>rfl
 | n+1,k=>by simp[nums,Awi n]
theorem AwA:∀(n:Nat) (k:Int) (j:Nat) (h:j<(nums n k).length),(nums n k)[j]=k+j
 | 0,k,j,h=>by simp[nums]at h
 | n+1,k,0,h=>by simp[nums]
 | n+1,k,j+1,h=>by
  simp only[nums,List.getElem_cons_succ]
  rw[AwA n (k+1) j (by simpa[nums]using h)]
  simp;omega
def mkL {α:Type} (mc:α→Nat) (mk:α→Int→α):List α→Int→List α
 | [],_=> []
 | x::r,k=>mk x k::mkL mc mk r (k+mc x)
def mcL {α:Type} (mc:α→Nat) (xs:List α):Nat:=(xs.map mc).sum
section
variable {α:Type} {mc:α→Nat} {mk:α→Int→α}
@[simp] theorem AyR:∀(xs:List α) (k:Int),(mkL mc mk xs k).length=xs.length
 | [],_=>rfl
 | x::r,k=>by simp[mkL,AyR r]
theorem Ayl:∀(xs:List α) (k:Int) (j:Nat) (h:j<xs.length),(mkL mc mk xs k)[j]'(by simpa using h)=mk xs[j] (k+(mcL mc (xs.take j):Nat))
 | [],k,j,h=>by simp at h
 | x::r,k,0,h=>by simp[mkL,mcL]
 | x::r,k,j+1,h=>by
  simp only[mkL,List.getElem_cons_succ]
  rw[Ayl r (k+mc x) j (by simpa using h)]
  simp[mcL];congr 1;omega
theorem Ao0 (ys:List α):∀(xs:List α) (k:Int),mkL mc mk (xs++ys) k=mkL mc mk xs k++mkL mc mk ys (k+(mcL mc xs:Nat))
 | [],k=>by simp[mkL,mcL]
 | x::r,k=>by
  simp only[List.cons_append,mkL,Ao0 ys r]
  simp[mcL];congr 1;omega
def mkJ (mc:α→Nat) (mk:α→Int→α) (xs:List α) (k:Int) (j:Nat):List α:=mkL mc mk (xs.take j) k++xs.drop j
@[simp] theorem ACu {xs:List α} {k:Int} {j:Nat} (h:j≤xs.length):(mkJ mc mk xs k j).length=xs.length:=by simp[mkJ];omega
end
theorem Ca {α:Type} {f:α→List V} {e:Nat} (hf:∀x,(f x).length=e) {o:Nat} (ho:o<e) {v:V} {y:α}:∀ {xs:List α} {j:Nat} (h:j<xs.length),f y=(f xs[j]).set o v→(xs.flatMap f).set (j*e+o) v=(xs.set j y).flatMap f
 | [],j,h,_=>by simp at h
 | x::xs,0,_,hy=>by
  simp only[List.flatMap_cons,List.set_cons_zero,Nat.zero_mul,Nat.zero_add]
  rw[List.set_append_left _ _ (by rw[hf];exact ho),hy]
  rfl
 | x::xs,j+1,h,hy=>by
  simp only[List.flatMap_cons,List.set_cons_succ]
  have e1:(j+1)*e+o=(f x).length+(j*e+o):=by rw[hf,Nat.add_mul];omega
  rw[e1,List.set_append_right _ _ (by omega),Nat.add_sub_cancel_left,Ca hf ho (by simpa using h) (by simpa using hy)]
@[simp high] theorem ACn {xs:List FH} {j:Nat} (h:j<xs.length) (a:Int):(xs.flatMap Cg).set (j*4) (.sc (.int .i64 a))=(xs.set j ⟨a,xs[j].drops,xs[j].strips,xs[j].lists⟩).flatMap Cg:=Ca (o:=0) Hz (by omega) h rfl
@[simp high] theorem ACD {xs:List FH} {j:Nat} (h:j<xs.length) {n:Nat} (a:List Int) (hn:n=a.length):(xs.flatMap Cg).set (j*4+1) (.sl 0 1 n (ints a))=(xs.set j ⟨xs[j].limit,a,xs[j].strips,xs[j].lists⟩).flatMap Cg:=by subst hn;exact Ca (o:=1) Hz (by omega) h rfl
@[simp high] theorem ACF {xs:List FH} {j:Nat} (h:j<xs.length) {n:Nat} (a:List Int) (hn:n=a.length):(xs.flatMap Cg).set (j*4+2) (.sl 0 1 n (ints a))=(xs.set j ⟨xs[j].limit,xs[j].drops,a,xs[j].lists⟩).flatMap Cg:=by subst hn;exact Ca (o:=2) Hz (by omega) h rfl
@[simp high] theorem ACo {xs:List FH} {j:Nat} (h:j<xs.length) (a:Bool):(xs.flatMap Cg).set (j*4+3) (.sc (.bool a))=(xs.set j ⟨xs[j].limit,xs[j].drops,xs[j].strips,a⟩).flatMap Cg:=Ca (o:=3) Hz (by omega) h rfl
@[simp high] theorem AA0 {xs:List Ct} {j:Nat} (h:j<xs.length) (a:Bool):(xs.flatMap AP).set (j*5) (.sc (.bool a))=(xs.set j ⟨⟨a,xs[j].deal.version,xs[j].deal.tags⟩,xs[j].tries,xs[j].up⟩).flatMap AP:=Ca (o:=0) Dp (by omega) h rfl
@[simp high] theorem ABc {xs:List Ct} {j:Nat} (h:j<xs.length) (a:Int):(xs.flatMap AP).set (j*5+1) (.sc (.int .i64 a))=(xs.set j ⟨⟨xs[j].deal.ok,a,xs[j].deal.tags⟩,xs[j].tries,xs[j].up⟩).flatMap AP:=Ca (o:=1) Dp (by omega) h rfl
@[simp high] theorem AAO {xs:List Ct} {j:Nat} (h:j<xs.length) {n:Nat} (a:List Int) (hn:n=a.length):(xs.flatMap AP).set (j*5+2) (.sl 0 1 n (ints a))=(xs.set j ⟨⟨xs[j].deal.ok,xs[j].deal.version,a⟩,xs[j].tries,xs[j].up⟩).flatMap AP:=by subst hn;exact Ca (o:=2) Dp (by omega) h rfl
@[simp high] theorem Az6 {xs:List Ct} {j:Nat} (h:j<xs.length) (a:Int):(xs.flatMap AP).set (j*5+3) (.sc (.int .i64 a))=(xs.set j ⟨⟨xs[j].deal.ok,xs[j].deal.version,xs[j].deal.tags⟩,a,xs[j].up⟩).flatMap AP:=Ca (o:=3) Dp (by omega) h rfl
@[simp high] theorem Az9 {xs:List Ct} {j:Nat} (h:j<xs.length) {n:Nat} (a:List Int) (hn:n=a.length):(xs.flatMap AP).set (j*5+4) (.sl 0 1 n (ints a))=(xs.set j ⟨⟨xs[j].deal.ok,xs[j].deal.version,xs[j].deal.tags⟩,xs[j].tries,a⟩).flatMap AP:=by subst hn;exact Ca (o:=4) Dp (by omega) h rfl
@[simp high] theorem AxX {xs:List AQ} {j:Nat} (h:j<xs.length) {n:Nat} (a:List Int) (hn:n=a.length):(xs.flatMap Aj).set (j*4) (.sl 0 1 n (ints a))=(xs.set j ⟨a,xs[j].tags,xs[j].path,xs[j].cls⟩).flatMap Aj:=by subst hn;exact Ca (o:=0) Dy (by omega) h rfl
@[simp high] theorem AyP {xs:List AQ} {j:Nat} (h:j<xs.length) {n:Nat} (a:List Int) (hn:n=a.length):(xs.flatMap Aj).set (j*4+1) (.sl 0 1 n (ints a))=(xs.set j ⟨xs[j].versions,a,xs[j].path,xs[j].cls⟩).flatMap Aj:=by subst hn;exact Ca (o:=1) Dy (by omega) h rfl
@[simp high] theorem Ayp {xs:List AQ} {j:Nat} (h:j<xs.length) {n:Nat} (a:List FH) (hn:n=a.length):(xs.flatMap Aj).set (j*4+2) (.sl 0 4 n (a.flatMap Cg))=(xs.set j ⟨xs[j].versions,xs[j].tags,a,xs[j].cls⟩).flatMap Aj:=by subst hn;exact Ca (o:=2) Dy (by omega) h rfl
@[simp high] theorem Azx {xs:List AQ} {j:Nat} (h:j<xs.length) (a:Int):(xs.flatMap Aj).set (j*4+3) (.sc (.int .i64 a))=(xs.set j ⟨xs[j].versions,xs[j].tags,xs[j].path,a⟩).flatMap Aj:=Ca (o:=3) Dy (by omega) h rfl
@[simp high] theorem AA2 {xs:List Cv} {j:Nat} (h:j<xs.length) (a:Int):(xs.flatMap Ar).set (j*8) (.sc (.int .i64 a))=(xs.set j ⟨a,xs[j].tick,xs[j].on,⟨⟨xs[j].dialed.deal.ok,xs[j].dialed.deal.version,xs[j].dialed.deal.tags⟩,xs[j].dialed.tries,xs[j].dialed.up⟩⟩).flatMap Ar:=Ca (o:=0) BB (by omega) h rfl
@[simp high] theorem AAm {xs:List Cv} {j:Nat} (h:j<xs.length) (a:Int):(xs.flatMap Ar).set (j*8+1) (.sc (.int .i64 a))=(xs.set j ⟨xs[j].fin,a,xs[j].on,⟨⟨xs[j].dialed.deal.ok,xs[j].dialed.deal.version,xs[j].dialed.deal.tags⟩,xs[j].dialed.tries,xs[j].dialed.up⟩⟩).flatMap Ar:=Ca (o:=1) BB (by omega) h rfl
@[simp high] theorem AAw {xs:List Cv} {j:Nat} (h:j<xs.length) (a:Bool):(xs.flatMap Ar).set (j*8+2) (.sc (.bool a))=(xs.set j ⟨xs[j].fin,xs[j].tick,a,⟨⟨xs[j].dialed.deal.ok,xs[j].dialed.deal.version,xs[j].dialed.deal.tags⟩,xs[j].dialed.tries,xs[j].dialed.up⟩⟩).flatMap Ar:=Ca (o:=2) BB (by omega) h rfl
@[simp high] theorem AAk {xs:List Cv} {j:Nat} (h:j<xs.length) (a:Bool):(xs.flatMap Ar).set (j*8+3) (.sc (.bool a))=(xs.set j ⟨xs[j].fin,xs[j].tick,xs[j].on,⟨⟨a,xs[j].dialed.deal.version,xs[j].dialed.deal.tags⟩,xs[j].dialed.tries,xs[j].dialed.up⟩⟩).flatMap Ar:=Ca (o:=3) BB (by omega) h rfl
@[simp high] theorem AAf {xs:List Cv} {j:Nat} (h:j<xs.length) (a:Int):(xs.flatMap Ar).set (j*8+4) (.sc (.int .i64 a))=(xs.set j ⟨xs[j].fin,xs[j].tick,xs[j].on,⟨⟨xs[j].dialed.deal.ok,a,xs[j].dialed.deal.tags⟩,xs[j].dialed.tries,xs[j].dialed.up⟩⟩).flatMap Ar:=Ca (o:=4) BB (by omega) h rfl
@[simp high] theorem AAs {xs:List Cv} {j:Nat} (h:j<xs.length) {n:Nat} (a:List Int) (hn:n=a.length):(xs.flatMap Ar).set (j*8+5) (.sl 0 1 n (ints a))=(xs.set j ⟨xs[j].fin,xs[j].tick,xs[j].on,⟨⟨xs[j].dialed.deal.ok,xs[j].dialed.deal.version,a⟩,xs[j].dialed.tries,xs[j].dialed.up⟩⟩).flatMap Ar:=by subst hn;exact Ca (o:=5) BB (by omega) h rfl
@[simp high] theorem AAB {xs:List Cv} {j:Nat} (h:j<xs.length) (a:Int):(xs.flatMap Ar).set (j*8+6) (.sc (.int .i64 a))=(xs.set j ⟨xs[j].fin,xs[j].tick,xs[j].on,⟨⟨xs[j].dialed.deal.ok,xs[j].dialed.deal.version,xs[j].dialed.deal.tags⟩,a,xs[j].dialed.up⟩⟩).flatMap Ar:=Ca (o:=6) BB (by omega) h rfl
@[simp high] theorem AAu {xs:List Cv} {j:Nat} (h:j<xs.length) {n:Nat} (a:List Int) (hn:n=a.length):(xs.flatMap Ar).set (j*8+7) (.sl 0 1 n (ints a))=(xs.set j ⟨xs[j].fin,xs[j].tick,xs[j].on,⟨⟨xs[j].dialed.deal.ok,xs[j].dialed.deal.version,xs[j].dialed.deal.tags⟩,xs[j].dialed.tries,a⟩⟩).flatMap Ar:=by subst hn;exact Ca (o:=7) BB (by omega) h rfl
@[simp high] theorem ABw {xs:List Event} {j:Nat} (h:j<xs.length) (a:Int):(xs.flatMap Cu).set (j*6) (.sc (.int .i64 a))=(xs.set j ⟨a,xs[j].n,⟨xs[j].box.limit,xs[j].box.drops,xs[j].box.strips,xs[j].box.lists⟩⟩).flatMap Cu:=Ca (o:=0) Di (by omega) h rfl
@[simp high] theorem ABK {xs:List Event} {j:Nat} (h:j<xs.length) (a:Int):(xs.flatMap Cu).set (j*6+1) (.sc (.int .i64 a))=(xs.set j ⟨xs[j].kind,a,⟨xs[j].box.limit,xs[j].box.drops,xs[j].box.strips,xs[j].box.lists⟩⟩).flatMap Cu:=Ca (o:=1) Di (by omega) h rfl
@[simp high] theorem ABH {xs:List Event} {j:Nat} (h:j<xs.length) (a:Int):(xs.flatMap Cu).set (j*6+2) (.sc (.int .i64 a))=(xs.set j ⟨xs[j].kind,xs[j].n,⟨a,xs[j].box.drops,xs[j].box.strips,xs[j].box.lists⟩⟩).flatMap Cu:=Ca (o:=2) Di (by omega) h rfl
@[simp high] theorem ABR {xs:List Event} {j:Nat} (h:j<xs.length) {n:Nat} (a:List Int) (hn:n=a.length):(xs.flatMap Cu).set (j*6+3) (.sl 0 1 n (ints a))=(xs.set j ⟨xs[j].kind,xs[j].n,⟨xs[j].box.limit,a,xs[j].box.strips,xs[j].box.lists⟩⟩).flatMap Cu:=by subst hn;exact Ca (o:=3) Di (by omega) h rfl
@[simp high] theorem ABE {xs:List Event} {j:Nat} (h:j<xs.length) {n:Nat} (a:List Int) (hn:n=a.length):(xs.flatMap Cu).set (j*6+4) (.sl 0 1 n (ints a))=(xs.set j ⟨xs[j].kind,xs[j].n,⟨xs[j].box.limit,xs[j].box.drops,a,xs[j].box.lists⟩⟩).flatMap Cu:=by subst hn;exact Ca (o:=4) Di (by omega) h rfl
@[simp high] theorem ABt {xs:List Event} {j:Nat} (h:j<xs.length) (a:Bool):(xs.flatMap Cu).set (j*6+5) (.sc (.bool a))=(xs.set j ⟨xs[j].kind,xs[j].n,⟨xs[j].box.limit,xs[j].box.drops,xs[j].box.strips,a⟩⟩).flatMap Cu:=Ca (o:=5) Di (by omega) h rfl
end Go.Eng.T
namespace Go.Eng.T
theorem A7 {y:Ty} {ys:List Ty} {cs:List V} (h:Vq (y::ys) cs):∃a b,Dat y a∧Vq ys b∧cs=a++b:=by simp only[Vq]at h;exact h
theorem OY {cs:List V} (h:Vq [] cs):cs=[]:=by simp only[Vq]at h;exact h
theorem Yq {ys:List Ty} {cs:List V} (h:Dat (.st ys) cs):Vq ys cs:=by simp only[Dat]at h;exact h
def rgI (n:Int):Prop:= -9223372036854775808≤n∧n≤9223372036854775807
theorem rg_of {n:Int} (h:(Lit.int .i64 n).wf=true):rgI n:=by
 simp only[Lit.wf,IntKind.min,IntKind.max,IntKind.bits,IntKind.signed,Bool.and_eq_true,decide_eq_true_eq]at h
 exact⟨h.1,h.2⟩
theorem Ya {cs:List V} (h:Dat (.int .i64) cs):∃n,cs=[.sc (.int .i64 n)]∧rgI n:=by
 simp only[Dat]at h
 obtain⟨n,h1,h2⟩:=h
 exact⟨n,h2,rg_of h1⟩
theorem AyL {cs:List V} (h:Dat .bool cs):∃b,cs=[.sc (.bool b)]:=by simp only[Dat]at h;exact h
theorem Afh {α:Type} {f:α→List V} {p:α→Prop}:∀ {xs:List (List V)},(∀x,x∈xs→∃d,x=f d∧p d)→∃ds:List α,xs=ds.map f∧∀d,d∈ds→p d
 | [],_=>⟨[],rfl,by simp⟩
 | x::xs,h=>by
  obtain⟨d,rfl,hd⟩:=h x (by simp)
  obtain⟨ds,rfl,hds⟩:=Afh (xs:=xs) fun y hy=>h y (by simp[hy])
  exact⟨d::ds,rfl,by intro y hy;rcases List.mem_cons.1 hy with rfl | hy;exact hd;exact hds y hy⟩
theorem AgC {α:Type} {y:Ty} {f:α→List V} {p:α→Prop} (hf:∀cs,Dat y cs→∃d,cs=f d∧p d) {cs:List V} (h:Dat (.sl y) cs):
 ∃ds:List α,cs=[.sl 0 y.cells ds.length (ds.flatMap f)]∧ds.length≤maxLen∧∀d,d∈ds→p d:=by
 simp only[Dat]at h
 obtain⟨xs,h1,h2,rfl⟩:=h
 obtain⟨ds,rfl,h3⟩:=Afh (f:=f) (p:=p) (xs:=xs) fun x hx=>hf x (h2 x hx)
 exact⟨ds,by simp[List.flatMap_def],by simpa using h1,h3⟩
def Q7 (xs:List Int):Prop:=∀x,x∈xs→rgI x
def rgS {α:Type} (f:α→Prop) (xs:List α):Prop:=∀x,x∈xs→f x
theorem Ou {cs:List V} (h:Dat (.sl (.int .i64)) cs):∃xs:List Int,cs=[.sl 0 1 xs.length (ints xs)]∧Ik xs∧Q7 xs:=by
 obtain⟨ds,h1,h2,h3⟩:=AgC (f:=fun n=> [V.sc (.int .i64 n)]) (p:=rgI) (fun cs h=>Ya h) h
 refine⟨ds,?_,h2,h3⟩
 have e:ds.flatMap (fun n=> [V.sc (.int .i64 n)])=ints ds:=by
  clear h1 h2 h3
  induction ds with
  | nil=>rfl
  | cons a ds ih=>rw[List.flatMap_cons,ih];rfl
 rw[h1,e]
 rfl
def Awn:Ty:= .st [.bool,.int .i64,.sl (.int .i64)]
def AuH (d:AdE):Prop:=rgI d.version∧Q7 d.tags
theorem Ax1 {cs:List V} (h:Dat Awn cs):∃x:AdE,cs=Uy x∧Akh x∧AuH x:=by
 have h0:=Yq h
 obtain⟨a0,r0,g0,h1,e0⟩:=A7 h0
 obtain⟨x0,rfl⟩:=AyL g0
 obtain⟨a1,r1,g1,h2,e1⟩:=A7 h1
 obtain⟨x1,rfl,w1⟩:=Ya g1
 obtain⟨a2,r2,g2,h3,e2⟩:=A7 h2
 obtain⟨x2,rfl,l2,w2⟩:=Ou g2
 have z:=OY h3
 subst z;subst e2;subst e1;subst e0
 exact⟨⟨x0,x1,x2⟩,rfl,l2,⟨w1,w2⟩⟩
def Avh:Ty:= .st [.int .i64,.sl (.int .i64),.sl (.int .i64),.bool]
def Arw (d:FH):Prop:=rgI d.limit∧Q7 d.drops∧Q7 d.strips
theorem AAI {cs:List V} (h:Dat Avh cs):∃x:FH,cs=Cg x∧F9 x∧Arw x:=by
 have h0:=Yq h
 obtain⟨a0,r0,g0,h1,e0⟩:=A7 h0
 obtain⟨x0,rfl,w0⟩:=Ya g0
 obtain⟨a1,r1,g1,h2,e1⟩:=A7 h1
 obtain⟨x1,rfl,l1,w1⟩:=Ou g1
 obtain⟨a2,r2,g2,h3,e2⟩:=A7 h2
 obtain⟨x2,rfl,l2,w2⟩:=Ou g2
 obtain⟨a3,r3,g3,h4,e3⟩:=A7 h3
 obtain⟨x3,rfl⟩:=AyL g3
 have z:=OY h4
 subst z;subst e3;subst e2;subst e1;subst e0
 exact⟨⟨x0,x1,x2,x3⟩,rfl,⟨l1,l2⟩,⟨w0,w1,w2⟩⟩
theorem Azj {cs:List V} (h:Dat (.sl Avh) cs):∃xs:List FH,cs=[.sl 0 4 xs.length (xs.flatMap Cg)]∧lnS F9 xs∧rgS Arw xs:=by
 obtain⟨ds,h1,h2,h3⟩:=AgC (f:=Cg) (p:=fun x=>F9 x∧Arw x) (fun cs h=>AAI h) h
 exact⟨ds,h1,⟨h2,fun j hj=>(h3 _ (List.getElem_mem hj)).1⟩,fun x hx=>(h3 x hx).2⟩
def Y4:Ty:= .st [Awn,.int .i64,.sl (.int .i64)]
def Ux (d:Ct):Prop:=AuH d.deal∧rgI d.tries∧Q7 d.up
theorem AjE {cs:List V} (h:Dat Y4 cs):∃x:Ct,cs=AP x∧MX x∧Ux x:=by
 have h0:=Yq h
 obtain⟨a0,r0,g0,h1,e0⟩:=A7 h0
 obtain⟨x0,rfl,l0,w0⟩:=Ax1 g0
 obtain⟨a1,r1,g1,h2,e1⟩:=A7 h1
 obtain⟨x1,rfl,w1⟩:=Ya g1
 obtain⟨a2,r2,g2,h3,e2⟩:=A7 h2
 obtain⟨x2,rfl,l2,w2⟩:=Ou g2
 have z:=OY h3
 subst z;subst e2;subst e1;subst e0
 exact⟨⟨x0,x1,x2⟩,rfl,⟨l0,l2⟩,⟨w0,w1,w2⟩⟩
theorem Aqb {cs:List V} (h:Dat (.sl Y4) cs):∃xs:List Ct,cs=[.sl 0 5 xs.length (xs.flatMap AP)]∧lnS MX xs∧rgS Ux xs:=by
 obtain⟨ds,h1,h2,h3⟩:=AgC (f:=AP) (p:=fun x=>MX x∧Ux x) (fun cs h=>AjE h) h
 exact⟨ds,h1,⟨h2,fun j hj=>(h3 _ (List.getElem_mem hj)).1⟩,fun x hx=>(h3 x hx).2⟩
def AjP:Ty:= .st [.int .i64,.sl (.int .i64),.int .i64,.bool]
def Ajp (d:Gz):Prop:=rgI d.version∧Q7 d.stages∧rgI d.pos
theorem Aps {cs:List V} (h:Dat AjP cs):∃x:Gz,cs=PW x∧VA x∧Ajp x:=by
 have h0:=Yq h
 obtain⟨a0,r0,g0,h1,e0⟩:=A7 h0
 obtain⟨x0,rfl,w0⟩:=Ya g0
 obtain⟨a1,r1,g1,h2,e1⟩:=A7 h1
 obtain⟨x1,rfl,l1,w1⟩:=Ou g1
 obtain⟨a2,r2,g2,h3,e2⟩:=A7 h2
 obtain⟨x2,rfl,w2⟩:=Ya g2
 obtain⟨a3,r3,g3,h4,e3⟩:=A7 h3
 obtain⟨x3,rfl⟩:=AyL g3
 have z:=OY h4
 subst z;subst e3;subst e2;subst e1;subst e0
 exact⟨⟨x0,x1,x2,x3⟩,rfl,l1,⟨w0,w1,w2⟩⟩
def WW:Ty:= .st [.sl (.int .i64),.sl (.int .i64),.sl Avh,.int .i64]
def SE (d:AQ):Prop:=Q7 d.versions∧Q7 d.tags∧rgS Arw d.path∧rgI d.cls
theorem Ani {cs:List V} (h:Dat WW cs):∃x:AQ,cs=Aj x∧Gy x∧SE x:=by
 have h0:=Yq h
 obtain⟨a0,r0,g0,h1,e0⟩:=A7 h0
 obtain⟨x0,rfl,l0,w0⟩:=Ou g0
 obtain⟨a1,r1,g1,h2,e1⟩:=A7 h1
 obtain⟨x1,rfl,l1,w1⟩:=Ou g1
 obtain⟨a2,r2,g2,h3,e2⟩:=A7 h2
 obtain⟨x2,rfl,l2,w2⟩:=Azj g2
 obtain⟨a3,r3,g3,h4,e3⟩:=A7 h3
 obtain⟨x3,rfl,w3⟩:=Ya g3
 have z:=OY h4
 subst z;subst e3;subst e2;subst e1;subst e0
 exact⟨⟨x0,x1,x2,x3⟩,rfl,⟨l0,l1,l2⟩,⟨w0,w1,w2,w3⟩⟩
theorem AjS {cs:List V} (h:Dat (.sl WW) cs):∃xs:List AQ,cs=[.sl 0 4 xs.length (xs.flatMap Aj)]∧lnS Gy xs∧rgS SE xs:=by
 obtain⟨ds,h1,h2,h3⟩:=AgC (f:=Aj) (p:=fun x=>Gy x∧SE x) (fun cs h=>Ani h) h
 exact⟨ds,h1,⟨h2,fun j hj=>(h3 _ (List.getElem_mem hj)).1⟩,fun x hx=>(h3 x hx).2⟩
def AgD:Ty:= .st [.int .i64,.int .i64,.bool,Y4]
def Aap (d:Cv):Prop:=rgI d.fin∧rgI d.tick∧Ux d.dialed
theorem Atg {cs:List V} (h:Dat AgD cs):∃x:Cv,cs=Ar x∧PD x∧Aap x:=by
 have h0:=Yq h
 obtain⟨a0,r0,g0,h1,e0⟩:=A7 h0
 obtain⟨x0,rfl,w0⟩:=Ya g0
 obtain⟨a1,r1,g1,h2,e1⟩:=A7 h1
 obtain⟨x1,rfl,w1⟩:=Ya g1
 obtain⟨a2,r2,g2,h3,e2⟩:=A7 h2
 obtain⟨x2,rfl⟩:=AyL g2
 obtain⟨a3,r3,g3,h4,e3⟩:=A7 h3
 obtain⟨x3,rfl,l3,w3⟩:=AjE g3
 have z:=OY h4
 subst z;subst e3;subst e2;subst e1;subst e0
 exact⟨⟨x0,x1,x2,x3⟩,rfl,l3,⟨w0,w1,w3⟩⟩
theorem Aqq {cs:List V} (h:Dat (.sl AgD) cs):∃xs:List Cv,cs=[.sl 0 8 xs.length (xs.flatMap Ar)]∧lnS PD xs∧rgS Aap xs:=by
 obtain⟨ds,h1,h2,h3⟩:=AgC (f:=Ar) (p:=fun x=>PD x∧Aap x) (fun cs h=>Atg h) h
 exact⟨ds,h1,⟨h2,fun j hj=>(h3 _ (List.getElem_mem hj)).1⟩,fun x hx=>(h3 x hx).2⟩
def Aeh:Ty:= .st [.sl (.int .i64),.sl (.int .i64),.int .i64,.sl WW,AjP,.int .i64,.int .i64,.sl Y4,.sl AgD,.int .i64,.int .i64,.int .i64]
def AkR (d:World):Prop:=Q7 d.server∧Q7 d.tags∧rgI d.key∧rgS SE d.ends∧Ajp d.rollout∧rgI d.least∧rgI d.percent∧rgS Ux d.stage∧rgS Aap d.log∧rgI d.now∧rgI d.hurt∧rgI d.reached
theorem Au6 {cs:List V} (h:Dat Aeh cs):∃x:World,cs=Hf x∧ZK x∧AkR x:=by
 have h0:=Yq h
 obtain⟨a0,r0,g0,h1,e0⟩:=A7 h0
 obtain⟨x0,rfl,l0,w0⟩:=Ou g0
 obtain⟨a1,r1,g1,h2,e1⟩:=A7 h1
 obtain⟨x1,rfl,l1,w1⟩:=Ou g1
 obtain⟨a2,r2,g2,h3,e2⟩:=A7 h2
 obtain⟨x2,rfl,w2⟩:=Ya g2
 obtain⟨a3,r3,g3,h4,e3⟩:=A7 h3
 obtain⟨x3,rfl,l3,w3⟩:=AjS g3
 obtain⟨a4,r4,g4,h5,e4⟩:=A7 h4
 obtain⟨x4,rfl,l4,w4⟩:=Aps g4
 obtain⟨a5,r5,g5,h6,e5⟩:=A7 h5
 obtain⟨x5,rfl,w5⟩:=Ya g5
 obtain⟨a6,r6,g6,h7,e6⟩:=A7 h6
 obtain⟨x6,rfl,w6⟩:=Ya g6
 obtain⟨a7,r7,g7,h8,e7⟩:=A7 h7
 obtain⟨x7,rfl,l7,w7⟩:=Aqb g7
 obtain⟨a8,r8,g8,h9,e8⟩:=A7 h8
 obtain⟨x8,rfl,l8,w8⟩:=Aqq g8
 obtain⟨a9,r9,g9,h10,e9⟩:=A7 h9
 obtain⟨x9,rfl,w9⟩:=Ya g9
 obtain⟨a10,r10,g10,h11,e10⟩:=A7 h10
 obtain⟨x10,rfl,w10⟩:=Ya g10
 obtain⟨a11,r11,g11,h12,e11⟩:=A7 h11
 obtain⟨x11,rfl,w11⟩:=Ya g11
 have z:=OY h12
 subst z;subst e11;subst e10;subst e9;subst e8;subst e7;subst e6;subst e5;subst e4;subst e3;subst e2;subst e1;subst e0
 exact⟨⟨x0,x1,x2,x3,x4,x5,x6,x7,x8,x9,x10,x11⟩,rfl,⟨l0,l1,l3,l4,l7,l8⟩,⟨w0,w1,w2,w3,w4,w5,w6,w7,w8,w9,w10,w11⟩⟩
theorem AuK {v:V} (h:Av4 Aeh v):∃x:World,v=arg (Hf x)∧ZK x∧AkR x:=by
 obtain⟨cs,hd,rfl⟩:=h
 obtain⟨x,rfl,w⟩:=Au6 hd
 exact⟨x,rfl,w⟩
end Go.Eng.T
namespace Go.Eng.T
theorem AAZ {n:Nat} {l:Int} (h:l<n):szl n l= -1:=by unfold szl;rw[if_pos h]
theorem Xk {n:Nat} {l:Int} (h:¬l<n):szl n l=l-n:=by unfold szl;rw[if_neg h]
theorem Lr {w:World} (h:A8 w≤4194304):w.ends.length≤4194304:=by have:=Ic (f:=Ac) (xs:=w.ends);unfold A8 at h;omega
theorem Vf (a b:Int):(a==b)=decide (a=b):=by by_cases h:a=b<;>simp[h]
end Go.Eng.T
namespace Go.Eng.T
set_option maxRecDepth 20000
abbrev Za (a b c:Int):Prop:=b≤a∧a≤c
end Go.Eng.T
namespace Go.Eng.T
set_option maxRecDepth 20000
def Gs {α:Type} (p:α→Bool):List α→Int→Int
 | [],_=> -1
 | x::r,i=>if p x then i else Gs p r (i+1)
theorem RF {α:Type} {p:α→Bool} {xs:List α} {j:Nat} (h:j<xs.length):Gs p (xs.drop j) j=if p xs[j]then(j:Int)else Gs p (xs.drop (j+1)) ((j:Int)+1):=by
 rw[List.drop_eq_getElem_cons h];rfl
theorem UD {α:Type} {p:α→Bool} {xs:List α} {j:Nat} (h:xs.length≤j):Gs p (xs.drop j) j= -1:=by rw[List.drop_eq_nil_of_le h];rfl
theorem TH {α:Type} {p:α→Bool}:∀ {xs:List α} {i:Int},0≤i→(0≤Gs p xs i)=(xs.any p=true)
 | [],i,_=>by simp[Gs]
 | x::r,i,h=>by
  by_cases hp:p x=true
  ·simp[Gs,hp,h]
  ·have:=TH (p:=p) (xs:=r) (i:=i+1) (by omega)
   simp[Gs,hp]at *
   exact this
def Lm (caps:List V):Prop:=(∀(H:Hp) (n:Nat),Iz H n (caps.map fun v=>(false,v))=some [])∧(∀(H Hr:Hp) (n:Nat),GI H Hr n (caps.map fun v=>(false,v))=some caps)∧∀H:Hp,ApW H caps=some caps
theorem ES:Lm []:=⟨fun _ _=>rfl,fun _ _ _=>rfl,fun _=>rfl⟩
theorem Xf {v:V} {r:List V} (hv:∀H,ro H v=some v) (hv2:∀H,ro2 H v=some v) (h:Lm r):Lm (v::r):=
 ⟨fun H n=>h.1 H n,fun H Hr n=>by simp only[List.map_cons,GI,hv,h.2.1],fun H=>by simp only[ApW,hv2,h.2.2]⟩
theorem AbZ {a:Int} {r:List V} (h:Lm r):Lm (.rptr 1 [.sc (.int .i64 a)] 0::r):=Xf (fun H=>by simp) (fun H=>by simp) h
abbrev Tg (D:Dn) (R:Rel):Prop:=∀(xs:List Int) (g:Nat) (caps:List V) (p:Int→Bool),xs.length≤maxLen→Lm caps→(∀x:Int,D g (I x::caps) [] (B (p x)) [])→
 R [.sl 1 1 xs.length (ints xs),.fn g caps] [] (I (Gs p xs 0)) []
theorem Am0 (D:Dn):Tg D (Body D E8):=by
 intro xs g caps p hl hc hp
 unfold maxLen at hl
 simp -implicitDefEqProofs
 refine Ag (fun k s=>∃j,j+k=xs.length∧Gs p xs 0=Gs p (xs.drop j) j∧s=⟨[.sl 1 1 xs.length (ints xs),.fn g caps,.undef,.undef,.sc (.int .i64 xs.length),.sc (.int .i64 j),.undef,.undef],[]⟩) ?_ xs.length _ ⟨0,by simp,by simp,by simp⟩
 intro k s ⟨j,hj,hi,hs⟩
 subst hs
 by_cases hjn:j<xs.length
 ·have hw:IntKind.i64.wrap ((j:Int)+1)=(j+1:Nat):=by rw[Ad (by omega) (by omega)];simp
  rw[RF hjn]at hi
  simp -implicitDefEqProofs [hjn,hc.1,hc.2.1]
  refine Aa (hp xs[j]) ?_
  by_cases he:p xs[j]=true
  ·rw[if_pos he]at hi
   simp -implicitDefEqProofs [he,hi]
  ·rw[if_neg he]at hi
   simp -implicitDefEqProofs [he]
   exact⟨k-1,by omega,j+1,by omega,by simpa using hi,by simp[hw]⟩
 ·rw[UD (by omega)]at hi
  simp -implicitDefEqProofs [hjn,hi]
abbrev Jj (D:Dn) (R:Rel):Prop:=∀(xs:List Int) (g:Nat) (caps:List V) (p:Int→Bool),xs.length≤maxLen→Lm caps→(∀x:Int,D g (I x::caps) [] (B (p x)) [])→
 R [.sl 1 1 xs.length (ints xs),.fn g caps] [] (B (xs.any p)) []
theorem AeB (D:Dn) (hI:Tg D (D NY)):Jj D (Body D Eo):=by
 intro xs g caps p hl hc hp
 simp -implicitDefEqProofs [hc.2.2]
 refine Aa (hI xs g caps p hl hc hp) ?_
 have e:decide (0≤Gs p xs 0)=xs.any p:=by rw[Bool.eq_iff_iff];simp only[decide_eq_true_eq];rw[TH (by omega)]
 simp -implicitDefEqProofs [e]
def allIn (xs:List Int) (lo hi:Int):Bool:=xs.all fun x=>decide (Za x lo hi)
abbrev H6 (R:Rel):Prop:=∀(xs:List Int) (lo hi:Int),xs.length≤maxLen→R [.sl 1 1 xs.length (ints xs),I lo,I hi] [] (B (allIn xs lo hi)) []
abbrev OC (R:Rel):Prop:=∀(x lo hi:Int),R [I x,.rptr 1 [I lo] 0,.rptr 1 [I hi] 0] [] (B (!decide (Za x lo hi))) []
theorem AiU (D:Dn) (hI:WN (D CK)):OC (Body D JN):=by
 intro x lo hi
 simp -implicitDefEqProofs
 refine Aa (hI _ _ _) ?_
 simp -implicitDefEqProofs
theorem AkK (D:Dn) (h1:OC (D Xg)) (hC:Jj D (D F7)):H6 (Body D Ms):=by
 intro xs lo hi hl
 simp -implicitDefEqProofs
 refine Aa (hC xs 266 _ (fun x=> !decide (Za x lo hi)) hl (AbZ (AbZ ES)) (fun x=>h1 x lo hi)) ?_
 have e:(xs.any fun x=> !decide (Za x lo hi))= !allIn xs lo hi:=by unfold allIn;rw[List.all_eq_not_any_not];simp
 generalize(xs.any fun x=> !decide (Za x lo hi))=b at e⊢
 subst e
 simp -implicitDefEqProofs
end Go.Eng.T
namespace Go.Eng.T
set_option maxRecDepth 20000
abbrev InQ (a b c:Int):Prop:=b≤a∧a≤c
def ABb (xs:List Int) (j:Nat):Bool:=(List.range j).all fun i=>decide (InQ (xs.getD i 0) 1 100)&&(decide (i=0)||decide (xs.getD (i-1) 0<xs.getD i 0))
def Ajm (r:Gz):Bool:=
 ABb r.stages r.stages.length&&(decide (InQ r.version 1 9)&&decide (InQ r.stages.length 1 5)&&decide (r.stages.getD (r.stages.length-1) 0=100)&&decide (InQ r.pos 0 (r.stages.length-1)))
def Aze (a b:Int):Int:=if InQ a 0 1000000000000∧InQ b 1 1000000000000 then(a+b-1).tdiv b else 0
end Go.Eng.T
namespace Go.Eng.T
set_option maxRecDepth 20000
def countIn (r:Gz) (n:Int):Int:=if Ajm r=true∧r.off=false∧InQ n 0 10000 then Aze (n*r.stages.getD r.pos.toNat 0) 100 else 0
def isIn (r:Gz) (i n:Int):Bool:=decide (0≤i)&&decide (i<n)&&decide (i<countIn r n)
abbrev Aet (R:Rel):Prop:=∀(w:World) (i:Int),w.ends.length≤4194304→R [arg (Hf w),I i] [] (B (decide (InQ i 0 ((w.ends.length:Int)-1)))) []
theorem AvS (D:Dn) (hI:WN (D CK)):Aet (Body D SN):=by
 intro w i hl
 have hw:IntKind.i64.wrap ((w.ends.length:Int)-1)=(w.ends.length:Int)-1:=Ad (by omega) (by omega)
 simp -implicitDefEqProofs [hw]
 refine Aa (hI _ _ _) ?_
 simp -implicitDefEqProofs
def Ax0 (w:World) (i:Int):Bool:=decide (InQ i 0 ((w.ends.length:Int)-1))&&isIn w.rollout i w.ends.length&&(match w.ends[i.toNat]? with | some e=>decide (w.rollout.version∈e.versions) | none=>false)
end Go.Eng.T
namespace Go.Eng.T
set_option maxRecDepth 20000
end Go.Eng.T
namespace Go.Eng.T
set_option maxRecDepth 20000
theorem RV {w:World} (h:A8 w≤4194304):w.server.length≤4194304∧w.tags.length≤4194304∧Bn Ac w.ends≤4194304∧Bn Ai w.stage≤4194304∧Bn Az w.log≤4194304:=by unfold A8 at h;omega
end Go.Eng.T
namespace Go.Eng.T
set_option maxRecDepth 20000
theorem AyM {α:Type} {f:α→Nat}:∀ {xs:List α} {j:Nat} (h:j<xs.length) (y:α),((xs.set j y).map f).sum+f xs[j]=(xs.map f).sum+f y
 | [],j,h,_=>by simp at h
 | x::r,0,h,y=>by simp;omega
 | x::r,j+1,h,y=>by
  have:=AyM (f:=f) (xs:=r) (j:=j) (by simpa using h) y
  simp at *
  omega
end Go.Eng.T
namespace Go.Eng.T
set_option maxRecDepth 20000
theorem X9 {xs:List Int} {lo hi:Int} {j:Nat} (h:j<xs.length):allIn (xs.take (j+1)) lo hi=(allIn (xs.take j) lo hi&&decide (Za xs[j] lo hi)):=by
 have e:xs.take (j+1)=xs.take j++ [xs[j]]:=by simp
 unfold allIn
 rw[e,List.all_append];simp
theorem Amc {xs:List Int} {lo hi:Int} {j:Nat} (h:j<xs.length) (hn:¬Za xs[j] lo hi):allIn xs lo hi=false:=by
 unfold allIn
 rw[List.all_eq_false]
 exact⟨xs[j],List.getElem_mem h,by simp[hn]⟩
theorem Ajv {xs:List Int} {lo hi:Int} {j:Nat} (h:xs.length≤j) (ha:allIn (xs.take j) lo hi=true):allIn xs lo hi=true:=by rwa [List.take_of_length_le h]at ha
abbrev VP (R:Rel):Prop:=∀xs:List Int,xs.length≤maxLen→R [.sl 1 1 xs.length (ints xs)] [] (B (allIn xs 0 255)) []
theorem AvT (D:Dn) (hI:WN (D EB)):VP (Body D Sr):=by
 intro xs hl
 unfold maxLen at hl
 simp -implicitDefEqProofs
 refine Ag (fun k s=>∃j,j+k=xs.length∧allIn (xs.take j) 0 255=true∧s=⟨[.sl 1 1 xs.length (ints xs),.undef,.sc (.int .i64 j),.undef,.undef],[]⟩) ?_ xs.length _ ⟨0,by simp,by simp[allIn],by simp⟩
 intro k s ⟨j,hj,hp,hs⟩
 subst hs
 by_cases hjn:j<xs.length
 ·have hw:IntKind.i64.wrap ((j:Int)+1)=(j+1:Nat):=by rw[Ad (by omega) (by omega)];simp
  simp -implicitDefEqProofs [hjn]
  refine Aa (hI _ _ _) ?_
  by_cases h1:Za xs[j] 0 255
  ·simp -implicitDefEqProofs [h1]
   exact⟨k-1,by omega,j+1,by omega,by rw[X9 hjn,hp];simp[h1],by simp[hw]⟩
  ·simp -implicitDefEqProofs [h1,Amc hjn h1]
 ·simp -implicitDefEqProofs [hjn,Ajv (by omega) hp]
def F8 (b:FH):Bool:=decide (Za b.limit 0 9)&&decide (b.drops.length≤6)&&decide (b.strips.length≤6)&&allIn b.drops 0 255&&allIn b.strips 0 255
abbrev PE (R:Rel):Prop:=∀b:FH,F9 b→R [arg (Cg b)] [] (B (F8 b)) []
theorem Awf (D:Dn) (hI:WN (D EB)) (hB:VP (D TS)):PE (Body D UO):=by
 intro b hl
 simp -implicitDefEqProofs
 refine Aa (hI _ _ _) ?_
 by_cases h1:Za b.limit 0 9
 rotate_left
 ·simp -implicitDefEqProofs [h1,F8]
 by_cases h2:b.drops.length≤6
 rotate_left
 ·have h2':¬(b.drops.length:Int)≤6:=by omega
  simp -implicitDefEqProofs [h1,h2',h2,F8]
 have h2':(b.drops.length:Int)≤6:=by omega
 by_cases h3:b.strips.length≤6
 rotate_left
 ·have h3':¬(b.strips.length:Int)≤6:=by omega
  simp -implicitDefEqProofs [h1,h2',h3',h3,F8]
 have h3':(b.strips.length:Int)≤6:=by omega
 simp -implicitDefEqProofs [h1,h2',h3']
 refine Aa (hB _ hl.1) ?_
 by_cases h4:allIn b.drops 0 255=true
 rotate_left
 ·simp -implicitDefEqProofs [h4,F8]
 simp -implicitDefEqProofs [h4]
 refine Aa (hB _ hl.2) ?_
 simp -implicitDefEqProofs [F8,h1,h2,h3,h4]
theorem Avb (D:Dn) (hI:WN (D CK)) (hB:H6 (D Iw)):PE (Body D Vb):=by
 intro b hl
 simp -implicitDefEqProofs
 refine Aa (hI _ _ _) ?_
 by_cases h1:Za b.limit 0 9
 rotate_left
 ·simp -implicitDefEqProofs [h1,F8]
 by_cases h2:b.drops.length≤6
 rotate_left
 ·have h2':¬(b.drops.length:Int)≤6:=by omega
  simp -implicitDefEqProofs [h1,h2',h2,F8]
 have h2':(b.drops.length:Int)≤6:=by omega
 by_cases h3:b.strips.length≤6
 rotate_left
 ·have h3':¬(b.strips.length:Int)≤6:=by omega
  simp -implicitDefEqProofs [h1,h2',h3',h3,F8]
 have h3':(b.strips.length:Int)≤6:=by omega
 simp -implicitDefEqProofs [h1,h2',h3']
 refine Aa (hB _ _ _ hl.1) ?_
 by_cases h4:allIn b.drops 0 255=true
 rotate_left
 ·simp -implicitDefEqProofs [h4,F8]
 simp -implicitDefEqProofs [h4]
 refine Aa (hB _ _ _ hl.2) ?_
 simp -implicitDefEqProofs [F8,h1,h2,h3,h4]
end Go.Eng.T
namespace Go.Eng.T
set_option maxRecDepth 20000
abbrev MJ (D:Dn) (R:Rel):Prop:=∀(xs:List FH) (g:Nat) (caps:List V) (p:FH→Bool),xs.length≤maxLen→Lm caps→(∀(j:Nat) (h:j<xs.length),D g (arg (Cg xs[j])::caps) [] (B (p xs[j])) [])→R [.sl 1 4 xs.length (xs.flatMap Cg),.fn g caps] [] (I (Gs p xs 0)) []
theorem AgT (D:Dn):MJ D (Body D CY):=by
 intro xs g caps p hl hc hp
 unfold maxLen at hl
 simp -implicitDefEqProofs
 refine Ag (fun k s=>∃j,j+k=xs.length∧Gs p xs 0=Gs p (xs.drop j) j∧s=⟨[.sl 1 4 xs.length (xs.flatMap Cg),.fn g caps,.undef,.undef,.sc (.int .i64 xs.length),.sc (.int .i64 j),.undef,.undef],[]⟩) ?_ xs.length _ ⟨0,by simp,by simp,by simp⟩
 intro k s ⟨j,hj,hi,hs⟩
 subst hs
 by_cases hjn:j<xs.length
 ·have hw:IntKind.i64.wrap ((j:Int)+1)=(j+1:Nat):=by rw[Ad (by omega) (by omega)];simp
  rw[RF hjn]at hi
  simp -implicitDefEqProofs [hjn,hc.1,hc.2.1]
  refine Aa (hp j hjn) ?_
  by_cases he:p xs[j]=true
  ·rw[if_pos he]at hi
   simp -implicitDefEqProofs [he,hi]
  ·rw[if_neg he]at hi
   simp -implicitDefEqProofs [he]
   exact⟨k-1,by omega,j+1,by omega,by simpa using hi,by simp[hw]⟩
 ·rw[UD (by omega)]at hi
  simp -implicitDefEqProofs [hjn,hi]
abbrev Gi (D:Dn) (R:Rel):Prop:=∀(xs:List FH) (g:Nat) (caps:List V) (p:FH→Bool),xs.length≤maxLen→Lm caps→(∀(j:Nat) (h:j<xs.length),D g (arg (Cg xs[j])::caps) [] (B (p xs[j])) [])→R [.sl 1 4 xs.length (xs.flatMap Cg),.fn g caps] [] (B (xs.any p)) []
theorem ZN (D:Dn) (hI:MJ D (D Ib)):Gi D (Body D Cy):=by
 intro xs g caps p hl hc hp
 simp -implicitDefEqProofs [hc.2.2]
 refine Aa (hI xs g caps p hl hc hp) ?_
 have e:decide (0≤Gs p xs 0)=xs.any p:=by rw[Bool.eq_iff_iff];simp only[decide_eq_true_eq];rw[TH (by omega)]
 simp -implicitDefEqProofs [e]
end Go.Eng.T
namespace Go.Eng.T
set_option maxRecDepth 20000
end Go.Eng.T
namespace Go.Eng.T
set_option maxRecDepth 20000
def Au (t:Int):Bool:=decide (Za t 0 255)&&decide (t.tmod 16=10)
abbrev EN (R:Rel):Prop:=∀t:Int,R [I t] [] (B (Au t)) []
theorem Ah5 (D:Dn) (hI:WN (D EB)):EN (Body D LW):=by
 intro t
 simp -implicitDefEqProofs
 refine Aa (hI _ _ _) ?_
 by_cases h:Za t 0 255
 ·simp -implicitDefEqProofs [h,Au,Vf]
 ·simp -implicitDefEqProofs [h,Au]
theorem Aik (D:Dn) (hI:WN (D CK)):EN (Body D LP):=by
 intro t
 simp -implicitDefEqProofs
 refine Aa (hI _ _ _) ?_
 by_cases h:Za t 0 255
 ·simp -implicitDefEqProofs [h,Au,Vf]
 ·simp -implicitDefEqProofs [h,Au]
abbrev M9 (R:Rel):Prop:=∀xs:List Int,xs.length≤maxLen→R [.sl 1 1 xs.length (ints xs)] [] (B (xs.any Au)) []
theorem U6 {α:Type} {p:α→Bool} {xs:List α} {j:Nat} (h:j<xs.length) (hp:p xs[j]=true):xs.any p=true:=List.any_eq_true.2 ⟨_,List.getElem_mem h,hp⟩
theorem Ae4 {α:Type} {p:α→Bool} {xs:List α} {j:Nat} (h:j<xs.length):(xs.take (j+1)).any p=((xs.take j).any p||p xs[j]):=by
 have e:xs.take (j+1)=xs.take j++ [xs[j]]:=by simp
 rw[e,List.any_append];simp
theorem any_none {α:Type} {p:α→Bool} {xs:List α} {j:Nat} (h:xs.length≤j) (ha:(xs.take j).any p=false):xs.any p=false:=by rwa [List.take_of_length_le h]at ha
theorem AhA (D:Dn) (hR:EN (D RI)) (hC:Jj D (D F7)):M9 (Body D Me):=by
 intro xs hl
 simp -implicitDefEqProofs
 refine Aa (hC xs 279 _ Au hl ES (fun x=>hR x)) ?_
 generalize xs.any Au=b
 simp -implicitDefEqProofs
end Go.Eng.T
namespace Go.Eng.T
set_option maxRecDepth 20000
abbrev InV (a b c:Int):Prop:=b≤a∧a≤c
def JQ (xs:List Int) (j:Nat):Bool:=(List.range j).all fun i=>decide (InV (xs.getD i 0) 1 9)&&(decide (i=0)||decide (xs.getD (i-1) 0<xs.getD i 0))
theorem Qu (xs:List Int) (j:Nat):JQ xs (j+1)=(JQ xs j&&(decide (InV (xs.getD j 0) 1 9)&&(decide (j=0)||decide (xs.getD (j-1) 0<xs.getD j 0)))):=by
 unfold JQ
 rw[List.range_succ,List.all_append]
 simp
theorem VB {xs:List Int} {j:Nat} (h:j<xs.length) (hn:JQ xs (j+1)=false):JQ xs xs.length=false:=by
 have:∀n,JQ xs (j+1+n)=false:=by
  intro n
  induction n with
  | zero=>exact hn
  | succ n ih=>rw[show j+1+(n+1)=(j+1+n)+1 by omega,Qu,ih];rfl
 have:=this (xs.length-(j+1))
 rwa [show j+1+(xs.length-(j+1))=xs.length by omega]at this
theorem Us {xs:List Int} {j:Nat} (h:j<xs.length):xs.getD j 0=xs[j]:=by simp[h]
def AY (xs:List Int):Bool:=JQ xs xs.length&&decide (0<xs.length)
abbrev BN (R:Rel):Prop:=∀xs:List Int,xs.length≤maxLen→R [.sl 1 1 xs.length (ints xs)] [] (B (AY xs)) []
theorem Af5 (D:Dn) (hI:WN (D EB)):BN (Body D KY):=by
 intro xs hl
 unfold maxLen at hl
 simp -implicitDefEqProofs
 refine Ag (fun k s=>∃j,j+k=xs.length∧JQ xs j=true∧s=⟨[.sl 1 1 xs.length (ints xs),.undef,.sc (.int .i64 j),.undef,.undef],[]⟩) ?_ xs.length _ ⟨0,by simp,by simp[JQ],by simp⟩
 intro k s ⟨j,hj,hr,hs⟩
 subst hs
 by_cases hjn:j<xs.length
 ·have hw:IntKind.i64.wrap ((j:Int)+1)=(j+1:Nat):=by rw[Ad (by omega) (by omega)];simp
  have hst:=Qu xs j
  rw[hr,Bool.true_and,Us hjn]at hst
  simp -implicitDefEqProofs [hjn]
  refine Aa (hI _ _ _) ?_
  by_cases h1:InV xs[j] 1 9
  rotate_left
  ·have e:AY xs=false:=by unfold AY;rw[VB hjn (by rw[hst];simp[h1])];rfl
   simp -implicitDefEqProofs [h1,e]
  by_cases h0:j=0
  ·subst h0
   simp -implicitDefEqProofs [h1]
   exact⟨k-1,by omega,1,by omega,by rw[hst];simp[h1],by simpa using hw⟩
  ·have hw2:IntKind.i64.wrap ((j:Int)-1)=((j-1:Nat):Int):=by rw[Ad (by omega) (by omega)];omega
   have h2:(0:Int)<j:=by omega
   have h2':0<j:=by omega
   have h3:j-1<xs.length:=by omega
   rw[Us h3]at hst
   by_cases h4:xs[j-1]<xs[j]
   ·have h4':¬xs[j]≤xs[j-1]:=by omega
    simp -implicitDefEqProofs [h1,h2,h2',hw2,h3,hjn,h4']
    exact⟨k-1,by omega,j+1,by omega,by rw[hst];simp[h1,h0,h4],by simp[hw]⟩
   ·have e:AY xs=false:=by unfold AY;rw[VB hjn (by rw[hst];simp[h1,h0,h4])];rfl
    have h4':xs[j]≤xs[j-1]:=by omega
    simp -implicitDefEqProofs [h1,h2,h2',hw2,h3,hjn,h4',e]
 ·obtain rfl:j=xs.length:=by omega
  have e:AY xs=decide (0<xs.length):=by unfold AY;rw[hr];rfl
  by_cases h5:0<xs.length
  ·have h5':(0:Int)<xs.length:=by omega
   simp -implicitDefEqProofs [e,h5,h5']
  ·have h5':¬(0:Int)<xs.length:=by omega
   simp -implicitDefEqProofs [e,h5,h5']
theorem Af4 (D:Dn) (hI:WN (D CK)):BN (Body D K4):=by
 intro xs hl
 unfold maxLen at hl
 simp -implicitDefEqProofs
 refine Ag (fun k s=>∃j v2 v3,j+k=xs.length∧JQ xs j=true∧s=⟨[.sl 1 1 xs.length (ints xs),.undef,v2,v3,.sl 1 1 xs.length (ints xs),.sc (.int .i64 xs.length),.sc (.int .i64 j),.undef,.undef],[]⟩) ?_ xs.length _ ⟨0,.undef,.undef,by simp,by simp[JQ],by simp⟩
 intro k s ⟨j,v2,v3,hj,hr,hs⟩
 subst hs
 by_cases hjn:j<xs.length
 ·have hw:IntKind.i64.wrap ((j:Int)+1)=(j+1:Nat):=by rw[Ad (by omega) (by omega)];simp
  have hst:=Qu xs j
  rw[hr,Bool.true_and,Us hjn]at hst
  simp -implicitDefEqProofs [hjn]
  refine Aa (hI _ _ _) ?_
  by_cases h1:InV xs[j] 1 9
  rotate_left
  ·have e:AY xs=false:=by unfold AY;rw[VB hjn (by rw[hst];simp[h1])];rfl
   simp -implicitDefEqProofs [h1,e]
  by_cases h0:j=0
  ·subst h0
   simp -implicitDefEqProofs [h1]
   exact⟨k-1,by omega,1,by omega,by rw[hst];simp[h1],by simpa using hw⟩
  ·have hw2:IntKind.i64.wrap ((j:Int)-1)=((j-1:Nat):Int):=by rw[Ad (by omega) (by omega)];omega
   have h2:(0:Int)<j:=by omega
   have h2':0<j:=by omega
   have h3:j-1<xs.length:=by omega
   rw[Us h3]at hst
   by_cases h4:xs[j-1]<xs[j]
   ·have h4':¬xs[j]≤xs[j-1]:=by omega
    simp -implicitDefEqProofs [h1,h2,h2',hw2,h3,hjn,h4']
    exact⟨k-1,by omega,j+1,by omega,by rw[hst];simp[h1,h0,h4],by simp[hw]⟩
   ·have e:AY xs=false:=by unfold AY;rw[VB hjn (by rw[hst];simp[h1,h0,h4])];rfl
    have h4':xs[j]≤xs[j-1]:=by omega
    simp -implicitDefEqProofs [h1,h2,h2',hw2,h3,hjn,h4',e]
 ·obtain rfl:j=xs.length:=by omega
  have e:AY xs=decide (0<xs.length):=by unfold AY;rw[hr];rfl
  by_cases h5:0<xs.length
  ·have h5':(0:Int)<xs.length:=by omega
   simp -implicitDefEqProofs [e,h5,h5']
  ·have h5':¬(0:Int)<xs.length:=by omega
   simp -implicitDefEqProofs [e,h5,h5']
theorem JW {p:Int→Bool} {xs:List Int} {j:Nat} (h:j<xs.length):(xs.take (j+1)).filter p=(xs.take j).filter p++(if p xs[j]then [xs[j]]else []):=by
 have e:xs.take (j+1)=xs.take j++ [xs[j]]:=by simp
 rw[e,List.filter_append]
 by_cases hp:p xs[j]=true<;>simp[hp]
theorem Ku {p:Int→Bool} {xs:List Int} {j:Nat} (h:xs.length≤j):(xs.take j).filter p=xs.filter p:=by rw[List.take_of_length_le h]
theorem Nf {p:Int→Bool} {xs:List Int} {j:Nat}:((xs.take j).filter p).length≤j:=by
 have:=List.length_filter_le p (xs.take j)
 have h2:(xs.take j).length≤j:=by simp;omega
 omega
def common (a b:List Int):List Int:=a.filter fun v=>decide (v∈b)
def AvL (a:List Int) (v:Int):List Int:=a.filter fun x=> !decide (x=v)
abbrev J6 (R:Rel):Prop:=∀a b:List Int,a.length≤4194304→b.length≤maxLen→R [.sl 1 1 a.length (ints a),.sl 1 1 b.length (ints b)] [] (.sl 0 1 (common a b).length (ints (common a b))) []
theorem AmA (D:Dn) (hH:SF (D JV)):J6 (Body D O8):=by
 intro a b ha hb'
 have hres:common a b=a.filter (fun v=>decide (v∈b)):=rfl
 rw[hres]
 simp -implicitDefEqProofs
 refine Ag (fun k s=>∃j o1 o2,j+k=a.length∧s=⟨[.sl 1 1 a.length (ints a),.sl 1 1 b.length (ints b),.undef,.arr 3,.sc (.int .i64 j),.undef,.undef],[.free,o1,o2,.arr 1 0 ((a.take j).filter (fun v=>decide (v∈b))).length (ints ((a.take j).filter (fun v=>decide (v∈b))))]⟩) ?_ a.length _ ⟨0,by simp⟩
 intro k s ⟨j,o1,o2,hj,hs⟩
 subst hs
 by_cases hjn:j<a.length
 ·have hw:IntKind.i64.wrap ((j:Int)+1)=(j+1:Nat):=by rw[Ad (by omega) (by omega)];simp
  have hst:=JW (p:=fun v=>decide (v∈b)) hjn
  have hln:=Nf (p:=fun v=>decide (v∈b)) (xs:=a) (j:=j)
  have hb:(((a.take j).filter (fun v=>decide (v∈b))).length+1)*8≤1099511627776:=by omega
  simp -implicitDefEqProofs [hjn]
  refine Aa (hH b _ hb') ?_
  by_cases h1:a[j]∈b
  ·rw[if_pos (by simp[h1])]at hst
   simp -implicitDefEqProofs [h1,hjn,hb]
   exact⟨k-1,by omega,j+1,by omega,by simp[hw],by rw[hst];simp,by rw[hst]⟩
  ·rw[if_neg (by simp[h1]),List.append_nil]at hst
   simp -implicitDefEqProofs [h1,hjn,hb]
   exact⟨k-1,by omega,j+1,by omega,by simp[hw],by rw[hst],by rw[hst]⟩
 ·have hx:=Ku (p:=fun v=>decide (v∈b)) (xs:=a) (j:=j) (by omega)
  simp -implicitDefEqProofs [hjn,hx]
theorem AmE (D:Dn) (hH:SF (D Bz)):J6 (Body D PS):=by
 intro a b ha hb'
 have hres:common a b=a.filter (fun v=>decide (v∈b)):=rfl
 rw[hres]
 simp -implicitDefEqProofs
 refine Ag (fun k s=>∃j v4 o1 o2,j+k=a.length∧s=⟨[.undef,.sl 1 1 b.length (ints b),.undef,.arr 3,v4,.sl 1 1 a.length (ints a),.sc (.int .i64 a.length),.sc (.int .i64 j),.undef,.undef],[.free,o1,o2,.arr 1 0 ((a.take j).filter (fun v=>decide (v∈b))).length (ints ((a.take j).filter (fun v=>decide (v∈b))))]⟩) ?_ a.length _ ⟨0,by simp⟩
 intro k s ⟨j,v4,o1,o2,hj,hs⟩
 subst hs
 by_cases hjn:j<a.length
 ·have hw:IntKind.i64.wrap ((j:Int)+1)=(j+1:Nat):=by rw[Ad (by omega) (by omega)];simp
  have hst:=JW (p:=fun v=>decide (v∈b)) hjn
  have hln:=Nf (p:=fun v=>decide (v∈b)) (xs:=a) (j:=j)
  have hb:(((a.take j).filter (fun v=>decide (v∈b))).length+1)*8≤1099511627776:=by omega
  simp -implicitDefEqProofs [hjn]
  refine Aa (hH b _ hb') ?_
  by_cases h1:a[j]∈b
  ·rw[if_pos (by simp[h1])]at hst
   simp -implicitDefEqProofs [h1,hjn,hb]
   exact⟨k-1,by omega,j+1,by omega,by simp[hw],by rw[hst];simp,by rw[hst]⟩
  ·rw[if_neg (by simp[h1]),List.append_nil]at hst
   simp -implicitDefEqProofs [h1,hjn,hb]
   exact⟨k-1,by omega,j+1,by omega,by simp[hw],by rw[hst],by rw[hst]⟩
 ·have hx:=Ku (p:=fun v=>decide (v∈b)) (xs:=a) (j:=j) (by omega)
  simp -implicitDefEqProofs [hjn,hx]
end Go.Eng.T
namespace Go.Eng.T
set_option maxRecDepth 20000
set_option maxHeartbeats 1000000
def Wi (l:List Int):Int:=l.foldl (fun a v=>if v>a then v else a) 0
theorem AqN {x:Int}:∀(l:List Int) (a:Int),(∀y,y∈l→y<x)→a<x→l.foldl (fun a v=>if v>a then v else a) a<x
 | [],a,_,h=>h
 | y::l,a,hl,h=>by
  simp only[List.foldl_cons]
  refine AqN l _ (fun z hz=>hl z (by simp[hz])) ?_
  split
  ·exact hl y (by simp)
  ·exact h
theorem AgB {xs:List Int}:∀(n:Nat),JQ xs n=true→∀i j,i<j→j<n→xs.getD i 0<xs.getD j 0
 | 0,_,i,j,_,h=>by omega
 | n+1,hr,i,j,hij,hj=>by
  rw[Qu]at hr
  simp only[Bool.and_eq_true,Bool.or_eq_true,decide_eq_true_eq]at hr
  obtain⟨h1,_,h3⟩:=hr
  by_cases hjn:j<n
  ·exact AgB n h1 i j hij hjn
  ·obtain rfl:j=n:=by omega
   have h4:xs.getD (j-1) 0<xs.getD j 0:=by
    rcases h3 with h3 | h3
    ·omega
    ·exact h3
   by_cases he:i=j-1
   ·rw[he];exact h4
   ·have:=AgB j h1 i (j-1) (by omega) (by omega)
    omega
theorem Av2 {xs:List Int} {n i:Nat} (h:JQ xs n=true) (hi:i<n):InV (xs.getD i 0) 1 9:=by
 unfold JQ at h
 have:=List.all_eq_true.1 h i (List.mem_range.2 hi)
 simp at this
 exact⟨this.1.1,this.1.2⟩
theorem Ajt {xs:List Int} (h:AY xs=true):xs.Pairwise (· < ·):=by
 unfold AY at h
 simp only[Bool.and_eq_true,decide_eq_true_eq]at h
 rw[List.pairwise_iff_getElem]
 intro i j hi hj hij
 have:=AgB _ h.1 i j hij hj
 rwa [Us hi,Us hj]at this
theorem AqS {xs:List Int} (h:AY xs=true):∀x,x∈xs→InV x 1 9:=by
 unfold AY at h
 simp only[Bool.and_eq_true,decide_eq_true_eq]at h
 intro x hx
 obtain⟨i,hi,rfl⟩:=List.getElem_of_mem hx
 have:=Av2 h.1 hi
 rwa [Us hi]at this
theorem AtA {l:List Int} (hp:l.Pairwise (· < ·)) (h0:∀x,x∈l→0<x) (hn:0<l.length):Wi l=l[l.length-1]:=by
 obtain⟨l',x,rfl⟩:∃l' x,l=l'++ [x]:=by
  rcases List.eq_nil_or_concat l with h | ⟨l',x,h⟩
  ·rw[h]at hn;simp at hn
  ·exact⟨l',x,by simpa using h⟩
 rw[List.pairwise_append]at hp
 have h1:Wi l' <x:=AqN l' 0 (fun y hy=>hp.2.2 y hy x (by simp)) (h0 x (by simp))
 have h2:Wi (l'++ [x])=if x>Wi l' then x else Wi l':=by unfold Wi;rw[List.foldl_append];rfl
 rw[h2,if_pos h1]
 simp
def Bw (a b:List Int):Int:=if AY a=true∧AY b=true then Wi (common a b)else 0
abbrev El (R:Rel):Prop:=∀a b:List Int,a.length≤4194304→b.length≤4194304→R [.sl 1 1 a.length (ints a),.sl 1 1 b.length (ints b)] [] (I (Bw a b)) []
theorem ml {n:Nat} (h:n≤4194304):n≤maxLen:=by unfold maxLen;omega
theorem Aiv (D:Dn) (hC:J6 (D AfS)) (hA:BN (D EW)):El (Body D Mq):=by
 intro a b ha hb
 have hcl:(common a b).length≤4194304:=Nat.le_trans (List.length_filter_le _ _) ha
 simp -implicitDefEqProofs
 refine Aa (hC a b ha (ml hb)) ?_
 simp -implicitDefEqProofs
 refine Aa (hA a (ml ha)) ?_
 by_cases h1:AY a=true
 rotate_left
 ·simp -implicitDefEqProofs [h1,Bw]
 simp -implicitDefEqProofs [h1]
 refine Aa (hA b (ml hb)) ?_
 by_cases h2:AY b=true
 rotate_left
 ·simp -implicitDefEqProofs [h2,Bw]
 have e:Bw a b=Wi (common a b):=by unfold Bw;rw[if_pos ⟨h1,h2⟩]
 rw[e]
 by_cases h3:common a b=[]
 ·simp -implicitDefEqProofs [h2,h3,Wi]
 have h4:0<(common a b).length:=List.length_pos_iff.2 h3
 have h5:=AtA (l:=common a b) ((Ajt h1).filter _) (fun x hx=>by have:=AqS h1 x (List.mem_filter.1 hx).1;omega) h4
 rw[h5]
 generalize common a b=l at h3 h4 hcl
 have hw:IntKind.i64.wrap ((l.length:Int)-1)=((l.length-1:Nat):Int):=by rw[Ad (by omega) (by omega)];omega
 have h6:l.length-1<l.length:=by omega
 simp -implicitDefEqProofs [h2,h3,hw,h6,h4]
theorem Ahs (D:Dn) (hC:J6 (D Ag7)) (hA:BN (D EX)):El (Body D LX):=by
 intro a b ha hb
 have hcl:(common a b).length≤4194304:=Nat.le_trans (List.length_filter_le _ _) ha
 simp -implicitDefEqProofs
 refine Aa (hA a (ml ha)) ?_
 by_cases h1:AY a=true
 rotate_left
 ·simp -implicitDefEqProofs [h1,Bw]
 simp -implicitDefEqProofs [h1]
 refine Aa (hA b (ml hb)) ?_
 by_cases h2:AY b=true
 rotate_left
 ·simp -implicitDefEqProofs [h2,Bw]
 have e:Bw a b=Wi (common a b):=by unfold Bw;rw[if_pos ⟨h1,h2⟩]
 rw[e]
 simp -implicitDefEqProofs [h2]
 refine Aa (hC a b ha (ml hb)) ?_
 generalize common a b=l at hcl
 simp -implicitDefEqProofs
 refine Ag (fun k s=>∃j,j+k=l.length∧s=⟨[.undef,.undef,.undef,.sc (.int .i64 (Wi (l.take j))),.undef,.undef,.arr 0,.sc (.int .i64 l.length),.sc (.int .i64 j),.undef],[.arr 1 0 l.length (ints l)]⟩) ?_ l.length _ ⟨0,by simp,by simp[Wi]⟩
 intro k s ⟨j,hj,hs⟩
 subst hs
 by_cases hjn:j<l.length
 ·have hw:IntKind.i64.wrap ((j:Int)+1)=(j+1:Nat):=by rw[Ad (by omega) (by omega)];simp
  have hst:Wi (l.take (j+1))=if l[j]>Wi (l.take j)then l[j]else Wi (l.take j):=by
   have e:l.take (j+1)=l.take j++ [l[j]]:=by simp
   unfold Wi
   rw[e,List.foldl_append];rfl
  simp -implicitDefEqProofs [hjn]
  exact⟨k-1,by omega,j+1,by omega,by rw[hst],by simp[hw]⟩
 ·have hx:l.take j=l:=List.take_of_length_le (by omega)
  simp -implicitDefEqProofs [hjn,hx]
end Go.Eng.T
namespace Go.Eng.T
set_option maxRecDepth 20000
def Aea {α:Type} (p:α→Bool):List α→Nat→List Int
 | [],_=> []
 | x::r,i=>if p x then(i:Int)::Aea p r (i+1)else Aea p r (i+1)
theorem Anx {α:Type} {p:α→Bool} (b:List α):∀(a:List α) (i:Nat),Aea p (a++b) i=Aea p a i++Aea p b (i+a.length)
 | [],i=>by simp[Aea]
 | x::r,i=>by
  have:=Anx (p:=p) b r (i+1)
  simp only[List.cons_append,Aea,this,List.length_cons]
  rw[show i+1+r.length=i+(r.length+1)by omega]
  by_cases h:p x=true<;>simp[h]
theorem Au2 {α:Type} {p:α→Bool}:∀(xs:List α) (i:Nat),(Aea p xs i).length≤xs.length
 | [],_=>by simp[Aea]
 | x::r,i=>by
  have:=Au2 (p:=p) r (i+1)
  by_cases h:p x=true
  ·simp[Aea,h];omega
  ·simp[Aea,h];omega
theorem AoC {w:World} (h:A8 w≤4194304) {j:Nat} (hj:j<w.ends.length):w.ends[j].versions.length≤maxLen:=by
 have:=size_at (f:=Ac) hj
 have e:Ac w.ends[j]=w.ends[j].versions.length+w.ends[j].tags.length+Bn BX w.ends[j].path:=rfl
 unfold A8 at h
 unfold maxLen;omega
end Go.Eng.T
namespace Go.Eng.T
set_option maxRecDepth 20000
set_option maxHeartbeats 1000000
def G8 (xs:List (List Int)):List V:=xs.map fun l=> .sl 0 1 l.length (ints l)
@[simp high] theorem ABy (xs:List (List Int)):(G8 xs).length=xs.length:=by simp[G8]
@[simp] theorem ABx:G8 []=[]:=rfl
@[simp] theorem ABZ (xs:List (List Int)):(G8 xs).map (A9 0)=G8 xs:=by simp[G8,Function.comp_def,A9]
@[simp high] theorem ACg {xs:List (List Int)} {j:Nat} (h:j<xs.length):(G8 xs)[j]? =some (V.sl 0 1 xs[j].length (ints xs[j])):=by simp[G8,h]
theorem Ao1 (xs:List (List Int)) (l:List Int) {n:Nat} (h:n=l.length):G8 xs++ [.sl 0 1 n (ints l)]=G8 (xs++ [l]):=by subst h;simp[G8]
def GA (xs:List (List Int)):Nat:=Bn List.length xs
theorem Vz {xs:List (List Int)} {j:Nat} (h:j<xs.length):xs[j].length≤GA xs:=size_at (f:=List.length) h
theorem O7 {xs:List (List Int)}:xs.length≤GA xs:=Ic
def Js (w:World):List (List Int):=w.ends.map (·.versions)
abbrev M6 (R:Rel):Prop:=∀w:World,A8 w≤4194304→R [arg (Hf w)] [] (.sl 0 1 (Js w).length (G8 (Js w))) []
theorem Ag4 {xs:List AQ} {j:Nat} (h:j<xs.length):G8 ((xs.map (·.versions)).take j)++ [.sl 0 1 xs[j].versions.length (ints xs[j].versions)]=G8 ((xs.map (·.versions)).take (j+1)):=by
 have h':j<(xs.map (·.versions)).length:=by simpa using h
 have e:(xs.map (·.versions)).take (j+1)=(xs.map (·.versions)).take j++ [xs[j].versions]:=by
  have:=List.take_append_getElem h'
  rw[←this];simp
 rw[e,Ao1 _ _ rfl]
theorem Ap6 (D:Dn):M6 (Body D QY):=by
 intro w h
 have hl:=Lr h
 have hres:Js w=w.ends.map (·.versions):=rfl
 rw[hres]
 simp -implicitDefEqProofs
 refine Ag (fun k s=>∃j o2 o3 o4 o5,j+k=w.ends.length∧s=⟨[.undef,.ptr 0 0,.undef,.arr 6,.sc (.int .i64 j),.undef],[.var ((Hf w).map (A9 1)),.free,o2,o3,o4,o5,.arr 1 0 j (G8 ((w.ends.take j).map (·.versions)))]⟩) ?_ w.ends.length _ ⟨0,.free,.free,.free,.free,by simp,by simp⟩
 intro k s ⟨j,o2,o3,o4,o5,hj,hs⟩
 subst hs
 by_cases hjn:j<w.ends.length
 ·have hw:IntKind.i64.wrap ((j:Int)+1)=(j+1:Nat):=by rw[Ad (by omega) (by omega)];simp
  have hst:=Ag4 hjn
  have hvl:=AoC h hjn
  unfold maxLen at hvl
  have h2:w.ends[j].versions.length≤4194304:=by
   have:=size_at (f:=Ac) hjn
   have e:Ac w.ends[j]=w.ends[j].versions.length+w.ends[j].tags.length+Bn BX w.ends[j].path:=rfl
   unfold A8 at h
   omega
  have hb:w.ends[j].versions.length*8≤1099511627776:=by omega
  have hb2:(j+1)*24≤1099511627776:=by omega
  have hjl:min j w.ends.length=j:=by omega
  simp -implicitDefEqProofs [hjn,hb,hb2,hjl]
  exact⟨k-1,by omega,j+1,by omega,by simp[hw],rfl,hst⟩
 ·obtain rfl:j=w.ends.length:=by omega
  simp -implicitDefEqProofs
theorem AoL (D:Dn):M6 (Body D Q8):=by
 intro w h
 have hl:=Lr h
 have hres:Js w=w.ends.map (·.versions):=rfl
 rw[hres]
 simp -implicitDefEqProofs
 refine Ag (fun k s=>∃j o2 o3 o4 o5 o6,j+k=w.ends.length∧s=⟨[.undef,.undef,.undef,.arr 7,.undef,.sl 1 4 w.ends.length (w.ends.flatMap Aj),.sc (.int .i64 w.ends.length),.sc (.int .i64 j),.undef],[.var ((Hf w).map (A9 1)),.free,o2,o3,o4,o5,o6,.arr 1 0 j (G8 ((w.ends.take j).map (·.versions)))]⟩) ?_ w.ends.length _ ⟨0,.free,.free,.free,.free,.free,by simp,by simp⟩
 intro k s ⟨j,o2,o3,o4,o5,o6,hj,hs⟩
 subst hs
 by_cases hjn:j<w.ends.length
 ·have hw:IntKind.i64.wrap ((j:Int)+1)=(j+1:Nat):=by rw[Ad (by omega) (by omega)];simp
  have hst:=Ag4 hjn
  have h2:w.ends[j].versions.length≤4194304:=by
   have:=size_at (f:=Ac) hjn
   have e:Ac w.ends[j]=w.ends[j].versions.length+w.ends[j].tags.length+Bn BX w.ends[j].path:=rfl
   unfold A8 at h
   omega
  have hb:w.ends[j].versions.length*8≤1099511627776:=by omega
  have hb2:(j+1)*24≤1099511627776:=by omega
  have hjl:min j w.ends.length=j:=by omega
  simp -implicitDefEqProofs [hjn,hb,hb2,hjl]
  exact⟨k-1,by omega,j+1,by omega,by simp[hw],rfl,hst⟩
 ·obtain rfl:j=w.ends.length:=by omega
  simp -implicitDefEqProofs
abbrev II (ls:List (List Int)):V:= .sl 1 1 ls.length (G8 ls)
def ACW (s:List Int) (v:Int) (l:List Int):Bool:=decide (0<Bw s l)&&decide (Bw (AvL s v) l=0)
def ACa (s:List Int) (ls:List (List Int)) (v:Int):List Int:=Aea (ACW s v) ls 0
theorem ABf (xs:List AQ):GA (xs.map (·.versions))≤Bn Ac xs:=by
 induction xs with
 | nil=>simp[GA,Bn]
 | cons x r ih=>
  simp only[GA,Bn,List.map_cons,List.sum_cons,List.length_cons,Ac,List.length_map]at *
  omega
theorem AmR {w:World} (h:A8 w≤4194304):GA (Js w)≤4194304:=by
 have:=ABf w.ends
 unfold A8 at h
 unfold Js
 omega
end Go.Eng.T
namespace Go.Eng.T
structure Ext where
 tag:Int
 body:List Int
 deriving DecidableEq
structure Hello where
 versions:List Int
 exts:List Ext
 deriving DecidableEq
structure Pb where
 version:Int
 exts:List Ext
 deriving DecidableEq
def Bg (x:Ext):List V:=[.sc (.int .i64 x.tag),.sl 0 1 x.body.length (ints x.body)]
def Cr (h:Hello):List V:=[.sl 0 1 h.versions.length (ints h.versions),.sl 0 2 h.exts.length (h.exts.flatMap Bg)]
def VO (a:Pb):List V:=[.sc (.int .i64 a.version),.sl 0 2 a.exts.length (a.exts.flatMap Bg)]
theorem Ut (x:Ext):(Bg x).length=2:=rfl
@[simp] theorem ACt (xs:List Ext):(xs.flatMap Bg).map (A9 0)=xs.flatMap Bg:=VS (fun _=>rfl) xs
@[simp high] theorem ACq {xs:List Ext} {j:Nat} (h:j<xs.length):Fy (xs.flatMap Bg) (j*2) 2=some (Bg xs[j]):=Lv Ut h
@[simp high] theorem OO (xs:List Ext):(xs.flatMap Bg).length=xs.length*2:=Le Ut xs
@[simp high] theorem ACE {xs:List Ext} {j:Nat} (h:j<xs.length):(xs.flatMap Bg)[j*2]? =some (.sc (.int .i64 xs[j].tag)):=by
 have:=Ay (o:=0) Ut h (by omega)
 simpa[Bg]using this
@[simp high] theorem ACM {xs:List Ext} {j:Nat} (h:j<xs.length):(xs.flatMap Bg)[j*2+1]? =some (.sl 0 1 xs[j].body.length (ints xs[j].body)):=by
 have:=Ay (o:=1) Ut h (by omega)
 simpa[Bg]using this
theorem AsO {α:Type} {f:α→List V} {e:Nat} (hf:∀x,(f x).length=e) (xs:List α) (i:Nat):(xs.flatMap f).take (i*e)=(xs.take i).flatMap f:=by
 induction xs generalizing i with
 | nil=>simp
 | cons x xs ih=>
  cases i with
  | zero=>simp
  | succ i=>
   simp only[List.flatMap_cons,List.take_succ_cons]
   rw[←ih i,show(i+1)*e=(f x).length+i*e by rw[hf,Nat.add_mul];omega,List.take_length_add_append]
theorem As7 {α:Type} {f:α→List V} {e:Nat} (hf:∀x,(f x).length=e) (xs:List α) (o n:Nat):part (xs.flatMap f) e o n=((xs.drop o).take n).flatMap f:=by
 unfold part
 rw[Vv hf,AsO hf]
@[simp high] theorem ABG (xs:List Ext) (o n:Nat):part (xs.flatMap Bg) 2 o n=((xs.drop o).take n).flatMap Bg:=As7 Ut xs o n
attribute [simp] Bg Cr VO
def QJ (l:List Ext):Prop:=l.length≤4194304∧∀x,x∈l→x.body.length≤4194304
theorem KT {l:List Ext} (h:QJ l) {j:Nat} (hj:j<l.length):l[j].body.length≤4194304:=h.2 _ (List.getElem_mem hj)
theorem Zj:QJ []:=⟨by simp,by simp⟩
theorem Apj {l:List Ext} (h:QJ l) (p:Ext→Bool):QJ (l.filter p):=
 ⟨Nat.le_trans (List.length_filter_le p l) h.1,fun x hx=>h.2 x (List.mem_filter.1 hx).1⟩
def M4 (q:Nat→Bool) (j:Nat):Bool:=(List.range j).all q
@[simp] theorem AAM (q:Nat→Bool):M4 q 0=true:=rfl
theorem HZ (q:Nat→Bool) (j:Nat):M4 q (j+1)=(M4 q j&&q j):=by
 unfold M4
 rw[List.range_succ,List.all_append]
 simp
theorem Ag3 {q:Nat→Bool} {j n:Nat} (h:j<n) (hn:q j=false):M4 q n=false:=by
 have:∀m,M4 q (j+1+m)=false:=by
  intro m
  induction m with
  | zero=>rw[Nat.add_zero,HZ,hn];simp
  | succ m ih=>rw[show j+1+(m+1)=(j+1+m)+1 by omega,HZ,ih];rfl
 have:=this (n-(j+1))
 rwa [show j+1+(n-(j+1))=n by omega]at this
theorem ArI {q:Nat→Bool} {n:Nat}:M4 q n=true↔∀i,i<n→q i=true:=by
 unfold M4
 rw[List.all_eq_true]
 simp
theorem AfO {α:Type} {p:α→Bool} {xs:List α} {j:Nat} (h:j<xs.length):(xs.take (j+1)).filter p=(xs.take j).filter p++(if p xs[j]then [xs[j]]else []):=by
 have e:xs.take (j+1)=xs.take j++ [xs[j]]:=by simp
 rw[e,List.filter_append]
 by_cases hp:p xs[j]=true<;>simp[hp]
theorem AaK {α:Type} {p:α→Bool} {xs:List α} {j:Nat} (h:xs.length≤j):(xs.take j).filter p=xs.filter p:=by rw[List.take_of_length_le h]
theorem Aje {α:Type} {p:α→Bool} {xs:List α} {j:Nat}:((xs.take j).filter p).length≤j:=by
 have:=List.length_filter_le p (xs.take j)
 have h2:(xs.take j).length≤j:=by simp;omega
 omega
end Go.Eng.T
namespace Go.Eng.T
end Go.Eng.T
namespace Go.Eng.T
set_option maxRecDepth 20000
abbrev Je (D:Dn) (R:Rel):Prop:=∀(xs:List Ext) (g:Nat) (caps:List V) (p:Ext→Bool),xs.length≤maxLen→Lm caps→(∀(j:Nat) (h:j<xs.length),D g (arg (Bg xs[j])::caps) [] (B (p xs[j])) [])→R [.sl 1 2 xs.length (xs.flatMap Bg),.fn g caps] [] (I (Gs p xs 0)) []
theorem AeP (D:Dn):Je D (Body D CZ):=by
 intro xs g caps p hl hc hp
 unfold maxLen at hl
 simp -implicitDefEqProofs
 refine Ag (fun k s=>∃j,j+k=xs.length∧Gs p xs 0=Gs p (xs.drop j) j∧s=⟨[.sl 1 2 xs.length (xs.flatMap Bg),.fn g caps,.undef,.undef,.sc (.int .i64 xs.length),.sc (.int .i64 j),.undef,.undef],[]⟩) ?_ xs.length _ ⟨0,by simp,by simp,by simp⟩
 intro k s ⟨j,hj,hi,hs⟩
 subst hs
 by_cases hjn:j<xs.length
 ·have hw:IntKind.i64.wrap ((j:Int)+1)=(j+1:Nat):=by rw[Ad (by omega) (by omega)];simp
  rw[RF hjn]at hi
  simp -implicitDefEqProofs [hjn,hc.1,hc.2.1]
  refine Aa (hp j hjn) ?_
  by_cases he:p xs[j]=true
  ·rw[if_pos he]at hi
   simp -implicitDefEqProofs [he,hi]
  ·rw[if_neg he]at hi
   simp -implicitDefEqProofs [he]
   exact⟨k-1,by omega,j+1,by omega,by simpa using hi,by simp[hw]⟩
 ·rw[UD (by omega)]at hi
  simp -implicitDefEqProofs [hjn,hi]
abbrev IG (D:Dn) (R:Rel):Prop:=∀(xs:List Ext) (g:Nat) (caps:List V) (p:Ext→Bool),xs.length≤maxLen→Lm caps→(∀(j:Nat) (h:j<xs.length),D g (arg (Bg xs[j])::caps) [] (B (p xs[j])) [])→R [.sl 1 2 xs.length (xs.flatMap Bg),.fn g caps] [] (B (xs.any p)) []
theorem YK (D:Dn) (hI:Je D (D EP)):IG D (Body D CB):=by
 intro xs g caps p hl hc hp
 simp -implicitDefEqProofs [hc.2.2]
 refine Aa (hI xs g caps p hl hc hp) ?_
 have e:decide (0≤Gs p xs 0)=xs.any p:=by rw[Bool.eq_iff_iff];simp only[decide_eq_true_eq];rw[TH (by omega)]
 simp -implicitDefEqProofs [e]
end Go.Eng.T
namespace Go.Eng.T
set_option maxRecDepth 20000
def FR (t:Int) (x:Ext):Bool:=decide (x.tag=t)
def Hq (l:List Ext) (t:Int):Int:=Gs (FR t) l 0
abbrev ND (R:Rel):Prop:=∀(l:List Ext) (t:Int),l.length≤maxLen→R [.sl 1 2 l.length (l.flatMap Bg),I t] [] (I (Hq l t)) []
theorem Awh (D:Dn):ND (Body D Uu):=by
 intro l t hl
 unfold maxLen at hl
 have hres:Hq l t=Gs (FR t) l 0:=rfl
 rw[hres]
 simp -implicitDefEqProofs
 refine Ag (fun k s=>∃j,j+k=l.length∧Gs (FR t) l 0=Gs (FR t) (l.drop j) j∧s=⟨[.sl 1 2 l.length (l.flatMap Bg),I t,.undef,I j,.undef,.undef],[]⟩) ?_ (l.length) _ ⟨0,by simp,by simp,by simp⟩
 intro k s ⟨j,hj,hi,hs⟩
 subst hs
 by_cases hjn:j<l.length
 ·have hw:IntKind.i64.wrap ((j:Int)+1)=(j+1:Nat):=by rw[Ad (by omega) (by omega)];simp
  rw[RF hjn]at hi
  by_cases he:l[j].tag=t
  ·rw[if_pos (by simp[FR,he])]at hi
   simp -implicitDefEqProofs [hjn,he,hi]
  ·rw[if_neg (by simp[FR,he])]at hi
   simp -implicitDefEqProofs [hjn,he]
   exact⟨k-1,by omega,j+1,by omega,by simpa using hi,by simp[hw]⟩
 ·rw[UD (by omega)]at hi
  simp -implicitDefEqProofs [hjn,hi]
abbrev Aer (R:Rel):Prop:=∀(x:Ext) (t:Int),R [arg (Bg x),.rptr 1 [I t] 0] [] (B (FR t x)) []
theorem Avi (D:Dn):Aer (Body D Rb):=by
 intro x t
 simp -implicitDefEqProofs [FR,Vf]
theorem AuI (D:Dn) (h1:Aer (D AiB)) (hX:Je D (D EP)):ND (Body D U0):=by
 intro l t hl
 have hres:Hq l t=Gs (FR t) l 0:=rfl
 rw[hres]
 simp -implicitDefEqProofs
 refine Aa (hX l 351 _ (FR t) hl (AbZ ES) (fun j h=>h1 l[j] t)) ?_
 simp -implicitDefEqProofs
def Vd (x:Ext):Bool:=decide (Za x.tag 0 255)&&(decide (x.body.length≤4)&&allIn x.body 0 255)
def Tn (l:List Ext) (i:Nat):Bool:=match l[i]? with
 | some x=>Vd x&& !(l.take i).any (FR x.tag)
 | none=>true
theorem AbD {l:List Ext} {i:Nat} (h:i<l.length):Tn l i=(Vd l[i]&& !(l.take i).any (FR l[i].tag)):=by
 unfold Tn
 rw[List.getElem?_eq_getElem h]
def D9 (l:List Ext):Bool:=M4 (Tn l) l.length&&decide (l.length≤6)
theorem AoQ {α:Type} {p:α→Bool}:∀ {xs:List α} {i:Int},Gs p xs i= -1∨(i≤Gs p xs i∧Gs p xs i<i+xs.length)
 | [],i=> .inl rfl
 | x::r,i=>by
  by_cases hp:p x=true
  ·right;simp[Gs,hp];omega
  ·rcases AoQ (p:=p) (xs:=r) (i:=i+1)with h | h
   ·left;simp[Gs,hp,h]
   ·right;simp[Gs,hp]at *;omega
theorem AqU {α:Type} {p:α→Bool}:∀ {xs:List α} {i:Int} {j:Nat},0≤i→(h:j<xs.length)→p xs[j]=true→(Gs p xs i<i+j↔(xs.take j).any p=true)
 | x::r,i,0,hi,h,hp=>by
  have:p x=true:=hp
  simp[Gs,this]
 | x::r,i,j+1,hi,h,hp=>by
  by_cases hx:p x=true
  ·simp[Gs,hx];omega
  ·have:=AqU (p:=p) (xs:=r) (i:=i+1) (j:=j) (by omega) (by simpa using h) (by simpa using hp)
   simp only[Gs,hx,List.take_succ_cons,List.any_cons,Bool.false_or]
   rw[←this]
   simp
   omega
theorem AnU {l:List Ext} {j:Nat} (h:j<l.length):(Hq l l[j].tag<(j:Int))=((l.take j).any (FR l[j].tag)=true):=by
 have:=AqU (p:=FR l[j].tag) (i:=0) (by omega) h (by simp[FR])
 rw[Int.zero_add]at this
 exact propext this
theorem Af2 {l:List Ext} {j:Nat} {t:Int}:(0≤Hq (l.take j) t)=((l.take j).any (FR t)=true):=TH (by omega)
theorem Hy {l:List Ext} {j:Nat} (h:j<l.length) (hn:Tn l j=false):D9 l=false:=by
 unfold D9
 rw[Ag3 h hn];rfl
abbrev Fa (R:Rel):Prop:=∀l:List Ext,QJ l→R [.sl 1 2 l.length (l.flatMap Bg)] [] (B (D9 l)) []
theorem Apa (D:Dn) (hI:WN (D EB)) (hB:VP (D TS)) (hX:ND (D Qo)):Fa (Body D Q0):=by
 intro l hl
 have hll:=hl.1
 simp -implicitDefEqProofs
 refine Ag (fun k s=>∃j,j+k=l.length∧M4 (Tn l) j=true∧s=⟨[.sl 1 2 l.length (l.flatMap Bg),.undef,I j,.undef,.undef],[]⟩) ?_ (l.length) _ ⟨0,by simp,by simp,by simp⟩
 intro k s ⟨j,hj,hr,hs⟩
 subst hs
 by_cases hjn:j<l.length
 ·have hw:IntKind.i64.wrap ((j:Int)+1)=(j+1:Nat):=by rw[Ad (by omega) (by omega)];simp
  have hst:=HZ (Tn l) j
  have hq:=AbD hjn
  have hb:=KT hl hjn
  rw[hr,Bool.true_and]at hst
  simp -implicitDefEqProofs [hjn]
  refine Aa (hI _ _ _) ?_
  by_cases h1:Za l[j].tag 0 255
  rotate_left
  ·have e:=Hy hjn (by rw[hq];simp[Vd,h1])
   simp -implicitDefEqProofs [h1,e]
  by_cases h2:l[j].body.length≤4
  rotate_left
  ·have e:=Hy hjn (by rw[hq];simp[Vd,h2])
   have h2':(4:Int)<l[j].body.length:=by omega
   simp -implicitDefEqProofs [hjn,h1,h2',e]
  have h2':¬(4:Int)<l[j].body.length:=by omega
  simp -implicitDefEqProofs [hjn,h1,h2']
  refine Aa (hB _ (by unfold maxLen;omega)) ?_
  by_cases h3:allIn l[j].body 0 255=true
  rotate_left
  ·have e:=Hy hjn (by rw[hq];simp[Vd,h3])
   simp -implicitDefEqProofs [hjn,h3,e]
  simp -implicitDefEqProofs [hjn,h3]
  refine Aa (hX l _ (by unfold maxLen;omega)) ?_
  by_cases h4:(l.take j).any (FR l[j].tag)=true
  ·have e:=Hy hjn (by rw[hq];simp only[h4];simp)
   have h4':Hq l l[j].tag<(j:Int):=by rw[AnU hjn];exact h4
   simp -implicitDefEqProofs [hjn,h4',e]
  ·have h4':¬Hq l l[j].tag<(j:Int):=by rw[AnU hjn];exact h4
   have h4f:(l.take j).any (FR l[j].tag)=false:=by simpa using h4
   simp -implicitDefEqProofs [hjn,h4']
   exact⟨k-1,by omega,j+1,by omega,by rw[hst,hq,h4f];simp[Vd,h1,h2,h3],by simp[hw]⟩
 ·obtain rfl:j=l.length:=by omega
  have e:D9 l=decide (l.length≤6):=by unfold D9;rw[hr];rfl
  by_cases h5:l.length≤6
  ·have h5':(l.length:Int)≤6:=by omega
   simp -implicitDefEqProofs [e,h5,h5']
  ·have h5':¬(l.length:Int)≤6:=by omega
   simp -implicitDefEqProofs [e,h5,h5']
theorem Apy (D:Dn) (hI:WN (D CK)) (hX:ND (D Acl)) (hN:H6 (D Iw)):Fa (Body D QT):=by
 intro l hl
 have hll:=hl.1
 simp -implicitDefEqProofs
 refine Ag (fun k s=>∃j o0,j+k=l.length∧M4 (Tn l) j=true∧s=⟨[.sl 1 2 l.length (l.flatMap Bg),.undef,.undef,.undef,.sl 1 2 l.length (l.flatMap Bg),I l.length,I j,.undef,.undef],[o0]⟩) ?_ (l.length) _ ⟨0,.free,by simp,by simp,by simp⟩
 intro k s ⟨j,o0,hj,hr,hs⟩
 subst hs
 by_cases hjn:j<l.length
 ·have hw:IntKind.i64.wrap ((j:Int)+1)=(j+1:Nat):=by rw[Ad (by omega) (by omega)];simp
  have hst:=HZ (Tn l) j
  have hq:=AbD hjn
  have hb:=KT hl hjn
  rw[hr,Bool.true_and]at hst
  simp -implicitDefEqProofs [hjn]
  refine Aa (hI _ _ _) ?_
  by_cases h1:Za l[j].tag 0 255
  rotate_left
  ·have e:=Hy hjn (by rw[hq];simp[Vd,h1])
   simp -implicitDefEqProofs [h1,e]
  have hjl:j≤l.length:=by omega
  have hmin:min j l.length=j:=by omega
  simp -implicitDefEqProofs [hjn,hjl,hmin,h1]
  have hxx:=hX (l.take j) l[j].tag (by simp;unfold maxLen;omega)
  rw[List.length_take,hmin]at hxx
  refine Aa (hxx) ?_
  by_cases h4:(l.take j).any (FR l[j].tag)=true
  ·have e:=Hy hjn (by rw[hq];simp only[h4];simp)
   have h4':0≤Hq (l.take j) l[j].tag:=by rw[Af2];exact h4
   simp -implicitDefEqProofs [hjn,h4',e]
  have h4':¬0≤Hq (l.take j) l[j].tag:=by rw[Af2];exact h4
  have h4f:(l.take j).any (FR l[j].tag)=false:=by simpa using h4
  by_cases h2:l[j].body.length≤4
  rotate_left
  ·have e:=Hy hjn (by rw[hq];simp[Vd,h2])
   have h2':(4:Int)<l[j].body.length:=by omega
   simp -implicitDefEqProofs [hjn,h4',h2',e]
  have h2':¬(4:Int)<l[j].body.length:=by omega
  simp -implicitDefEqProofs [hjn,h4',h2']
  refine Aa (hN _ _ _ (by unfold maxLen;omega)) ?_
  by_cases h3:allIn l[j].body 0 255=true
  rotate_left
  ·have e:=Hy hjn (by rw[hq];simp[Vd,h3])
   simp -implicitDefEqProofs [hjn,h3,e]
  simp -implicitDefEqProofs [hjn,h3]
  exact⟨k-1,by omega,j+1,by omega,by rw[hst,hq,h4f];simp[Vd,h1,h2,h3],by simp[hw]⟩
 ·obtain rfl:j=l.length:=by omega
  have e:D9 l=decide (l.length≤6):=by unfold D9;rw[hr];rfl
  by_cases h5:l.length≤6
  ·have h5':(l.length:Int)≤6:=by omega
   simp -implicitDefEqProofs [e,h5,h5']
  ·have h5':¬(l.length:Int)≤6:=by omega
   simp -implicitDefEqProofs [e,h5,h5']
def Am (l:List Ext):List Int:=l.map (·.tag)
theorem Ai3 {l:List Ext} {j:Nat} (h:j<l.length):Am (l.take (j+1))=Am (l.take j)++ [l[j].tag]:=by
 have e:l.take (j+1)=l.take j++ [l[j]]:=by simp
 unfold Am
 rw[e,List.map_append];rfl
abbrev Jr (R:Rel):Prop:=∀l:List Ext,l.length≤4194304→R [.sl 1 2 l.length (l.flatMap Bg)] [] (.sl 0 1 (Am l).length (ints (Am l))) []
theorem AsB (D:Dn):Jr (Body D Ti):=by
 intro l hl
 simp -implicitDefEqProofs
 refine Ag (fun k s=>∃j o1 o2,j+k=l.length∧s=⟨[.sl 1 2 l.length (l.flatMap Bg),.undef,.arr 3,I j,.undef],[.free,o1,o2,.arr 1 0 (Am (l.take j)).length (ints (Am (l.take j)))]⟩) ?_ (l.length) _ ⟨0,.free,.free,by simp,by simp[Am]⟩
 intro k s ⟨j,o1,o2,hj,hs⟩
 subst hs
 by_cases hjn:j<l.length
 ·have hw:IntKind.i64.wrap ((j:Int)+1)=(j+1:Nat):=by rw[Ad (by omega) (by omega)];simp
  have hst:=Ai3 hjn
  have hlen:(Am (l.take j)).length=j:=by simp[Am];omega
  have hb:(j+1)*8≤1099511627776:=by omega
  simp -implicitDefEqProofs [hjn,hlen,hb]
  exact⟨k-1,by omega,j+1,by omega,by simp[hw],by rw[hst];simp[hlen],by rw[hst]⟩
 ·have e:l.take j=l:=List.take_of_length_le (by omega)
  simp -implicitDefEqProofs [hjn,e]
theorem AsP (D:Dn):Jr (Body D SL):=by
 intro l hl
 simp -implicitDefEqProofs
 refine Ag (fun k s=>∃j v3 o1 o2 o3,j+k=l.length∧s=⟨[.undef,.undef,.arr 4,v3,.sl 1 2 l.length (l.flatMap Bg),I l.length,I j,.undef],[.free,o1,o2,o3,.arr 1 0 (Am (l.take j)).length (ints (Am (l.take j)))]⟩) ?_ (l.length) _ ⟨0,.undef,.free,.free,.free,by simp,by simp[Am]⟩
 intro k s ⟨j,v3,o1,o2,o3,hj,hs⟩
 subst hs
 by_cases hjn:j<l.length
 ·have hw:IntKind.i64.wrap ((j:Int)+1)=(j+1:Nat):=by rw[Ad (by omega) (by omega)];simp
  have hst:=Ai3 hjn
  have hlen:(Am (l.take j)).length=j:=by simp[Am];omega
  have hb:(j+1)*8≤1099511627776:=by omega
  simp -implicitDefEqProofs [hjn,hlen,hb]
  exact⟨k-1,by omega,j+1,by omega,by simp[hw],by rw[hst];simp[hlen],by rw[hst]⟩
 ·have e:l.take j=l:=List.take_of_length_le (by omega)
  simp -implicitDefEqProofs [hjn,e]
end Go.Eng.T
namespace Go.Eng.T
set_option maxRecDepth 20000
def kept (p:Int→Bool) (l:List Ext):List Ext:=l.filter fun x=>p x.tag
theorem Vw {p:Int→Bool} {l:List Ext} {j:Nat} (h:j<l.length):kept p (l.take (j+1))=kept p (l.take j)++(if p l[j].tag then [l[j]]else []):=AfO (p:=fun x:Ext=>p x.tag) h
theorem Sb {p:Int→Bool} {l:List Ext} {j:Nat} (h:l.length≤j):kept p (l.take j)=kept p l:=AaK h
theorem RY {p:Int→Bool} {l:List Ext} {j:Nat}:(kept p (l.take j)).length≤j:=Aje
theorem Rl {l:List Ext} (h:QJ l) (p:Int→Bool):QJ (kept p l):=Apj h _
theorem OL {p:Int→Bool} {l:List Ext} {j:Nat} (h:j<l.length) (hp:p l[j].tag=true):
 (kept p (l.take j)).flatMap Bg++ [.sc (.int .i64 l[j].tag),.sl 0 1 l[j].body.length (ints l[j].body)]=(kept p (l.take (j+1))).flatMap Bg:=by
 rw[Vw h,if_pos hp,List.flatMap_append];simp
theorem GV {p:Int→Bool} {l:List Ext} {j:Nat} (h:j<l.length) (hp:p l[j].tag=true):(kept p (l.take (j+1))).length=(kept p (l.take j)).length+1:=by
 rw[Vw h,if_pos hp];simp
theorem RU {p:Int→Bool} {l:List Ext} {j:Nat} (h:j<l.length) (hp:¬p l[j].tag=true):kept p (l.take (j+1))=kept p (l.take j):=by
 rw[Vw h,if_neg hp,List.append_nil]
def AjI (caps:List V):Prop:=∀k,caps.any (m1 k)=false
theorem OI:AjI []:=fun _=>rfl
theorem Yl {fl:Nat} {cs:List V} {o:Nat} {r:List V} (h:AjI r):AjI (.rptr fl cs o::r):=fun k=>by
 have:=h k
 simp only[List.any_cons,this,m1,Bool.or_self]
theorem OT {k g:Nat} {caps:List V} (h:AjI caps):OU k (.fn g caps)= .fn g caps:=by
 have:=h k
 simp only[OU,m3,m2,this]
 rfl
theorem U9 {a b g:Nat} {caps:List V} (h:AjI caps):YL a b (.fn g caps)= .fn g caps:=by
 have:=h a
 simp only[YL,m3,m2,this]
 rfl
abbrev Ka (D:Dn) (R:Rel):Prop:=∀(l:List Ext) (g:Nat) (caps:List V) (p:Int→Bool),QJ l→Lm caps→AjI caps→(∀t:Int,D g (I t::caps) [] (B (p t)) [])→
 R [.sl 1 2 l.length (l.flatMap Bg),.fn g caps] [] (.sl 0 2 (kept p l).length ((kept p l).flatMap Bg)) []
theorem AoK (D:Dn):Ka D (Body D Ps):=by
 intro l g caps p hl hc hno hp
 have hll:=hl.1
 simp -implicitDefEqProofs [↓OT hno,↓U9 hno]
 refine Ag (fun k s=>∃j v4 o1 o2 o3 o4 o5,j+k=l.length∧s=⟨[.undef,.fn g caps,.undef,.arr 6,v4,.sl 1 2 l.length (l.flatMap Bg),I l.length,I j,.undef,.undef],[.free,o1,o2,o3,o4,o5,.arr 2 0 (kept p (l.take j)).length ((kept p (l.take j)).flatMap Bg)]⟩) ?_ (l.length) _ ⟨0,.undef,.free,.free,.free,.free,.free,by simp,by simp[kept,↓OT hno,↓U9 hno]⟩
 intro k s ⟨j,v4,o1,o2,o3,o4,o5,hj,hs⟩
 subst hs
 by_cases hjn:j<l.length
 ·have hw:IntKind.i64.wrap ((j:Int)+1)=(j+1:Nat):=by rw[Ad (by omega) (by omega)];simp
  have hb:=KT hl hjn
  have h1:l[j].body.length*8≤1099511627776:=by omega
  have hkl:=RY (p:=p) (l:=l) (j:=j)
  have h2:((kept p (l.take j)).length+1)*32≤1099511627776:=by omega
  simp -implicitDefEqProofs [hjn,↓OT hno,↓U9 hno,hc.1,hc.2.1]
  refine Aa (hp l[j].tag) ?_
  by_cases he:p l[j].tag=true
  ·have hst:=OL hjn he
   have hsl:=GV hjn he
   simp -implicitDefEqProofs [he,hjn,↓OT hno,↓U9 hno,h1,h2]
   exact⟨k-1,by omega,j+1,by omega,by simp[hw],by rw[hsl],by rw[←hst]⟩
  ·have hst:=RU hjn he
   simp -implicitDefEqProofs [he,↓OT hno,↓U9 hno]
   exact⟨k-1,by omega,j+1,by omega,by simp[hw],by rw[hst],by rw[hst]⟩
 ·have e:=Sb (p:=p) (l:=l) (j:=j) (by omega)
  simp -implicitDefEqProofs [hjn,e]
abbrev Yy (R:Rel):Prop:=∀t:Int,R [I t] [] (B true) []
abbrev Sl (R:Rel):Prop:=∀t:Int,R [I t] [] (B (!Au t)) []
theorem Amg (D:Dn):Yy (Body D Ml):=by
 intro t
 simp -implicitDefEqProofs
theorem AgK (D:Dn) (hR:EN (D RI)):Sl (Body D I7):=by
 intro t
 simp -implicitDefEqProofs
 refine Aa (hR t) ?_
 simp -implicitDefEqProofs
theorem As1 (l:List Ext):kept (fun _=>true) l=l:=by simp[kept]
abbrev MO (R:Rel):Prop:=∀l:List Ext,QJ l→R [.sl 1 2 l.length (l.flatMap Bg)] [] (.sl 0 2 l.length (l.flatMap Bg)) []
theorem AoW (D:Dn) (h1:Yy (D Rk)) (hK:Ka D (D Ip)):MO (Body D PO):=by
 intro l hl
 simp -implicitDefEqProofs
 refine Aa (hK l Rk [] (fun _=>true) hl ES OI (fun t=>h1 t)) ?_
 simp -implicitDefEqProofs [As1]
def Yk (l:List Ext):List Ext:=kept (fun t=> !Au t) l
def Jt (l:List Ext) (tags:List Int):List Ext:=kept (fun t=>decide (t∈tags)) l
abbrev FV (R:Rel):Prop:=∀l:List Ext,QJ l→R [.sl 1 2 l.length (l.flatMap Bg)] [] (.sl 0 2 (Yk l).length ((Yk l).flatMap Bg)) []
theorem AeI (D:Dn) (h1:Sl (D Oh)) (hK:Ka D (D Ip)):FV (Body D KH):=by
 intro l hl
 simp -implicitDefEqProofs
 refine Aa (hK l Oh [] (fun t=> !Au t) hl ES OI (fun t=>h1 t)) ?_
 simp -implicitDefEqProofs [Yk]
abbrev K3 (R:Rel):Prop:=∀(l:List Ext) (tags:List Int),QJ l→tags.length≤maxLen→R [.sl 1 2 l.length (l.flatMap Bg),.sl 1 1 tags.length (ints tags)] [] (.sl 0 2 (Jt l tags).length ((Jt l tags).flatMap Bg)) []
abbrev VG (R:Rel):Prop:=∀(t:Int) (tags:List Int),tags.length≤maxLen→R [I t,.rptr 1 [.sl 0 1 tags.length (ints tags)] 0] [] (B (decide (t∈tags))) []
theorem Yv {a:List Int} {r:List V} (h:Lm r):Lm (.rptr 1 [.sl 0 1 a.length (ints a)] 0::r):=Xf (fun H=>by simp) (fun H=>by simp) h
theorem AoO (D:Dn) (hH:SF (D Bz)):VG (Body D NT):=by
 intro t tags hl
 simp -implicitDefEqProofs
 refine Aa (hH tags t hl) ?_
 simp -implicitDefEqProofs
theorem ApK (D:Dn) (h1:VG (D TW)) (hK:Ka D (D Ip)):K3 (Body D Ra):=by
 intro l tags hl ht
 simp -implicitDefEqProofs
 refine Aa (hK l TW _ (fun t=>decide (t∈tags)) hl (Yv ES) (Yl OI) (fun t=>h1 t tags ht)) ?_
 simp -implicitDefEqProofs [Jt]
theorem Aqe (D:Dn) (hH:SF (D JV)):K3 (Body D QR):=by
 intro l tags hl ht
 have hll:=hl.1
 have hres:Jt l tags=kept (fun t=>decide (t∈tags)) l:=rfl
 rw[hres]
 generalize hp:(fun t=>decide (t∈tags))=p
 simp -implicitDefEqProofs
 refine Ag (fun k s=>∃j o1 o2 o3 o4,j+k=l.length∧s=⟨[.sl 1 2 l.length (l.flatMap Bg),.sl 1 1 tags.length (ints tags),.undef,.arr 5,I j,.undef,.undef],[.free,o1,o2,o3,o4,.arr 2 0 (kept p (l.take j)).length ((kept p (l.take j)).flatMap Bg)]⟩) ?_ (l.length) _ ⟨0,.free,.free,.free,.free,by simp,by simp[kept]⟩
 intro k s ⟨j,o1,o2,o3,o4,hj,hs⟩
 subst hs
 by_cases hjn:j<l.length
 ·have hw:IntKind.i64.wrap ((j:Int)+1)=(j+1:Nat):=by rw[Ad (by omega) (by omega)];simp
  have hb:=KT hl hjn
  have h1:l[j].body.length*8≤1099511627776:=by omega
  have hkl:=RY (p:=p) (l:=l) (j:=j)
  have h2:((kept p (l.take j)).length+1)*32≤1099511627776:=by omega
  simp -implicitDefEqProofs [hjn]
  refine Aa (hH tags l[j].tag ht) ?_
  have hpe:decide (l[j].tag∈tags)=p l[j].tag:=by rw[←hp]
  rw[hpe]
  by_cases he:p l[j].tag=true
  ·have hst:=OL hjn he
   have hsl:=GV hjn he
   simp -implicitDefEqProofs [he,hjn,h1,h2]
   exact⟨k-1,by omega,j+1,by omega,by simp[hw],by rw[hsl],by rw[←hst]⟩
  ·have hst:=RU hjn he
   simp -implicitDefEqProofs [he]
   exact⟨k-1,by omega,j+1,by omega,by simp[hw],by rw[hst],by rw[hst]⟩
 ·have e:=Sb (p:=p) (l:=l) (j:=j) (by omega)
  simp -implicitDefEqProofs [hjn,e]
theorem Ags (D:Dn) (hR:EN (D MI)):FV (Body D KC):=by
 intro l hl
 have hll:=hl.1
 have hres:Yk l=kept (fun t=> !Au t) l:=rfl
 rw[hres]
 generalize hp:(fun t=> !Au t)=p
 simp -implicitDefEqProofs
 refine Ag (fun k s=>∃j o1 o2 o3 o4,j+k=l.length∧s=⟨[.sl 1 2 l.length (l.flatMap Bg),.undef,.arr 5,I j,.undef,.undef],[.free,o1,o2,o3,o4,.arr 2 0 (kept p (l.take j)).length ((kept p (l.take j)).flatMap Bg)]⟩) ?_ (l.length) _ ⟨0,.free,.free,.free,.free,by simp,by simp[kept]⟩
 intro k s ⟨j,o1,o2,o3,o4,hj,hs⟩
 subst hs
 by_cases hjn:j<l.length
 ·have hw:IntKind.i64.wrap ((j:Int)+1)=(j+1:Nat):=by rw[Ad (by omega) (by omega)];simp
  have hb:=KT hl hjn
  have h1:l[j].body.length*8≤1099511627776:=by omega
  have hkl:=RY (p:=p) (l:=l) (j:=j)
  have h2:((kept p (l.take j)).length+1)*32≤1099511627776:=by omega
  simp -implicitDefEqProofs [hjn]
  refine Aa (hR l[j].tag) ?_
  have hpe:(!Au l[j].tag)=p l[j].tag:=by rw[←hp]
  by_cases he:p l[j].tag=true
  ·have hst:=OL hjn he
   have hsl:=GV hjn he
   have he':Au l[j].tag=false:=by rw[he]at hpe;simpa using hpe
   simp -implicitDefEqProofs [he',hjn,h1,h2]
   exact⟨k-1,by omega,j+1,by omega,by simp[hw],by rw[hsl],by rw[←hst]⟩
  ·have hst:=RU hjn he
   have he':Au l[j].tag=true:=by simp at he;rw[he]at hpe;simpa using hpe
   simp -implicitDefEqProofs [he']
   exact⟨k-1,by omega,j+1,by omega,by simp[hw],by rw[hst],by rw[hst]⟩
 ·have e:=Sb (p:=p) (l:=l) (j:=j) (by omega)
  simp -implicitDefEqProofs [hjn,e]
theorem Aph (l:List Ext):Jt l (Am l)=l:=by
 unfold Jt kept
 rw[List.filter_eq_self]
 intro x hx
 simp only[decide_eq_true_eq]
 exact List.mem_map.2 ⟨x,hx,rfl⟩
theorem KX (l:List Ext):(Am l).length=l.length:=by simp[Am]
theorem As5 (D:Dn) (hT:Jr (D Zo)) (hK:K3 (D WC)):MO (Body D Rf):=by
 intro l hl
 have hll:=hl.1
 simp -implicitDefEqProofs
 refine Aa (hT l hll) ?_
 simp -implicitDefEqProofs
 refine Aa (hK l (Am l) hl (by rw[KX];unfold maxLen;omega)) ?_
 simp -implicitDefEqProofs [Aph]
end Go.Eng.T
namespace Go.Eng.T
set_option maxRecDepth 20000
def hB (h:Hello):Prop:=h.versions.length≤4194304∧QJ h.exts
def Cj (h:Hello):Bool:=AY h.versions&&D9 h.exts
abbrev DF (R:Rel):Prop:=∀h:Hello,hB h→R [arg (Cr h)] [] (B (Cj h)) []
theorem ApP (D:Dn) (hA:BN (D EW)) (hE:Fa (D Jb)):DF (Body D QM):=by
 intro h hh
 simp -implicitDefEqProofs
 refine Aa (hA _ (by have:=hh.1;unfold maxLen;omega)) ?_
 by_cases h1:AY h.versions=true
 rotate_left
 ·simp -implicitDefEqProofs [h1,Cj]
 simp -implicitDefEqProofs [h1]
 refine Aa (hE _ hh.2) ?_
 simp -implicitDefEqProofs [h1,Cj]
theorem ApJ (D:Dn) (hA:BN (D EX)) (hE:Fa (D Ja)):DF (Body D Q6):=by
 intro h hh
 simp -implicitDefEqProofs
 refine Aa (hA _ (by have:=hh.1;unfold maxLen;omega)) ?_
 by_cases h1:AY h.versions=true
 rotate_left
 ·simp -implicitDefEqProofs [h1,Cj]
 simp -implicitDefEqProofs [h1]
 refine Aa (hE _ hh.2) ?_
 simp -implicitDefEqProofs [h1,Cj]
abbrev Ji (R:Rel):Prop:=∀h:Hello,hB h→R [arg (Cr h)] [] (.agg (Cr h)) []
theorem Amr (D:Dn) (hE:MO (D UQ)):Ji (Body D NA):=by
 intro h hh
 have h1:h.versions.length*8≤1099511627776:=by have:=hh.1;omega
 simp -implicitDefEqProofs [h1]
 refine Aa (hE _ hh.2) ?_
 simp -implicitDefEqProofs
theorem Apk (D:Dn) (hE:MO (D WM)):Ji (Body D Pz):=by
 intro h hh
 have h1:h.versions.length*8≤1099511627776:=by have:=hh.1;omega
 simp -implicitDefEqProofs [h1]
 refine Aa (hE _ hh.2) ?_
 simp -implicitDefEqProofs
def lossy (b:FH) (x:Ext):Bool:=decide (x.tag∈b.drops)||(b.lists&&(!decide (x.tag∈b.strips)&& !decide (Za x.tag 1 3)))
def Apu (vs:List Int):Int:=vs.getLastD 0
def Mr (b:FH) (h:Hello):Bool:=(decide (0<b.limit)&&decide (b.limit<Apu h.versions))||h.exts.any (lossy b)
def stays (b:FH) (t:Int):Bool:= !decide (t∈b.strips)
def AA:Hello:=⟨[],[]⟩
def BF (b:FH) (h:Hello):Hello×Bool:=if F8 b&&(Cj h&& !Mr b h)then(⟨h.versions,kept (stays b) h.exts⟩,true)else(AA,false)
abbrev MU (R:Rel):Prop:=∀(b:FH) (h:Hello),F9 b→hB h→R [arg (Cg b),arg (Cr h)] [] (.tup [.agg (Cr (BF b h).1),B (BF b h).2]) []
theorem U2 {xs:List Int} (h:AY xs=true):0<xs.length:=by
 unfold AY at h
 simp only[Bool.and_eq_true,decide_eq_true_eq]at h
 exact h.2
theorem AyW {xs:List Int} (h:xs.length-1<xs.length):Apu xs=xs[xs.length-1]:=by
 unfold Apu
 rw[List.getLastD_eq_getLast?,List.getLast?_eq_getElem?,List.getElem?_eq_getElem h];rfl
theorem Aqi (D:Dn) (hX:PE (D UI)) (hE:DF (D Fq)) (hH:SF (D JV)) (hI:WN (D EB)):MU (Body D QB):=by
 intro b h hb hh
 obtain⟨hv,hx⟩:=hh
 have hll:=hx.1
 simp -implicitDefEqProofs
 refine Aa (hX b hb) ?_
 by_cases h1:F8 b=true
 rotate_left
 ·simp -implicitDefEqProofs [h1,BF,AA]
 simp -implicitDefEqProofs [h1]
 refine Aa (hE h ⟨hv,hx⟩) ?_
 by_cases h2:Cj h=true
 rotate_left
 ·simp -implicitDefEqProofs [h2,BF,AA]
 have hpos:0<h.versions.length:=U2 (by unfold Cj at h2;simp only[Bool.and_eq_true]at h2;exact h2.1)
 have hn1:h.versions.length-1<h.versions.length:=by omega
 have hw1:IntKind.i64.wrap ((h.versions.length:Int)-1)=((h.versions.length-1:Nat):Int):=by rw[Ad (by omega) (by omega)];omega
 have htop:=AyW hn1
 by_cases h3:0<b.limit
 ·by_cases h4:b.limit<h.versions[h.versions.length-1]
  ·have e:BF b h=(AA,false):=by simp[BF,Mr,htop,h3,h4]
   simp -implicitDefEqProofs [h2,h3,hw1,hn1,hpos,h4,e,AA]
  ·have h3':b.limit<Apu h.versions↔False:=by rw[htop];simpa using h4
   have b0:h.versions.length*8≤1099511627776:=by omega
   simp -implicitDefEqProofs [h2,h3,hw1,hn1,hpos,h4,b0]
   refine Ag (fun k s=>∃j v8 o6 o7 o8 o9,j+k=h.exts.length∧(h.exts.take j).any (lossy b)=false∧s=⟨[.undef,.undef,.ptr 0 0,.ptr 1 0,.ptr 2 0,.undef,.ptr 5 0,I j,v8,.undef,.undef,.undef,.undef,.undef],[.var ((Cg b).map (A9 1)),.var ((Cr h).map (A9 1)),.var [.nil 1,.nil 2],.dead,.arr 1 0 h.versions.length (ints h.versions),.var [.arr 4,.arr 10],o6,o7,o8,o9,.arr 2 0 (kept (stays b) (h.exts.take j)).length ((kept (stays b) (h.exts.take j)).flatMap Bg)]⟩) ?_ (h.exts.length) _ ⟨0,.undef,.free,.free,.free,.free,by simp,by simp,by simp[kept]⟩
   intro k s ⟨j,v8,o6,o7,o8,o9,hj,hp,hs⟩
   subst hs
   by_cases hjn:j<h.exts.length
   ·have hw:IntKind.i64.wrap ((j:Int)+1)=(j+1:Nat):=by rw[Ad (by omega) (by omega)];simp
    have hbd:=KT hx hjn
    have b1:h.exts[j].body.length*8≤1099511627776:=by omega
    have hkl:=RY (p:=stays b) (l:=h.exts) (j:=j)
    have b2:((kept (stays b) (h.exts.take j)).length+1)*32≤1099511627776:=by omega
    have hst:=Ae4 (p:=lossy b) hjn
    rw[hp,Bool.false_or]at hst
    simp -implicitDefEqProofs [hjn]
    refine Aa (hH _ _ hb.2) ?_
    simp -implicitDefEqProofs
    refine Aa (hH _ _ hb.1) ?_
    by_cases g1:h.exts[j].tag∈b.drops
    ·have e:BF b h=(AA,false):=by
      have:=U6 (p:=lossy b) hjn (by simp[lossy,g1])
      simp[BF,Mr,this]
     simp -implicitDefEqProofs [g1,e,AA]
    by_cases g2:h.exts[j].tag∈b.strips
    ·have hl:lossy b h.exts[j]=false:=by simp[lossy,g1,g2]
     have hk:=RU (p:=stays b) hjn (by simp[stays,g2])
     by_cases g3:b.lists=true
     ·simp -implicitDefEqProofs [g1,g2,g3]
      exact⟨k-1,by omega,j+1,by omega,by simpa using hst.trans hl,by simp[hw],by rw[hk],by rw[hk]⟩
     ·simp -implicitDefEqProofs [g1,g2,g3]
      exact⟨k-1,by omega,j+1,by omega,by simpa using hst.trans hl,by simp[hw],by rw[hk],by rw[hk]⟩
    have hk:=OL (p:=stays b) hjn (by simp[stays,g2])
    have hkl:=GV (p:=stays b) hjn (by simp[stays,g2])
    by_cases g3:b.lists=true
    rotate_left
    ·have hl:lossy b h.exts[j]=false:=by simp[lossy,g1,g2,g3]
     simp -implicitDefEqProofs [g1,g2,g3,hjn,b1,b2]
     exact⟨k-1,by omega,j+1,by omega,by simpa using hst.trans hl,by simp[hw],by rw[hkl],by rw[←hk]⟩
    simp -implicitDefEqProofs [g1,g2,g3]
    refine Aa (hI _ _ _) ?_
    by_cases g4:Za h.exts[j].tag 1 3
    ·have hl:lossy b h.exts[j]=false:=by simp[lossy,g1,g2,g3,g4]
     simp -implicitDefEqProofs [g4,hjn,b1,b2]
     exact⟨k-1,by omega,j+1,by omega,by simpa using hst.trans hl,by simp[hw],by rw[hkl],by rw[←hk]⟩
    ·have e:BF b h=(AA,false):=by
      have:=U6 (p:=lossy b) hjn (by simp[lossy,g1,g2,g3,g4])
      simp[BF,Mr,this]
     simp -implicitDefEqProofs [g4,e,AA]
   ·have hje:j=h.exts.length:=by omega
    have ea:h.exts.any (lossy b)=false:=any_none (by omega) hp
    have ek:=Sb (p:=stays b) (l:=h.exts) (j:=j) (by omega)
    have e:BF b h=(⟨h.versions,kept (stays b) h.exts⟩,true):=by simp only[BF,h1,h2,Mr,ea,h3'];simp
    simp -implicitDefEqProofs [hjn,e,ek]
 ·have b0:h.versions.length*8≤1099511627776:=by omega
  simp -implicitDefEqProofs [h2,h3,b0]
  refine Ag (fun k s=>∃j v8 o6 o7 o8 o9,j+k=h.exts.length∧(h.exts.take j).any (lossy b)=false∧s=⟨[.undef,.undef,.ptr 0 0,.ptr 1 0,.ptr 2 0,.undef,.ptr 5 0,I j,v8,.undef,.undef,.undef,.undef,.undef],[.var ((Cg b).map (A9 1)),.var ((Cr h).map (A9 1)),.var [.nil 1,.nil 2],.dead,.arr 1 0 h.versions.length (ints h.versions),.var [.arr 4,.arr 10],o6,o7,o8,o9,.arr 2 0 (kept (stays b) (h.exts.take j)).length ((kept (stays b) (h.exts.take j)).flatMap Bg)]⟩) ?_ (h.exts.length) _ ⟨0,.undef,.free,.free,.free,.free,by simp,by simp,by simp[kept]⟩
  intro k s ⟨j,v8,o6,o7,o8,o9,hj,hp,hs⟩
  subst hs
  by_cases hjn:j<h.exts.length
  ·have hw:IntKind.i64.wrap ((j:Int)+1)=(j+1:Nat):=by rw[Ad (by omega) (by omega)];simp
   have hbd:=KT hx hjn
   have b1:h.exts[j].body.length*8≤1099511627776:=by omega
   have hkl:=RY (p:=stays b) (l:=h.exts) (j:=j)
   have b2:((kept (stays b) (h.exts.take j)).length+1)*32≤1099511627776:=by omega
   have hst:=Ae4 (p:=lossy b) hjn
   rw[hp,Bool.false_or]at hst
   simp -implicitDefEqProofs [hjn]
   refine Aa (hH _ _ hb.2) ?_
   simp -implicitDefEqProofs
   refine Aa (hH _ _ hb.1) ?_
   by_cases g1:h.exts[j].tag∈b.drops
   ·have e:BF b h=(AA,false):=by
     have:=U6 (p:=lossy b) hjn (by simp[lossy,g1])
     simp[BF,Mr,this]
    simp -implicitDefEqProofs [g1,e,AA]
   by_cases g2:h.exts[j].tag∈b.strips
   ·have hl:lossy b h.exts[j]=false:=by simp[lossy,g1,g2]
    have hk:=RU (p:=stays b) hjn (by simp[stays,g2])
    by_cases g3:b.lists=true
    ·simp -implicitDefEqProofs [g1,g2,g3]
     exact⟨k-1,by omega,j+1,by omega,by simpa using hst.trans hl,by simp[hw],by rw[hk],by rw[hk]⟩
    ·simp -implicitDefEqProofs [g1,g2,g3]
     exact⟨k-1,by omega,j+1,by omega,by simpa using hst.trans hl,by simp[hw],by rw[hk],by rw[hk]⟩
   have hk:=OL (p:=stays b) hjn (by simp[stays,g2])
   have hkl:=GV (p:=stays b) hjn (by simp[stays,g2])
   by_cases g3:b.lists=true
   rotate_left
   ·have hl:lossy b h.exts[j]=false:=by simp[lossy,g1,g2,g3]
    simp -implicitDefEqProofs [g1,g2,g3,hjn,b1,b2]
    exact⟨k-1,by omega,j+1,by omega,by simpa using hst.trans hl,by simp[hw],by rw[hkl],by rw[←hk]⟩
   simp -implicitDefEqProofs [g1,g2,g3]
   refine Aa (hI _ _ _) ?_
   by_cases g4:Za h.exts[j].tag 1 3
   ·have hl:lossy b h.exts[j]=false:=by simp[lossy,g1,g2,g3,g4]
    simp -implicitDefEqProofs [g4,hjn,b1,b2]
    exact⟨k-1,by omega,j+1,by omega,by simpa using hst.trans hl,by simp[hw],by rw[hkl],by rw[←hk]⟩
   ·have e:BF b h=(AA,false):=by
     have:=U6 (p:=lossy b) hjn (by simp[lossy,g1,g2,g3,g4])
     simp[BF,Mr,this]
    simp -implicitDefEqProofs [g4,e,AA]
  ·have hje:j=h.exts.length:=by omega
   have ea:h.exts.any (lossy b)=false:=any_none (by omega) hp
   have ek:=Sb (p:=stays b) (l:=h.exts) (j:=j) (by omega)
   have e:BF b h=(⟨h.versions,kept (stays b) h.exts⟩,true):=by simp only[BF,h1,h2,Mr,ea,h3];simp
   simp -implicitDefEqProofs [hjn,e,ek]
abbrev VN (R:Rel):Prop:=∀(t:Int) (b:FH),F9 b→R [I t,.rptr 1 (Cg b) 0] [] (B (stays b t)) []
theorem Apw (D:Dn) (hH:SF (D Bz)):VN (Body D N7):=by
 intro t b hb
 simp -implicitDefEqProofs
 refine Aa (hH b.strips t hb.2) ?_
 simp -implicitDefEqProofs [stays]
abbrev Aev (R:Rel):Prop:=∀(x:Ext) (b:FH),F9 b→R [arg (Bg x),.rptr 1 (Cg b) 0] [] (B (lossy b x)) []
theorem Awc (D:Dn) (hH:SF (D Bz)) (hI:WN (D CK)):Aev (Body D Q5):=by
 intro x b hb
 simp -implicitDefEqProofs
 refine Aa (hH b.drops x.tag hb.1) ?_
 by_cases g1:x.tag∈b.drops
 ·simp -implicitDefEqProofs [g1,lossy]
 by_cases g3:b.lists=true
 rotate_left
 ·simp -implicitDefEqProofs [g1,g3,lossy]
 simp -implicitDefEqProofs [g1,g3]
 refine Aa (hH b.strips x.tag hb.2) ?_
 by_cases g2:x.tag∈b.strips
 ·simp -implicitDefEqProofs [g1,g2,g3,lossy]
 simp -implicitDefEqProofs [g2]
 refine Aa (hI _ _ _) ?_
 simp -implicitDefEqProofs [g1,g2,g3,lossy]
def Ay4 (xs:List Int):Int:=xs.foldl max (xs.headD 0)
abbrev AAE (R:Rel):Prop:=∀xs:List Int,0<xs.length→xs.length≤4194304→R [.sl 1 1 xs.length (ints xs)] [] (I (Ay4 xs)) []
abbrev AoH (R:Rel):Prop:=∀xs:List Int,xs.length≤4194304→R [.sl 1 1 xs.length (ints xs)] [] (.sl 0 1 xs.length (ints xs)) []
abbrev Aj4 (R:Rel):Prop:=∀(b:FH) (h:Hello),F9 b→hB h→F8 b=true→AY h.versions=true→R [arg (Cg b),arg (Cr h)] [] (B (Mr b h)) []
theorem ZI:∀(xs:List Int) (a:Int),(∀x,x∈xs→a≤x)→(∀i,(h:i+1<xs.length)→xs[i]≤xs[i+1])→xs.foldl max a=(xs.getLast?.getD a)
 | [],a,_,_=>rfl
 | x::r,a,h1,h2=>by
  have hx:=h1 x (by simp)
  have hr:∀y,y∈r→x≤y:=by
   intro y hy
   obtain⟨n,hn,rfl⟩:=List.getElem_of_mem hy
   have key:∀m,(hm:m<r.length)→x≤r[m]:=by
    intro m
    induction m with
    | zero=>intro hm;have:=h2 0 (by simp;omega);simpa using this
    | succ m ih=>
     intro hm
     have h3:=ih (by omega)
     have:=h2 (m+1) (by simp;omega)
     simp only[List.getElem_cons_succ]at this
     omega
   exact key n hn
  have ih:=ZI r x hr (fun i h=>by have:=h2 (i+1) (by simp;omega);simpa using this)
  simp only[List.foldl_cons]
  rw[show max a x=x by omega,ih]
  cases r with
  | nil=>rfl
  | cons y s=>simp[List.getLast?_cons_cons,List.getLast?_cons]
theorem Alm {xs:List Int} (h:AY xs=true) {i:Nat} (hi:i+1<xs.length):xs[i]<xs[i+1]:=by
 unfold AY JQ at h
 simp only[Bool.and_eq_true,List.all_eq_true,List.mem_range]at h
 have:=(h.1 (i+1) hi).2
 rw[Us hi,show i+1-1=i by omega,Us (by omega)]at this
 simpa using this
theorem AsQ {xs:List Int} (h:AY xs=true):Ay4 xs=Apu xs:=by
 cases xs with
 | nil=>rfl
 | cons x r=>
  unfold Ay4 Apu
  simp only[List.headD_cons,List.foldl_cons]
  rw[show max x x=x by omega,ZI r x ?_ ?_]
  ·cases r with
   | nil=>rfl
   | cons y s=>simp[List.getLastD_eq_getLast?,List.getLast?_cons_cons,List.getLast?_cons]
  ·intro y hy
   obtain⟨n,hn,rfl⟩:=List.getElem_of_mem hy
   induction n with
   | zero=>have:=Alm h (i:=0) (by simp;omega);simp at this;omega
   | succ m ih=>
    have h3:=ih (by omega) (List.getElem_mem _)
    have:=Alm h (i:=m+1) (by simp;omega)
    simp only[List.getElem_cons_succ]at this
    omega
  ·intro i hi
   have:=Alm h (i:=i+1) (by simp;omega)
   simp only[List.getElem_cons_succ]at this
   omega
theorem AbA {b:FH} {r:List V} (h:Lm r):Lm (.rptr 1 (Cg b) 0::r):=Xf (fun H=>by simp) (fun H=>by simp) h
theorem Azt (D:Dn) (hM:AAE (D Td)) (h1:Aev (D QU)) (hC:IG D (D GN)):Aj4 (Body D Ur):=by
 intro b h hb hh hbox hver
 obtain⟨hv,hx⟩:=hh
 have hll:=hx.1
 have hpos:=U2 hver
 have hlim:0≤b.limit:=by unfold F8 at hbox;simp only[Bool.and_eq_true,decide_eq_true_eq]at hbox;exact hbox.1.1.1.1.1
 by_cases h0:b.limit=0
 ·obtain⟨lim,dr,st,li⟩:=b
  dsimp only at h0
  subst h0
  simp -implicitDefEqProofs
  refine Aa (hC h.exts QU _ (lossy ⟨0,dr,st,li⟩) (by unfold maxLen;omega) (AbA (b:=⟨0,dr,st,li⟩) ES) (fun j hj=>h1 h.exts[j] ⟨0,dr,st,li⟩ hb)) ?_
  simp -implicitDefEqProofs [Mr]
 ·have hn:0<b.limit:=by omega
  simp -implicitDefEqProofs [h0]
  refine Aa (hM h.versions hpos hv) ?_
  rw[AsQ hver]
  by_cases h4:b.limit<Apu h.versions
  ·simp -implicitDefEqProofs [h0,h4,Mr,hn]
  ·simp -implicitDefEqProofs [h0,h4]
   refine Aa (hC h.exts QU _ (lossy b) (by unfold maxLen;omega) (AbA ES) (fun j hj=>h1 h.exts[j] b hb)) ?_
   simp -implicitDefEqProofs [Mr,hn,h4]
theorem Apx (D:Dn) (hX:PE (D Ack)) (hE:DF (D F3)) (hL:Aj4 (D Ami)) (hC:AoH (D QI)) (h1':VN (D TY)) (hK:Ka D (D Ip)):MU (Body D Qz):=by
 intro b h hb hh
 simp -implicitDefEqProofs
 refine Aa (hX b hb) ?_
 by_cases h1:F8 b=true
 rotate_left
 ·simp -implicitDefEqProofs [h1,BF,AA]
 simp -implicitDefEqProofs [h1]
 refine Aa (hE h hh) ?_
 by_cases h2:Cj h=true
 rotate_left
 ·simp -implicitDefEqProofs [h2,BF,AA]
 have hver:AY h.versions=true:=by unfold Cj at h2;simp only[Bool.and_eq_true]at h2;exact h2.1
 simp -implicitDefEqProofs [h2]
 refine Aa (hL b h hb hh h1 hver) ?_
 by_cases h3:Mr b h=true
 ·simp -implicitDefEqProofs [h3,BF,AA]
 have e:BF b h=(⟨h.versions,kept (stays b) h.exts⟩,true):=by simp[BF,h1,h2,h3]
 simp -implicitDefEqProofs [h3]
 refine Aa (hC h.versions hh.1) ?_
 simp -implicitDefEqProofs
 refine Aa (hK h.exts TY _ (stays b) hh.2 (AbA ES) (Yl OI) (fun t=>h1' t b hb)) ?_
 simp -implicitDefEqProofs [e]
end Go.Eng.T
namespace Go.Eng.T
set_option maxRecDepth 20000
def Gx:List FH→Hello→Hello×Bool
 | [],h=>(h,true)
 | b::r,h=>if(BF b h).2=true then Gx r (BF b h).1 else(AA,false)
theorem Ace {path:List FH} {j:Nat} {x:Hello} (h:j<path.length):Gx (path.drop j) x=if(BF path[j] x).2=true then Gx (path.drop (j+1)) (BF path[j] x).1 else(AA,false):=by
 rw[List.drop_eq_getElem_cons h];rfl
theorem Agd {path:List FH} {j:Nat} {x:Hello} (h:path.length≤j):Gx (path.drop j) x=(x,true):=by rw[List.drop_eq_nil_of_le h];rfl
def AU (path:List FH) (h:Hello):Hello×Bool:=if decide (path.length≤4)&&Cj h then Gx path h else(AA,false)
theorem Ag5:hB AA:=⟨by simp[AA],Zj⟩
theorem Alb {b:FH} {h:Hello} (hh:hB h):hB (BF b h).1:=by
 unfold BF
 split
 ·exact⟨hh.1,Rl hh.2 _⟩
 ·exact Ag5
theorem Aqo {b:FH} {h:Hello} (hk:(BF b h).2=false):(BF b h).1=AA:=by
 unfold BF at *
 split at hk
 ·cases hk
 ·rename_i hc;rw[if_neg hc]
abbrev E5 (R:Rel):Prop:=∀(path:List FH) (h:Hello),lnS F9 path→hB h→R [.sl 1 4 path.length (path.flatMap Cg),arg (Cr h)] [] (.tup [.agg (Cr (AU path h).1),B (AU path h).2]) []
theorem AmH (D:Dn) (hE:DF (D Fq)) (hC:Ji (D UU)) (hP:MU (D Aio)):E5 (Body D Pk):=by
 intro path h hb hh
 have hl:=hb.1
 unfold maxLen at hl
 by_cases h1:path.length≤4
 rotate_left
 ·have h1':(4:Int)<path.length:=by omega
  simp -implicitDefEqProofs [h1',h1,AU,AA]
 have h1':¬(4:Int)<path.length:=by omega
 simp -implicitDefEqProofs [h1']
 refine Aa (hE h hh) ?_
 by_cases h2:Cj h=true
 rotate_left
 ·simp -implicitDefEqProofs [h2,h1,AU,AA]
 have e:AU path h=Gx path h:=by simp[AU,h1,h2]
 rw[e]
 simp -implicitDefEqProofs [h2]
 refine Aa (hC h hh) ?_
 simp -implicitDefEqProofs
 refine Ag (fun k s=>∃j x o5 o6 o7,j+k=path.length∧hB x∧Gx path h=Gx (path.drop j) x∧s=⟨[.sl 1 4 path.length (path.flatMap Cg),.undef,.undef,.ptr 1 0,.undef,.ptr 4 0,I j,.undef,.undef,.undef,.undef,.undef],[.var ((Cr h).map (A9 1)),.var [.nil 1,.nil 2],.free,.free,.var [.arr 8,.arr 9],o5,o6,o7,.arr 1 0 x.versions.length (ints x.versions),.arr 2 0 x.exts.length (x.exts.flatMap Bg)]⟩) ?_ (path.length) _ ⟨0,h,.free,.free,.free,by simp,hh,by simp,by simp⟩
 intro k s ⟨j,x,o5,o6,o7,hj,hx,hg,hs⟩
 subst hs
 by_cases hjn:j<path.length
 ·have hw:IntKind.i64.wrap ((j:Int)+1)=(j+1:Nat):=by rw[Ad (by omega) (by omega)];simp
  rw[Ace hjn]at hg
  simp -implicitDefEqProofs [hjn]
  refine Aa (hP path[j] x (hb.2 j hjn) hx) ?_
  have hx':=Alb (b:=path[j]) hx
  generalize BF path[j] x=r at hg hx'
  by_cases hk:r.2=true
  ·rw[if_pos hk]at hg
   simp -implicitDefEqProofs [hk]
   refine⟨k-1,by omega,j+1,by omega,r.1,hx',?_⟩
   simp[hw,hg]
  ·rw[if_neg hk]at hg
   simp -implicitDefEqProofs [hk,hg,AA]
 ·rw[Agd (by omega)]at hg
  simp -implicitDefEqProofs [hjn,hg]
theorem Al2 (D:Dn) (hE:DF (D F3)) (hC:Ji (D Ub)) (hP:MU (D AiK)):E5 (Body D PN):=by
 intro path h hb hh
 have hl:=hb.1
 unfold maxLen at hl
 simp -implicitDefEqProofs
 refine Aa (hE h hh) ?_
 by_cases h2:Cj h=true
 rotate_left
 ·simp -implicitDefEqProofs [h2,AU,AA]
 by_cases h1:path.length≤4
 rotate_left
 ·have h1':(4:Int)<path.length:=by omega
  simp -implicitDefEqProofs [h2,h1',h1,AU,AA]
 have h1':¬(4:Int)<path.length:=by omega
 have e:AU path h=Gx path h:=by simp[AU,h1,h2]
 rw[e]
 simp -implicitDefEqProofs [h2,h1']
 refine Aa (hC h hh) ?_
 simp -implicitDefEqProofs
 refine Ag (fun k s=>∃j x ok o5 o6,j+k=path.length∧hB x∧Gx path h=(if ok=true then Gx (path.drop j) x else(AA,false))∧(ok=false→x=AA)∧s=⟨[.sl 1 4 path.length (path.flatMap Cg),.undef,.undef,.ptr 1 0,.undef,.ptr 4 0,B ok,I j,.undef,.undef],[.var ((Cr h).map (A9 1)),.var [.nil 1,.nil 2],.free,.free,.var [.arr 7,.arr 8],o5,o6,.arr 1 0 x.versions.length (ints x.versions),.arr 2 0 x.exts.length (x.exts.flatMap Bg)]⟩) ?_ (path.length) _ ⟨0,h,true,.free,.free,by simp,hh,by simp,by simp,by simp⟩
 intro k s ⟨j,x,ok,o5,o6,hj,hx,hg,hno,hs⟩
 subst hs
 by_cases hok:ok=true
 rotate_left
 ·rw[if_neg hok]at hg
  have hok':ok=false:=by simpa using hok
  have hno':=hno hok'
  subst hok'
  subst hno'
  by_cases hjn:j<path.length
  ·simp -implicitDefEqProofs [hjn,hg,AA]
  ·simp -implicitDefEqProofs [hjn,hg,AA]
 rw[if_pos hok]at hg
 subst hok
 by_cases hjn:j<path.length
 ·have hw:IntKind.i64.wrap ((j:Int)+1)=(j+1:Nat):=by rw[Ad (by omega) (by omega)];simp
  rw[Ace hjn]at hg
  simp -implicitDefEqProofs [hjn]
  refine Aa (hP path[j] x (hb.2 j hjn) hx) ?_
  have hx':=Alb (b:=path[j]) hx
  have hno':=Aqo (b:=path[j]) (h:=x)
  generalize BF path[j] x=r at hg hx' hno'
  simp -implicitDefEqProofs
  refine⟨k-1,by omega,j+1,by omega,r.1,hx',?_⟩
  simp[hw,hg,hno']
  by_cases hr:r.2=true
  ·right;exact⟨fun h=>by simp[hr]at h,hr⟩
  ·left;exact⟨fun h=>absurd h hr,hno' (by simpa using hr),by simpa using hr⟩
 ·rw[Agd (by omega)]at hg
  simp -implicitDefEqProofs [hjn,hg]
def Es (b:FH):Bool:=decide (b.limit=0)&&(decide (b.drops.length=0)&&(decide (b.strips.length=0)&& !b.lists))
abbrev Nh (R:Rel):Prop:=∀b:FH,F9 b→R [arg (Cg b)] [] (B (Es b)) []
theorem ArE {b:FH} (h:Es b=true):F8 b=true:=by
 unfold Es at h
 simp only[Bool.and_eq_true,decide_eq_true_eq]at h
 obtain⟨h1,h2,h3,_⟩:=h
 have h2':=List.eq_nil_of_length_eq_zero h2
 have h3':=List.eq_nil_of_length_eq_zero h3
 simp[F8,h1,h2',h3',allIn]
theorem Aqj (D:Dn):Nh (Body D QF):=by
 intro b hb
 by_cases g1:b.limit=0
 rotate_left
 ·simp -implicitDefEqProofs [g1,Es,Vf]
 by_cases g2:b.drops.length=0
 rotate_left
 ·have g2':¬(b.drops.length:Int)=0:=by omega
  simp -implicitDefEqProofs [g1,g2,g2',Es,Vf]
 have g2':(b.drops.length:Int)=0:=by omega
 by_cases g3:b.strips.length=0
 rotate_left
 ·have g3':¬(b.strips.length:Int)=0:=by omega
  simp -implicitDefEqProofs [g1,g2,g2',g3,g3',Es,Vf]
 have g3':(b.strips.length:Int)=0:=by omega
 simp -implicitDefEqProofs [g1,g2,g2',g3,g3',Es,Vf]
theorem Apv (D:Dn) (hX:PE (D UI)):Nh (Body D QO):=by
 intro b hb
 simp -implicitDefEqProofs
 refine Aa (hX b hb) ?_
 by_cases h1:F8 b=true
 rotate_left
 ·have e:Es b=false:=by
   by_cases h:Es b=true
   ·exact absurd (ArE h) h1
   ·simpa using h
  simp -implicitDefEqProofs [h1,e]
 by_cases g1:b.limit=0
 rotate_left
 ·simp -implicitDefEqProofs [g1,Es,h1,Vf]
 by_cases g2:b.drops.length=0
 rotate_left
 ·have g2':¬(b.drops.length:Int)=0:=by omega
  simp -implicitDefEqProofs [g1,g2,g2',Es,h1,Vf]
 have g2':(b.drops.length:Int)=0:=by omega
 by_cases g3:b.strips.length=0
 rotate_left
 ·have g3':¬(b.strips.length:Int)=0:=by omega
  simp -implicitDefEqProofs [g1,g2,g2',g3,g3',Es,h1,Vf]
 have g3':(b.strips.length:Int)=0:=by omega
 simp -implicitDefEqProofs [g1,g2,g2',g3,g3',Es,h1,Vf]
def Ej (path:List FH):Bool:=decide (path.length≤4)&&path.all Es
abbrev FT (R:Rel):Prop:=∀path:List FH,lnS F9 path→R [.sl 1 4 path.length (path.flatMap Cg)] [] (B (Ej path)) []
theorem RS {α:Type} {p:α→Bool} {xs:List α} {j:Nat} (h:j<xs.length) (hp:p xs[j]=false):xs.all p=false:=List.all_eq_false.2 ⟨_,List.getElem_mem h,by simp[hp]⟩
theorem UW {α:Type} {p:α→Bool} {xs:List α} {j:Nat} (h:j<xs.length):(xs.take (j+1)).all p=((xs.take j).all p&&p xs[j]):=by
 have e:xs.take (j+1)=xs.take j++ [xs[j]]:=by simp
 rw[e,List.all_append];simp
theorem Y0 {α:Type} {p:α→Bool} {xs:List α} {j:Nat} (h:xs.length≤j):(xs.take j).all p=xs.all p:=by rw[List.take_of_length_le h]
theorem Afr (D:Dn) (hC:Nh (D AhM)):FT (Body D K7):=by
 intro path hb
 have hl:=hb.1
 unfold maxLen at hl
 simp -implicitDefEqProofs
 refine Ag (fun k s=>∃j,j+k=path.length∧(path.take j).all Es=true∧s=⟨[.sl 1 4 path.length (path.flatMap Cg),.undef,I j,.undef,.undef],[]⟩) ?_ (path.length) _ ⟨0,by simp,by simp,by simp⟩
 intro k s ⟨j,hj,hp,hs⟩
 subst hs
 by_cases hjn:j<path.length
 ·have hw:IntKind.i64.wrap ((j:Int)+1)=(j+1:Nat):=by rw[Ad (by omega) (by omega)];simp
  have hst:=UW (p:=Es) hjn
  rw[hp,Bool.true_and]at hst
  simp -implicitDefEqProofs [hjn]
  refine Aa (hC path[j] (hb.2 j hjn)) ?_
  by_cases h1:Es path[j]=true
  ·simp -implicitDefEqProofs [h1]
   exact⟨k-1,by omega,j+1,by omega,by simpa using hst.trans h1,by simp[hw]⟩
  ·have e:Ej path=false:=by unfold Ej;rw[RS hjn (by simpa using h1)];simp
   simp -implicitDefEqProofs [h1,e]
 ·have e:Ej path=decide (path.length≤4):=by unfold Ej;rw[←Y0 (j:=j) (by omega),hp];simp
  by_cases h1:path.length≤4
  ·have h1':(path.length:Int)≤4:=by omega
   simp -implicitDefEqProofs [hjn,e,h1,h1']
  ·have h1':¬(path.length:Int)≤4:=by omega
   simp -implicitDefEqProofs [hjn,e,h1,h1']
abbrev MN (R:Rel):Prop:=∀b:FH,F9 b→R [arg (Cg b)] [] (B (!Es b)) []
theorem Aha (D:Dn) (hC:Nh (D Aie)):MN (Body D I4):=by
 intro b hb
 simp -implicitDefEqProofs
 refine Aa (hC b hb) ?_
 simp -implicitDefEqProofs
theorem AgL (D:Dn) (h1:MN (D Oi)) (hC:Gi D (D Ei)):FT (Body D K8):=by
 intro path hb
 have hl:=hb.1
 by_cases g1:path.length≤4
 rotate_left
 ·have g1':¬(path.length:Int)≤4:=by omega
  simp -implicitDefEqProofs [g1',g1,Ej]
 have g1':(path.length:Int)≤4:=by omega
 simp -implicitDefEqProofs [g1']
 refine Aa (hC path Oi [] (fun b=> !Es b) hl ES (fun j hj=>h1 path[j] (hb.2 j hj))) ?_
 have e:(path.any fun b=> !Es b)= !path.all Es:=by rw[List.all_eq_not_any_not];simp
 rw[e]
 generalize hq:path.all Es=q
 simp -implicitDefEqProofs [Ej,g1,hq]
abbrev Fw (R:Rel):Prop:=∀xs:List Int,xs.length≤4194304→R [.sl 1 1 xs.length (ints xs)] [] (.agg (Cr ⟨xs,[]⟩)) []
theorem AiD (D:Dn):Fw (Body D MF):=by
 intro xs h
 have h1:xs.length*8≤1099511627776:=by omega
 simp -implicitDefEqProofs [h1]
theorem AiW (D:Dn):Fw (Body D Mx):=by
 intro xs h
 have h1:xs.length*8≤1099511627776:=by omega
 simp -implicitDefEqProofs [h1]
def isOpen (path:List FH) (vs:List Int):Bool:=AY vs&&(AU path ⟨vs.take 1,[]⟩).2
abbrev FW (R:Rel):Prop:=∀(path:List FH) (vs:List Int),lnS F9 path→vs.length≤4194304→R [.sl 1 4 path.length (path.flatMap Cg),.sl 1 1 vs.length (ints vs)] [] (B (isOpen path vs)) []
theorem Ai0 (D:Dn) (hA:BN (D EW)) (hH:Fw (D R5)) (hP:E5 (D KA)):FW (Body D MG):=by
 intro path vs hb hv
 simp -implicitDefEqProofs
 refine Aa (hA vs (by unfold maxLen;omega)) ?_
 by_cases h1:AY vs=true
 rotate_left
 ·simp -implicitDefEqProofs [h1,isOpen]
 have hpos:=U2 h1
 have h1l:(1:Int)≤vs.length:=by omega
 have h1n:1≤vs.length:=by omega
 have hlen:(vs.take 1).length=1:=by simp;omega
 have hmin:min 1 vs.length=1:=by omega
 simp -implicitDefEqProofs [h1,h1l,h1n]
 have hh:=hH (vs.take 1) (by omega)
 rw[hlen]at hh
 refine Aa (hh) ?_
 simp -implicitDefEqProofs [hmin]
 have hp:=hP path ⟨vs.take 1,[]⟩ hb ⟨by simp;omega,Zj⟩
 simp -implicitDefEqProofs [hmin]at hp
 refine Aa (hp) ?_
 simp -implicitDefEqProofs [isOpen,h1]
theorem AiZ (D:Dn) (hA:BN (D EX)) (hH:Fw (D RH)) (hP:E5 (D KD)):FW (Body D MH):=by
 intro path vs hb hv
 simp -implicitDefEqProofs
 refine Aa (hA vs (by unfold maxLen;omega)) ?_
 by_cases h1:AY vs=true
 rotate_left
 ·simp -implicitDefEqProofs [h1,isOpen]
 have hpos:=U2 h1
 have h1l:(1:Int)≤vs.length:=by omega
 have h1n:1≤vs.length:=by omega
 have hlen:(vs.take 1).length=1:=by simp;omega
 have hmin:min 1 vs.length=1:=by omega
 simp -implicitDefEqProofs [h1,h1l,h1n]
 have hh:=hH (vs.take 1) (by omega)
 rw[hlen]at hh
 refine Aa (hh) ?_
 simp -implicitDefEqProofs [hmin]
 have hp:=hP path ⟨vs.take 1,[]⟩ hb ⟨by simp;omega,Zj⟩
 simp -implicitDefEqProofs [hmin]at hp
 refine Aa (hp) ?_
 simp -implicitDefEqProofs [isOpen,h1]
def Jm (path:List FH) (v:Int):Bool:= !(AU path ⟨[v],[]⟩).2
def Bd (path:List FH) (vs:List Int):List Int:=if AY vs=true then vs.filter (Jm path)else []
abbrev FD (R:Rel):Prop:=∀(path:List FH) (vs:List Int),lnS F9 path→vs.length≤4194304→R [.sl 1 4 path.length (path.flatMap Cg),.sl 1 1 vs.length (ints vs)] [] (.sl 0 1 (Bd path vs).length (ints (Bd path vs))) []
theorem ApG (path:List FH) (v:Int):isOpen path [v]= !Jm path v:=by
 unfold isOpen Jm
 by_cases h:AY [v]=true
 ·simp[h]
 ·have:AU path ⟨[v],[]⟩=(AA,false):=by
   unfold AU Cj
   have h':AY [v]=false:=by simpa using h
   simp[h']
  simp[h,this]
theorem AdI (D:Dn) (hA:BN (D EW)) (hO:FW (D Rt)):FD (Body D JC):=by
 intro path vs hb hv
 by_cases h1:AY vs=true
 rotate_left
 ·have e:Bd path vs=[]:=by unfold Bd;rw[if_neg h1]
  rw[e]
  simp -implicitDefEqProofs
  refine Ag (fun k s=>s=⟨[.sl 1 4 path.length (path.flatMap Cg),.sl 1 1 vs.length (ints vs),.undef,.arr 3,I 0,.undef,.undef],[.free,.free,.free,.arr 1 0 0 (ints [])]⟩) ?_ 0 _ (by simp)
  intro k s hs
  subst hs
  by_cases h0:0<vs.length
  ·simp -implicitDefEqProofs [h0]
   refine Aa (hA vs (by unfold maxLen;omega)) ?_
   simp -implicitDefEqProofs [h1]
  ·simp -implicitDefEqProofs [h0]
 have e:Bd path vs=vs.filter (Jm path):=by unfold Bd;rw[if_pos h1]
 rw[e]
 simp -implicitDefEqProofs
 refine Ag (fun k s=>∃j o1 o2,j+k=vs.length∧s=⟨[.sl 1 4 path.length (path.flatMap Cg),.sl 1 1 vs.length (ints vs),.undef,.arr 3,I j,.undef,.undef],[.free,o1,o2,.arr 1 0 ((vs.take j).filter (Jm path)).length (ints ((vs.take j).filter (Jm path)))]⟩) ?_ (vs.length) _ ⟨0,.free,.free,by simp,by simp⟩
 intro k s ⟨j,o1,o2,hj,hs⟩
 subst hs
 by_cases hjn:j<vs.length
 ·have hw:IntKind.i64.wrap ((j:Int)+1)=(j+1:Nat):=by rw[Ad (by omega) (by omega)];simp
  have hst:=JW (p:=Jm path) hjn
  have hfl:=Nf (p:=Jm path) (xs:=vs) (j:=j)
  have hb1:(((vs.take j).filter (Jm path)).length+1)*8≤1099511627776:=by omega
  have hw1:IntKind.i64.wrap ((j:Int)+1)=(j:Int)+1:=Ad (by omega) (by omega)
  have hj1:j+1≤vs.length:=by omega
  have hj2:(j:Int)+1≤vs.length:=by omega
  have hdt:(vs.drop j).take 1=[vs[j]]:=by rw[List.drop_eq_getElem_cons hjn];rfl
  simp -implicitDefEqProofs [hjn]
  refine Aa (hA vs (by unfold maxLen;omega)) ?_
  have hjj:(j:Int)≤(j:Int)+1:=by omega
  have h11:j+1-j=1:=by omega
  simp -implicitDefEqProofs [h1,hw1,hj1,hj2,hdt,hjn,hjj,h11]
  refine Aa (hO path [vs[j]] hb (by simp)) ?_
  rw[ApG]
  by_cases h2:Jm path vs[j]=true
  ·rw[if_pos h2]at hst
   simp -implicitDefEqProofs [h2,hjn,hb1]
   exact⟨k-1,by omega,j+1,by omega,by simp[hw],by rw[hst];simp,by rw[hst]⟩
  ·rw[if_neg h2,List.append_nil]at hst
   simp -implicitDefEqProofs [h2]
   exact⟨k-1,by omega,j+1,by omega,by simp[hw],by rw[hst],by rw[hst]⟩
 ·have e2:=Ku (p:=Jm path) (xs:=vs) (j:=j) (by omega)
  simp -implicitDefEqProofs [hjn,e2]
theorem Adf (D:Dn) (hA:BN (D EX)) (hH:Fw (D RH)) (hP:E5 (D KD)):FD (Body D JI):=by
 intro path vs hb hv
 simp -implicitDefEqProofs
 refine Aa (hA vs (by unfold maxLen;omega)) ?_
 by_cases h1:AY vs=true
 rotate_left
 ·have e:Bd path vs=[]:=by unfold Bd;rw[if_neg h1]
  rw[e]
  simp -implicitDefEqProofs [h1]
 have e:Bd path vs=vs.filter (Jm path):=by unfold Bd;rw[if_pos h1]
 rw[e]
 simp -implicitDefEqProofs [h1]
 refine Ag (fun k s=>∃j v4 o1 o2 o3 o4 o5 o6 o7 o8,j+k=vs.length∧s=⟨[.sl 1 4 path.length (path.flatMap Cg),.undef,.undef,.arr 9,v4,.undef,.undef,.sl 1 1 vs.length (ints vs),I vs.length,I j,.undef,.undef],[.free,o1,o2,o3,o4,o5,o6,o7,o8,.arr 1 0 ((vs.take j).filter (Jm path)).length (ints ((vs.take j).filter (Jm path)))]⟩) ?_ (vs.length) _ ⟨0,.undef,.free,.free,.free,.free,.free,.free,.free,.free,by simp,by simp⟩
 intro k s ⟨j,v4,o1,o2,o3,o4,o5,o6,o7,o8,hj,hs⟩
 subst hs
 by_cases hjn:j<vs.length
 ·have hw:IntKind.i64.wrap ((j:Int)+1)=(j+1:Nat):=by rw[Ad (by omega) (by omega)];simp
  have hst:=JW (p:=Jm path) hjn
  have hfl:=Nf (p:=Jm path) (xs:=vs) (j:=j)
  have hb1:(((vs.take j).filter (Jm path)).length+1)*8≤1099511627776:=by omega
  simp -implicitDefEqProofs [hjn]
  refine Aa (hH [vs[j]] (by simp)) ?_
  simp -implicitDefEqProofs
  refine Aa (hP path ⟨[vs[j]],[]⟩ hb ⟨by simp,Zj⟩) ?_
  have hq:Jm path vs[j]= !(AU path ⟨[vs[j]],[]⟩).2:=rfl
  generalize AU path ⟨[vs[j]],[]⟩=r at hq
  by_cases h2:r.2=true
  ·have h3:¬Jm path vs[j]=true:=by rw[hq,h2];simp
   rw[if_neg h3,List.append_nil]at hst
   simp -implicitDefEqProofs [h2]
   exact⟨k-1,by omega,j+1,by omega,by simp[hw],by rw[hst],by rw[hst]⟩
  ·have h3:Jm path vs[j]=true:=by rw[hq];simpa using h2
   rw[if_pos h3]at hst
   simp -implicitDefEqProofs [h2,hb1]
   exact⟨k-1,by omega,j+1,by omega,by simp[hw],by rw[hst];simp,by rw[hst]⟩
 ·have e2:=Ku (p:=Jm path) (xs:=vs) (j:=j) (by omega)
  simp -implicitDefEqProofs [hjn,e2]
end Go.Eng.T
namespace Go.Eng.T
set_option maxRecDepth 20000
set_option maxHeartbeats 1000000
def leftOf (a b:List Int):List Int:=a.filter fun v=> !decide (v∈b)
abbrev Ua (R:Rel):Prop:=∀a b:List Int,a.length≤4194304→b.length≤4194304→R [.sl 1 1 a.length (ints a),.sl 1 1 b.length (ints b)] [] (.sl 0 1 (leftOf a b).length (ints (leftOf a b))) []
theorem Aso (D:Dn) (hH:SF (D JV)):Ua (Body D QH):=by
 intro a b ha hb
 have hres:leftOf a b=a.filter (fun v=> !decide (v∈b)):=rfl
 rw[hres]
 simp -implicitDefEqProofs
 refine Ag (fun k s=>∃j o1 o2,j+k=a.length∧s=⟨[.sl 1 1 a.length (ints a),.sl 1 1 b.length (ints b),.undef,.arr 3,I j,.undef,.undef],[.free,o1,o2,.arr 1 0 ((a.take j).filter (fun v=> !decide (v∈b))).length (ints ((a.take j).filter (fun v=> !decide (v∈b))))]⟩) ?_ (a.length) _ ⟨0,.free,.free,by simp,by simp⟩
 intro k s ⟨j,o1,o2,hj,hs⟩
 subst hs
 by_cases hjn:j<a.length
 ·have hw:IntKind.i64.wrap ((j:Int)+1)=(j+1:Nat):=by rw[Ad (by omega) (by omega)];simp
  have hst:=JW (p:=fun v=> !decide (v∈b)) hjn
  have hln:=Nf (p:=fun v=> !decide (v∈b)) (xs:=a) (j:=j)
  have hbd:(((a.take j).filter (fun v=> !decide (v∈b))).length+1)*8≤1099511627776:=by omega
  simp -implicitDefEqProofs [hjn]
  refine Aa (hH b _ (by unfold maxLen;omega)) ?_
  by_cases h1:a[j]∈b
  ·rw[if_neg (by simp[h1]),List.append_nil]at hst
   simp -implicitDefEqProofs [h1,hjn,hbd]
   exact⟨k-1,by omega,j+1,by omega,by simp[hw],by rw[hst],by rw[hst]⟩
  ·rw[if_pos (by simp[h1])]at hst
   simp -implicitDefEqProofs [h1,hjn,hbd]
   exact⟨k-1,by omega,j+1,by omega,by simp[hw],by rw[hst];simp,by rw[hst]⟩
 ·have hx:=Ku (p:=fun v=> !decide (v∈b)) (xs:=a) (j:=j) (by omega)
  simp -implicitDefEqProofs [hjn,hx]
theorem Aqn (D:Dn) (hH:SF (D Bz)):Ua (Body D Q9):=by
 intro a b ha hb
 have hres:leftOf a b=a.filter (fun v=> !decide (v∈b)):=rfl
 rw[hres]
 simp -implicitDefEqProofs
 refine Ag (fun k s=>∃j v4 o1 o2,j+k=a.length∧s=⟨[.undef,.sl 1 1 b.length (ints b),.undef,.arr 3,v4,.sl 1 1 a.length (ints a),I a.length,I j,.undef,.undef],[.free,o1,o2,.arr 1 0 ((a.take j).filter (fun v=> !decide (v∈b))).length (ints ((a.take j).filter (fun v=> !decide (v∈b))))]⟩) ?_ (a.length) _ ⟨0,.undef,.free,.free,by simp,by simp⟩
 intro k s ⟨j,v4,o1,o2,hj,hs⟩
 subst hs
 by_cases hjn:j<a.length
 ·have hw:IntKind.i64.wrap ((j:Int)+1)=(j+1:Nat):=by rw[Ad (by omega) (by omega)];simp
  have hst:=JW (p:=fun v=> !decide (v∈b)) hjn
  have hln:=Nf (p:=fun v=> !decide (v∈b)) (xs:=a) (j:=j)
  have hbd:(((a.take j).filter (fun v=> !decide (v∈b))).length+1)*8≤1099511627776:=by omega
  simp -implicitDefEqProofs [hjn]
  refine Aa (hH b _ (by unfold maxLen;omega)) ?_
  by_cases h1:a[j]∈b
  ·rw[if_neg (by simp[h1]),List.append_nil]at hst
   simp -implicitDefEqProofs [h1,hjn,hbd]
   exact⟨k-1,by omega,j+1,by omega,by simp[hw],by rw[hst],by rw[hst]⟩
  ·rw[if_pos (by simp[h1])]at hst
   simp -implicitDefEqProofs [h1,hjn,hbd]
   exact⟨k-1,by omega,j+1,by omega,by simp[hw],by rw[hst];simp,by rw[hst]⟩
 ·have hx:=Ku (p:=fun v=> !decide (v∈b)) (xs:=a) (j:=j) (by omega)
  simp -implicitDefEqProofs [hjn,hx]
def upTo (xs:List Int) (i:Nat):Bool:=decide (i=0)||decide (xs.getD (i-1) 0<xs.getD i 0)
def Kn (xs:List Int):Bool:=M4 (upTo xs) xs.length&&allIn xs 0 255
abbrev YG (R:Rel):Prop:=∀xs:List Int,xs.length≤maxLen→R [.sl 1 1 xs.length (ints xs)] [] (B (Kn xs)) []
theorem AnC {xs:List Int} {j:Nat} (h:j<xs.length) (hn:¬Za xs[j] 0 255):Kn xs=false:=by unfold Kn;rw[Amc h hn];simp
theorem Acg {xs:List Int} {j:Nat} (h:j<xs.length) (hn:upTo xs j=false):Kn xs=false:=by unfold Kn;rw[Ag3 h hn];simp
theorem AjD (xs:List Int):upTo xs 0=true:=by simp[upTo]
theorem Aeo {xs:List Int} {j:Nat} (h0:¬j=0) (h:j<xs.length) (h':j-1<xs.length):upTo xs j=decide (xs[j-1]<xs[j]):=by
 unfold upTo
 rw[Us h,Us h']
 simp[h0]
theorem ApX (D:Dn) (hN:H6 (D Iw)):YG (Body D QX):=by
 intro xs hl
 have hl0:=hl
 unfold maxLen at hl
 simp -implicitDefEqProofs
 refine Ag (fun k s=>∃j,j+k=xs.length∧M4 (upTo xs) j=true∧s=⟨[.sl 1 1 xs.length (ints xs),.undef,.undef,.undef,.sl 1 1 xs.length (ints xs),I xs.length,I j,.undef,.undef],[]⟩) ?_ (xs.length) _ ⟨0,by simp,by simp,by simp⟩
 intro k s ⟨j,hj,hr,hs⟩
 subst hs
 by_cases hjn:j<xs.length
 ·have hw:IntKind.i64.wrap ((j:Int)+1)=(j+1:Nat):=by rw[Ad (by omega) (by omega)];simp
  have hst:=HZ (upTo xs) j
  rw[hr,Bool.true_and]at hst
  by_cases h0:j=0
  ·subst h0
   simp -implicitDefEqProofs [hjn]
   exact⟨k-1,by omega,1,by omega,by rw[hst,AjD],by simpa using hw⟩
  ·have hw2:IntKind.i64.wrap ((j:Int)-1)=((j-1:Nat):Int):=by rw[Ad (by omega) (by omega)];omega
   have h2:(0:Int)<j:=by omega
   have h2':0<j:=by omega
   have h3:j-1<xs.length:=by omega
   rw[Aeo h0 hjn h3]at hst
   by_cases h4:xs[j-1]<xs[j]
   ·have h4':¬xs[j]≤xs[j-1]:=by omega
    simp -implicitDefEqProofs [h2,h2',hw2,h3,hjn,h4']
    exact⟨k-1,by omega,j+1,by omega,by rw[hst];simp[h4],by simp[hw]⟩
   ·have e:=Acg hjn (by rw[Aeo h0 hjn h3];simp[h4])
    have h4':xs[j]≤xs[j-1]:=by omega
    simp -implicitDefEqProofs [h2,h2',hw2,h3,hjn,h4',e]
 ·obtain rfl:j=xs.length:=by omega
  have e:Kn xs=allIn xs 0 255:=by unfold Kn;rw[hr];rfl
  simp -implicitDefEqProofs
  refine Aa (hN xs _ _ hl0) ?_
  simp -implicitDefEqProofs [e]
def AZ (e:AQ):Bool:=AY e.versions&&(decide (e.tags.length≤5)&&(Kn e.tags&&(!e.tags.any Au&&(decide (e.path.length≤4)&&(e.path.all F8&&decide (Za e.cls 0 5))))))
abbrev Fp (R:Rel):Prop:=∀e:AQ,Gy e→R [arg (Aj e)] [] (B (AZ e)) []
theorem Ahz (D:Dn) (hI:WN (D EB)) (hR:EN (D MI)) (hX:PE (D UI)) (hA:BN (D EW)):Fp (Body D L9):=by
 intro e hl
 obtain⟨hl1,hl2,hl3⟩:=hl
 have hl4:=hl3.1
 have hl2':=hl2
 unfold Ik at hl2
 unfold maxLen at hl2 hl4
 simp -implicitDefEqProofs
 refine Ag (fun k s=>∃j,j+k=e.tags.length∧allIn (e.tags.take j) 0 255=true∧M4 (upTo e.tags) j=true∧(e.tags.take j).any Au=false∧s=⟨[.undef,.ptr 0 0,.undef,I j,.undef,.undef,.undef,.undef,.undef],[.var ((Aj e).map (A9 1))]⟩) ?_ (e.tags.length) _ ⟨0,by simp,by simp[allIn],by simp,by simp,by simp⟩
 intro k s ⟨j,hj,hp,hr,hq,hs⟩
 subst hs
 by_cases hjn:j<e.tags.length
 ·have hw:IntKind.i64.wrap ((j:Int)+1)=(j+1:Nat):=by rw[Ad (by omega) (by omega)];simp
  have hst:=HZ (upTo e.tags) j
  rw[hr,Bool.true_and]at hst
  have hsq:=Ae4 (p:=Au) hjn
  rw[hq,Bool.false_or]at hsq
  simp -implicitDefEqProofs [hjn]
  refine Aa (hI _ _ _) ?_
  by_cases h1:Za e.tags[j] 0 255
  rotate_left
  ·have e0:AZ e=false:=by unfold AZ;rw[AnC hjn h1];simp
   simp -implicitDefEqProofs [h1,e0]
  simp -implicitDefEqProofs [h1,hjn]
  refine Aa (hR _) ?_
  by_cases h5:Au e.tags[j]=true
  ·have e0:AZ e=false:=by unfold AZ;rw[U6 hjn h5];simp
   simp -implicitDefEqProofs [h5,e0]
  have h5':Au e.tags[j]=false:=by simpa using h5
  by_cases h0:j=0
  ·subst h0
   simp -implicitDefEqProofs [h1,h5']
   exact⟨k-1,by omega,1,by omega,by rw[X9 hjn,hp];simp[h1],by rw[hst,AjD],by simpa using hsq.trans h5',by simpa using hw⟩
  ·have hw2:IntKind.i64.wrap ((j:Int)-1)=((j-1:Nat):Int):=by rw[Ad (by omega) (by omega)];omega
   have h2:(0:Int)<j:=by omega
   have h2':0<j:=by omega
   have h3:j-1<e.tags.length:=by omega
   rw[Aeo h0 hjn h3]at hst
   by_cases h4:e.tags[j-1]<e.tags[j]
   ·have h4':¬e.tags[j]≤e.tags[j-1]:=by omega
    simp -implicitDefEqProofs [h1,h5',h2,h2',hw2,h3,hjn,h4']
    exact⟨k-1,by omega,j+1,by omega,by rw[X9 hjn,hp];simp[h1],by rw[hst];simp[h4],by simpa using hsq.trans h5',by simp[hw]⟩
   ·have e0:AZ e=false:=by unfold AZ;rw[Acg hjn (by rw[Aeo h0 hjn h3];simp[h4])];simp
    have h4':e.tags[j]≤e.tags[j-1]:=by omega
    simp -implicitDefEqProofs [h1,h5',h2,h2',hw2,h3,hjn,h4',e0]
 obtain rfl:j=e.tags.length:=by omega
 have et:Kn e.tags=true:=by unfold Kn;rw[hr,Ajv (by omega) hp];rfl
 have er:e.tags.any Au=false:=any_none (by omega) hq
 simp -implicitDefEqProofs
 refine Ag (fun k s=>∃j,j+k=e.path.length∧(e.path.take j).all F8=true∧s=⟨[.undef,.ptr 0 0,.undef,.undef,I j,.undef,.undef,.undef,.undef],[.var ((Aj e).map (A9 1))]⟩) ?_ (e.path.length) _ ⟨0,by simp,by simp,by simp⟩
 intro k s ⟨j,hj,hb,hs⟩
 subst hs
 by_cases hjn:j<e.path.length
 ·have hw:IntKind.i64.wrap ((j:Int)+1)=(j+1:Nat):=by rw[Ad (by omega) (by omega)];simp
  have hst:=UW (p:=F8) hjn
  rw[hb,Bool.true_and]at hst
  simp -implicitDefEqProofs [hjn]
  refine Aa (hX _ (hl3.2 j hjn)) ?_
  by_cases h1:F8 e.path[j]=true
  ·simp -implicitDefEqProofs [h1]
   exact⟨k-1,by omega,j+1,by omega,by simpa using hst.trans h1,by simp[hw]⟩
  ·have e0:AZ e=false:=by unfold AZ;rw[RS hjn (by simpa using h1)];simp
   simp -implicitDefEqProofs [h1,e0]
 have eb:e.path.all F8=true:=by rw[←Y0 (j:=j) (by omega),hb]
 simp -implicitDefEqProofs [hjn]
 refine Aa (hA _ hl1) ?_
 by_cases g1:AY e.versions=true
 rotate_left
 ·simp -implicitDefEqProofs [g1,AZ]
 by_cases g2:e.tags.length≤5
 rotate_left
 ·have g2':¬(e.tags.length:Int)≤5:=by omega
  simp -implicitDefEqProofs [g1,g2,g2',AZ]
 have g2':(e.tags.length:Int)≤5:=by omega
 by_cases g3:e.path.length≤4
 rotate_left
 ·have g3':¬(e.path.length:Int)≤4:=by omega
  simp -implicitDefEqProofs [g1,g2,g2',g3,g3',AZ]
 have g3':(e.path.length:Int)≤4:=by omega
 simp -implicitDefEqProofs [g1,g2',g3']
 refine Aa (hI _ _ _) ?_
 have ee:AZ e=decide (Za e.cls 0 5):=by unfold AZ;rw[et,er,eb];simp[g1,g2,g3]
 simp -implicitDefEqProofs [ee]
abbrev Ot (R:Rel):Prop:=∀b:FH,F9 b→R [arg (Cg b)] [] (B (!F8 b)) []
theorem AhG (D:Dn) (hX:PE (D Ack)):Ot (Body D Jv):=by
 intro b hb
 simp -implicitDefEqProofs
 refine Aa (hX b hb) ?_
 simp -implicitDefEqProofs
theorem AlF {α:Type} (p:α→Bool) (xs:List α):(xs.any fun x=> !p x)= !xs.all p:=by rw[List.all_eq_not_any_not];simp
theorem AhL (D:Dn) (hA:BN (D EX)) (hT:YG (D AiF)) (hH:M9 (D Sd)) (h1:Ot (D O1)) (hC:Gi D (D Ei)) (hI:WN (D CK)):Fp (Body D Mc):=by
 intro e hl
 obtain⟨hl1,hl2,hl3⟩:=hl
 simp -implicitDefEqProofs
 refine Aa (hA _ hl1) ?_
 by_cases g1:AY e.versions=true
 rotate_left
 ·simp -implicitDefEqProofs [g1,AZ]
 by_cases g2:e.tags.length≤5
 rotate_left
 ·have g2':¬(e.tags.length:Int)≤5:=by omega
  simp -implicitDefEqProofs [g1,g2,g2',AZ]
 have g2':(e.tags.length:Int)≤5:=by omega
 simp -implicitDefEqProofs [g1,g2']
 refine Aa (hT _ hl2) ?_
 by_cases g4:Kn e.tags=true
 rotate_left
 ·simp -implicitDefEqProofs [g4,AZ]
 simp -implicitDefEqProofs [g4]
 refine Aa (hH _ hl2) ?_
 by_cases g5:e.tags.any Au=true
 ·have e0:AZ e=false:=by unfold AZ;rw[g5];simp
  generalize e.tags.any Au=q at g5
  subst g5
  simp -implicitDefEqProofs [e0]
 have g5':e.tags.any Au=false:=by simpa using g5
 have ee:AZ e=(decide (e.path.length≤4)&&(e.path.all F8&&decide (Za e.cls 0 5))):=by unfold AZ;rw[g5',g1,g4];simp[g2]
 rw[ee]
 generalize e.tags.any Au=q at g5'
 subst g5'
 by_cases g3:e.path.length≤4
 rotate_left
 ·have g3':¬(e.path.length:Int)≤4:=by omega
  simp -implicitDefEqProofs [g3,g3']
 have g3':(e.path.length:Int)≤4:=by omega
 simp -implicitDefEqProofs [g3,g3']
 refine Aa (hC e.path O1 [] (fun b=> !F8 b) hl3.1 ES (fun j hj=>h1 e.path[j] (hl3.2 j hj))) ?_
 rw[AlF]
 generalize e.path.all F8=q
 by_cases g6:q=true
 rotate_left
 ·simp -implicitDefEqProofs [g6]
 simp -implicitDefEqProofs [g6]
 refine Aa (hI _ _ _) ?_
 simp -implicitDefEqProofs
theorem AA4 {b:FH} (h:BX b≤4194304):F9 b:=by
 unfold BX at h
 exact⟨by unfold Ik maxLen;omega,by unfold Ik maxLen;omega⟩
theorem Ayg {p:List FH} (h:Bn BX p≤4194304):lnS F9 p:=
 ⟨by have:=Ic (f:=BX) (xs:=p);unfold maxLen;omega,fun j hj=>AA4 (by have:=size_at (f:=BX) hj;omega)⟩
theorem AaS {e:AQ} (h:Ac e≤4194304):Gy e:=by
 unfold Ac at h
 exact⟨by unfold Ik maxLen;omega,by unfold Ik maxLen;omega,Ayg (by omega)⟩
theorem VE {w:World} (h:A8 w≤4194304) {n:Nat} (hn:n<w.ends.length):Ac w.ends[n]≤4194304:=by
 have:=size_at (f:=Ac) hn
 have:=(RV h).2.2.1
 omega
theorem RG {e:AQ} (h:Ac e≤4194304):e.versions.length≤4194304:=by unfold Ac at h;omega
theorem AnY (path:List FH) (vs:List Int):(Bd path vs).length≤vs.length:=by
 unfold Bd
 split
 ·exact List.length_filter_le _ _
 ·simp
end Go.Eng.T
namespace Go.Eng.T
set_option maxRecDepth 20000
set_option maxHeartbeats 2000000
abbrev Ky (D:Dn) (R:Rel):Prop:=∀(xs:List (List Int)) (g:Nat) (caps:List V) (p:List Int→Bool),xs.length≤maxLen→Lm caps→(∀(j:Nat) (h:j<xs.length),D g (.sl 1 1 xs[j].length (ints xs[j])::caps) [] (B (p xs[j])) [])→R [II xs,.fn g caps] [] (I (Gs p xs 0)) []
theorem AdM (D:Dn):Ky D (Body D Ec):=by
 intro xs g caps p hl hc hp
 unfold maxLen at hl
 simp -implicitDefEqProofs
 refine Ag (fun k s=>∃j,j+k=xs.length∧Gs p xs 0=Gs p (xs.drop j) j∧s=⟨[II xs,.fn g caps,.undef,.undef,I xs.length,I j,.undef,.undef],[]⟩) ?_ (xs.length) _ ⟨0,by simp,by simp,by simp⟩
 intro k s ⟨j,hj,hi,hs⟩
 subst hs
 by_cases hjn:j<xs.length
 ·have hw:IntKind.i64.wrap ((j:Int)+1)=(j+1:Nat):=by rw[Ad (by omega) (by omega)];simp
  rw[RF hjn]at hi
  simp -implicitDefEqProofs [hjn,hc.1,hc.2.1]
  refine Aa (hp j hjn) ?_
  by_cases he:p xs[j]=true
  ·rw[if_pos he]at hi
   simp -implicitDefEqProofs [he,hi]
  ·rw[if_neg he]at hi
   simp -implicitDefEqProofs [he]
   exact⟨k-1,by omega,j+1,by omega,by simpa using hi,by simp[hw]⟩
 ·rw[UD (by omega)]at hi
  simp -implicitDefEqProofs [hjn,hi]
abbrev FX (D:Dn) (R:Rel):Prop:=∀(xs:List (List Int)) (g:Nat) (caps:List V) (p:List Int→Bool),xs.length≤maxLen→Lm caps→(∀(j:Nat) (h:j<xs.length),D g (.sl 1 1 xs[j].length (ints xs[j])::caps) [] (B (p xs[j])) [])→R [II xs,.fn g caps] [] (B (xs.any p)) []
theorem XP (D:Dn) (hI:Ky D (D Kr)):FX D (Body D Dz):=by
 intro xs g caps p hl hc hp
 simp -implicitDefEqProofs [hc.2.2]
 refine Aa (hI xs g caps p hl hc hp) ?_
 have e:decide (0≤Gs p xs 0)=xs.any p:=by rw[Bool.eq_iff_iff];simp only[decide_eq_true_eq];rw[TH (by omega)]
 simp -implicitDefEqProofs [e]
def reach (s l:List Int):Bool:= !decide (Bw s l=0)
def Lj (s:List Int) (ls:List (List Int)):Bool:=AY s&&ls.all (reach s)
abbrev J7 (R:Rel):Prop:=∀(s:List Int) (ls:List (List Int)),s.length≤4194304→GA ls≤4194304→R [.sl 1 1 s.length (ints s),II ls] [] (B (Lj s ls)) []
theorem AmL (D:Dn) (hB:El (D LU)) (hA:BN (D EW)):J7 (Body D Pf):=by
 intro sv ls hs hl
 have hll:=O7 (xs:=ls)
 simp -implicitDefEqProofs
 refine Ag (fun k s=>∃j,j+k=ls.length∧(ls.take j).all (reach sv)=true∧s=⟨[.sl 1 1 sv.length (ints sv),II ls,.undef,I j,.undef,.undef],[]⟩) ?_ (ls.length) _ ⟨0,by simp,by simp,by simp⟩
 intro k s ⟨j,hj,hp,hs⟩
 subst hs
 by_cases hjn:j<ls.length
 ·have hw:IntKind.i64.wrap ((j:Int)+1)=(j+1:Nat):=by rw[Ad (by omega) (by omega)];simp
  have hst:=UW (p:=reach sv) hjn
  rw[hp,Bool.true_and]at hst
  have hra:=Vz hjn
  simp -implicitDefEqProofs [hjn]
  refine Aa (hB sv _ hs (by omega)) ?_
  by_cases h1:Bw sv ls[j]=0
  ·have e:Lj sv ls=false:=by unfold Lj;rw[RS hjn (by simp[reach,h1])];simp
   simp -implicitDefEqProofs [h1,e,Vf]
  ·simp -implicitDefEqProofs [h1,Vf]
   exact⟨k-1,by omega,j+1,by omega,by simpa using hst.trans (show reach sv ls[j]=true by simp[reach,h1]),by simp[hw]⟩
 ·have e:Lj sv ls=AY sv:=by unfold Lj;rw[←Y0 (j:=j) (by omega),hp];simp
  simp -implicitDefEqProofs [hjn]
  refine Aa (hA sv (by unfold maxLen;omega)) ?_
  simp -implicitDefEqProofs [e]
abbrev Sn (R:Rel):Prop:=∀(s l:List Int),s.length≤4194304→l.length≤4194304→R [.sl 1 1 l.length (ints l),.rptr 1 [.sl 0 1 s.length (ints s)] 0] [] (B (!reach s l)) []
theorem Aoa (D:Dn) (hB:El (D LJ)):Sn (Body D Mt):=by
 intro s l hs hl
 simp -implicitDefEqProofs
 refine Aa (hB s l hs hl) ?_
 simp -implicitDefEqProofs [reach,Vf]
theorem Am7 (D:Dn) (hA:BN (D EX)) (h1':Sn (D RQ)) (hC:FX D (D Fx)):J7 (Body D O6):=by
 intro s ls hs hl
 have hll:=O7 (xs:=ls)
 simp -implicitDefEqProofs
 refine Aa (hA s (by unfold maxLen;omega)) ?_
 by_cases h1:AY s=true
 rotate_left
 ·simp -implicitDefEqProofs [h1,Lj]
 simp -implicitDefEqProofs [h1]
 refine Aa (hC ls RQ _ (fun l=> !reach s l) (by unfold maxLen;omega) (Yv ES) (fun j hj=>h1' s ls[j] hs (by have:=Vz hj;omega))) ?_
 rw[AlF]
 generalize hq:ls.all (reach s)=q
 simp -implicitDefEqProofs [Lj,h1,hq]
def R9 (k:Int):Bool:=decide (Za k 1 2147483646)
abbrev JY (R:Rel):Prop:=∀k:Int,R [I k] [] (B (R9 k)) []
theorem Amw (D:Dn) (hI:WN (D EB)):JY (Body D LM):=by
 intro k
 simp -implicitDefEqProofs
 refine Aa (hI _ _ _) ?_
 simp -implicitDefEqProofs [R9]
theorem Al8 (D:Dn) (hI:WN (D CK)):JY (Body D LK):=by
 intro k
 simp -implicitDefEqProofs
 refine Aa (hI _ _ _) ?_
 simp -implicitDefEqProofs [R9]
end Go.Eng.T
namespace Go.Eng.T
set_option maxRecDepth 20000
set_option maxHeartbeats 1000000
def IV:List Int→Int→Nat
 | [],_=>0
 | x::r,v=>if x<v then IV r v+1 else 0
theorem AqP:∀(l:List Int) (v:Int),IV l v≤l.length
 | [],_=>Nat.le_refl 0
 | x::r,v=>by
  have:=AqP r v
  simp only[IV,List.length_cons]
  split<;>omega
theorem Ar1 {l:List Int} {v:Int} {j:Nat} (h:j<l.length) (hv:¬l[j]<v):IV (l.drop j) v=0:=by
 rw[List.drop_eq_getElem_cons h]
 simp only[IV,if_neg hv]
def AvX (l:List Int) (i:Nat) (v:Int):List Int:=l.take i++v::l.drop i
theorem Aw8 {l:List Int} {i:Nat} {v:Int} (h:i≤l.length):(AvX l i v).length=l.length+1:=by simp[AvX];omega
def Aiy (l:List Int) (v:Int):List Int:=if l[IV l v]? =some v then l else AvX l (IV l v) v
theorem Avf (l:List Int) (v:Int):(Aiy l v).length≤l.length+1:=by
 unfold Aiy
 split
 ·omega
 ·rw[Aw8 (AqP l v)];omega
end Go.Eng.T
namespace Go.Eng.T
set_option maxRecDepth 20000
set_option maxHeartbeats 1000000
def ABU {α:Type} (f:α→α) (xs:List α) (j:Nat):List α:=(xs.take j).map f++xs.drop j
section
variable {α:Type} {f:α→α} {xs:List α} {j:Nat}
@[simp] theorem AB1 (h:j≤xs.length):(ABU f xs j).length=xs.length:=by simp[ABU];omega
end
end Go.Eng.T
namespace Go.Eng.T
end Go.Eng.T
namespace Go.Eng.T
set_option maxRecDepth 20000
set_option maxHeartbeats 2000000
def AzD {α:Type} (f:Nat→α→α) (xs:List α) (j:Nat):List α:=xs.mapIdx fun i x=>if i<j then f i x else x
section
variable {α:Type} {f:Nat→α→α} {xs:List α} {j:Nat}
@[simp] theorem ABr:(AzD f xs j).length=xs.length:=by simp[AzD]
end
def Au1 (w:World) (i:Nat) (e:AQ):AQ:=if isIn w.rollout i w.ends.length=true then⟨Aiy e.versions w.rollout.version,e.tags,e.path,e.cls⟩else e
def AuM (w:World):Bool:=Ajm w.rollout&& !w.rollout.off
def enter (w:World):World:=if AuM w=true then {w with ends:=w.ends.mapIdx (Au1 w),stage:=[],reached:=max w.reached (w.rollout.pos+1)}else w
abbrev AqG (R:Rel):Prop:=∀a b:Int,R [I a,I b] [] (I (max a b)) []
abbrev Ari (R:Rel):Prop:=∀a b:Int,R [I a,I b] [] (I (min a b)) []
theorem ABj (D:Dn):AqG (Body D AaL):=by
 intro a b
 by_cases h:a<b
 ·have e:max a b=b:=by omega
  simp -implicitDefEqProofs [h,e]
 ·have e:max a b=a:=by omega
  simp -implicitDefEqProofs [h,e]
theorem AA5 (D:Dn):Ari (Body D AbK):=by
 intro a b
 by_cases h:a<b
 ·have e:min a b=a:=by omega
  simp -implicitDefEqProofs [h,e]
  intro;omega
 ·have e:min a b=b:=by omega
  simp -implicitDefEqProofs [h,e]
  intro;omega
end Go.Eng.T
namespace Go.Eng.T
set_option maxRecDepth 20000
set_option maxHeartbeats 1000000
def Si (p q:Int):Int:=if InQ q 1 1000000000000 then(p.tmod q+q).tmod q else 0
abbrev Aiq (R:Rel):Prop:=∀p q:Int,R [I p,I q] [] (I (Si p q)) []
theorem Ale (p:Int) {q:Int} (h:1≤q):-q<p.tmod q∧p.tmod q<q:=by
 have h1:=Int.tmod_lt_of_pos p (show 0<q by omega)
 have h2:=Int.lt_tmod_of_pos p (show 0<q by omega)
 omega
theorem AAX (D:Dn) (hI:WN (D EB)):Aiq (Body D AbR):=by
 intro p q
 simp -implicitDefEqProofs
 refine Aa (hI _ _ _) ?_
 by_cases h:InQ q 1 1000000000000
 rotate_left
 ·simp -implicitDefEqProofs [h,Si]
 have h0:¬q=0:=by omega
 have hb:=Ale p (q:=q) (by omega)
 have hw:IntKind.i64.wrap (p.tmod q+q)=p.tmod q+q:=Ad (by omega) (by omega)
 have e:Si p q=(p.tmod q+q).tmod q:=by unfold Si;rw[if_pos h]
 simp -implicitDefEqProofs [h,h0,hw,e]
theorem AAC (D:Dn) (hI:WN (D CK)):Aiq (Body D Abn):=by
 intro p q
 simp -implicitDefEqProofs
 refine Aa (hI _ _ _) ?_
 by_cases h:InQ q 1 1000000000000
 rotate_left
 ·simp -implicitDefEqProofs [h,Si]
 have h0:¬q=0:=by omega
 have hb:=Ale p (q:=q) (by omega)
 have hw:IntKind.i64.wrap (p.tmod q+q)=p.tmod q+q:=Ad (by omega) (by omega)
 have e:Si p q=(p.tmod q+q).tmod q:=by unfold Si;rw[if_pos h]
 simp -implicitDefEqProofs [h,h0,hw,e]
theorem Aeu (p:Int) {q:Int} (h:InQ q 1 1000000000000):0≤Si p q∧Si p q<q:=by
 unfold Si
 rw[if_pos h]
 have hb:=Ale p (q:=q) (by omega)
 have h1:=Int.tmod_nonneg q (show 0≤p.tmod q+q by omega)
 have h2:=Int.tmod_lt_of_pos (p.tmod q+q) (show 0<q by omega)
 exact⟨h1,h2⟩
def Oe (s v:Int):Int:=(s*1000003+Si v 2147483647+13).tmod 2147483647
def hash (xs:List Int):Int:=xs.foldl Oe 11
abbrev Uc (R:Rel):Prop:=∀xs:List Int,xs.length≤maxLen→R [.sl 1 1 xs.length (ints xs)] [] (I (hash xs)) []
theorem AsD {s v:Int} (h:0≤s):0≤Oe s v∧Oe s v<2147483647:=by
 have hm:=Aeu v (q:=2147483647) ⟨by omega,by omega⟩
 unfold Oe
 exact⟨Int.tmod_nonneg _ (by omega),Int.tmod_lt_of_pos _ (by omega)⟩
theorem Ajy {α:Type} {f:α→Int→α} {xs:List Int} {j:Nat} {a:α} (h:j<xs.length):(xs.take (j+1)).foldl f a=f ((xs.take j).foldl f a) xs[j]:=by
 have e:xs.take (j+1)=xs.take j++ [xs[j]]:=by simp
 rw[e,List.foldl_append];rfl
theorem Alh:∀(xs:List Int) {a:Int},0≤a→a<2147483647→0≤xs.foldl Oe a∧xs.foldl Oe a<2147483647
 | [],a,h1,h2=>⟨h1,h2⟩
 | x::xs,a,h1,h2=>by
  have:=AsD (s:=a) (v:=x) h1
  exact Alh xs this.1 this.2
theorem Ay2 (D:Dn) (hM:Aiq (D AjA)):Uc (Body D Xv):=by
 intro xs hl
 unfold maxLen at hl
 simp -implicitDefEqProofs
 refine Ag (fun k s=>∃j,j+k=xs.length∧s=⟨[.sl 1 1 xs.length (ints xs),.undef,I ((xs.take j).foldl Oe 11),I j,.undef],[]⟩) ?_ (xs.length) _ ⟨0,by simp,by simp⟩
 intro k s ⟨j,hj,hs⟩
 subst hs
 by_cases hjn:j<xs.length
 ·have hw:IntKind.i64.wrap ((j:Int)+1)=(j+1:Nat):=by rw[Ad (by omega) (by omega)];simp
  have hst:=Ajy (f:=Oe) (a:=(11:Int)) hjn
  have hb:=Alh (xs.take j) (a:=11) (by omega) (by omega)
  generalize(xs.take j).foldl Oe 11=s at hst hb
  have hm:=Aeu xs[j] (q:=2147483647) ⟨by omega,by omega⟩
  have w1:IntKind.i64.wrap (s*1000003)=s*1000003:=Ad (by omega) (by omega)
  have w2:IntKind.i64.wrap (s*1000003+Si xs[j] 2147483647)=s*1000003+Si xs[j] 2147483647:=Ad (by omega) (by omega)
  have w3:IntKind.i64.wrap (s*1000003+Si xs[j] 2147483647+13)=s*1000003+Si xs[j] 2147483647+13:=Ad (by omega) (by omega)
  simp -implicitDefEqProofs [hjn,w1]
  refine Aa (hM _ _) ?_
  simp -implicitDefEqProofs [w1,w2,w3]
  exact⟨k-1,by omega,j+1,by omega,by rw[hst];rfl,by simp[hw]⟩
 ·have e:xs.take j=xs:=List.take_of_length_le (by omega)
  simp -implicitDefEqProofs [hjn,e,hash]
theorem Ay3 (D:Dn) (hM:Aiq (D Ajo)):Uc (Body D Ym):=by
 intro xs hl
 unfold maxLen at hl
 simp -implicitDefEqProofs
 refine Ag (fun k s=>∃j,j+k=xs.length∧s=⟨[.undef,.undef,I ((xs.take j).foldl Oe 11),.undef,.sl 1 1 xs.length (ints xs),I xs.length,I j,.undef],[]⟩) ?_ (xs.length) _ ⟨0,by simp,by simp⟩
 intro k s ⟨j,hj,hs⟩
 subst hs
 by_cases hjn:j<xs.length
 ·have hw:IntKind.i64.wrap ((j:Int)+1)=(j+1:Nat):=by rw[Ad (by omega) (by omega)];simp
  have hst:=Ajy (f:=Oe) (a:=(11:Int)) hjn
  have hb:=Alh (xs.take j) (a:=11) (by omega) (by omega)
  generalize(xs.take j).foldl Oe 11=s at hst hb
  have hm:=Aeu xs[j] (q:=2147483647) ⟨by omega,by omega⟩
  have w1:IntKind.i64.wrap (s*1000003)=s*1000003:=Ad (by omega) (by omega)
  have w2:IntKind.i64.wrap (s*1000003+Si xs[j] 2147483647)=s*1000003+Si xs[j] 2147483647:=Ad (by omega) (by omega)
  have w3:IntKind.i64.wrap (s*1000003+Si xs[j] 2147483647+13)=s*1000003+Si xs[j] 2147483647+13:=Ad (by omega) (by omega)
  simp -implicitDefEqProofs [hjn,w1]
  refine Aa (hM _ _) ?_
  simp -implicitDefEqProofs [w1,w2,w3]
  exact⟨k-1,by omega,j+1,by omega,by rw[hst];rfl,by simp[hw]⟩
 ·have e:xs.take j=xs:=List.take_of_length_le (by omega)
  simp -implicitDefEqProofs [hjn,e,hash]
def keyed (k:Int) (xs:List Int):Int:=hash (k::xs++ [k])
abbrev Vg (R:Rel):Prop:=∀(k:Int) (xs:List Int),xs.length≤4194304→R [I k,.sl 1 1 xs.length (ints xs)] [] (I (keyed k xs)) []
theorem Mh (a:Int) (xs:List Int):V.sc (.int .i64 a)::ints xs=ints (a::xs):=rfl
theorem AvD (D:Dn) (hH:Uc (D Xo)):Vg (Body D NK):=by
 intro k xs hl
 have b1:(1+xs.length)*8≤1099511627776:=by omega
 have b2:(1+xs.length+1)*8≤1099511627776:=by omega
 have hlen:(k::xs++ [k]).length=1+xs.length+1:=by simp;omega
 simp -implicitDefEqProofs [b1,b2]
 have hh:=hH (k::xs++ [k]) (by unfold maxLen;omega)
 rw[hlen]at hh
 simp -implicitDefEqProofs [Mh]at hh
 simp -implicitDefEqProofs [Mh]
 refine Aa (hh) ?_
 simp -implicitDefEqProofs [keyed]
def pick (seed p n:Int):Int:=if n<1 then 0 else Si (hash [seed,p]) n
abbrev WK (R:Rel):Prop:=∀seed p n:Int,R [I seed,I p,I n] [] (I (pick seed p n)) []
theorem Azv (D:Dn) (hH:Uc (D Xo)) (hM:Aiq (D AjA)):WK (Body D SB):=by
 intro seed p n
 by_cases h:n<1
 ·simp -implicitDefEqProofs [h,pick]
 simp -implicitDefEqProofs [h]
 refine Aa (hH [seed,p] (by unfold maxLen;simp)) ?_
 simp -implicitDefEqProofs
 refine Aa (hM _ _) ?_
 simp -implicitDefEqProofs [pick,h]
theorem Ay0 (D:Dn) (hH:Uc (D Xn)) (hM:Aiq (D Ajo)):WK (Body D Tx):=by
 intro seed p n
 by_cases h:n<1
 ·simp -implicitDefEqProofs [h,pick]
 simp -implicitDefEqProofs [h]
 refine Aa (hH [seed,p] (by unfold maxLen;simp)) ?_
 simp -implicitDefEqProofs
 refine Aa (hM _ _) ?_
 simp -implicitDefEqProofs [pick,h]
theorem Qf (seed p:Int) {n:Int} (h:InQ n 1 1000000000000):0≤pick seed p n∧pick seed p n<n:=by
 unfold pick
 rw[if_neg (by omega)]
 exact Aeu _ h
def MB (seed:Int):Int:=16*pick seed 0 16+10
abbrev Ie (R:Rel):Prop:=∀seed:Int,R [I seed] [] (I (MB seed)) []
theorem Aj2 (D:Dn) (hP:WK (D Zk)):Ie (Body D N8):=by
 intro seed
 simp -implicitDefEqProofs
 refine Aa (hP _ _ _) ?_
 have hb:=Qf seed 0 (n:=16) ⟨by omega,by omega⟩
 have w1:IntKind.i64.wrap (16*pick seed 0 16)=16*pick seed 0 16:=Ad (by omega) (by omega)
 have w2:IntKind.i64.wrap (16*pick seed 0 16+10)=16*pick seed 0 16+10:=Ad (by omega) (by omega)
 simp -implicitDefEqProofs [w1,w2,MB]
theorem Akw (D:Dn) (hP:WK (D ZO)):Ie (Body D Oa):=by
 intro seed
 simp -implicitDefEqProofs
 refine Aa (hP _ _ _) ?_
 have hb:=Qf seed 0 (n:=16) ⟨by omega,by omega⟩
 have w1:IntKind.i64.wrap (16*pick seed 0 16)=16*pick seed 0 16:=Ad (by omega) (by omega)
 have w2:IntKind.i64.wrap (16*pick seed 0 16+10)=16*pick seed 0 16+10:=Ad (by omega) (by omega)
 simp -implicitDefEqProofs [w1,w2,MB]
def IE (ls:List (List Int)):Bool:=decide (ls.length≤12)&&ls.all fun l=>allIn l 0 255
abbrev Jh (R:Rel):Prop:=∀ls:List (List Int),GA ls≤4194304→R [II ls] [] (B (IE ls)) []
theorem Ao3 (D:Dn) (hB:VP (D TS)):Jh (Body D JL):=by
 intro ls hl
 have hll:=O7 (xs:=ls)
 simp -implicitDefEqProofs
 refine Ag (fun k s=>∃j,j+k=ls.length∧(ls.take j).all (fun l=>allIn l 0 255)=true∧s=⟨[II ls,.undef,I j,.undef,.undef],[]⟩) ?_ (ls.length) _ ⟨0,by simp,by simp,by simp⟩
 intro k s ⟨j,hj,hp,hs⟩
 subst hs
 by_cases hjn:j<ls.length
 ·have hw:IntKind.i64.wrap ((j:Int)+1)=(j+1:Nat):=by rw[Ad (by omega) (by omega)];simp
  have hst:=UW (p:=fun l=>allIn l 0 255) hjn
  rw[hp,Bool.true_and]at hst
  have hra:=Vz hjn
  simp -implicitDefEqProofs [hjn]
  refine Aa (hB _ (by unfold maxLen;omega)) ?_
  by_cases h1:allIn ls[j] 0 255=true
  ·simp -implicitDefEqProofs [h1]
   exact⟨k-1,by omega,j+1,by omega,by simpa using hst.trans h1,by simp[hw]⟩
  ·have e:IE ls=false:=by unfold IE;rw[RS hjn (by simpa using h1)];simp
   simp -implicitDefEqProofs [h1,e]
 ·have e:IE ls=decide (ls.length≤12):=by unfold IE;rw[←Y0 (j:=j) (by omega),hp];simp
  by_cases h5:ls.length≤12
  ·have h5':(ls.length:Int)≤12:=by omega
   simp -implicitDefEqProofs [hjn,e,h5,h5']
  ·have h5':¬(ls.length:Int)≤12:=by omega
   simp -implicitDefEqProofs [hjn,e,h5,h5']
abbrev VL (R:Rel):Prop:=∀l:List Int,l.length≤maxLen→R [.sl 1 1 l.length (ints l)] [] (B (!allIn l 0 255)) []
theorem Ao6 (D:Dn) (hN:H6 (D Iw)):VL (Body D HV):=by
 intro l hl
 simp -implicitDefEqProofs
 refine Aa (hN _ _ _ hl) ?_
 simp -implicitDefEqProofs
theorem Apl (D:Dn) (h1':VL (D MR)) (hC:FX D (D Fx)):Jh (Body D JP):=by
 intro ls hl
 have hll:=O7 (xs:=ls)
 by_cases h5:ls.length≤12
 rotate_left
 ·have h5':¬(ls.length:Int)≤12:=by omega
  simp -implicitDefEqProofs [h5',h5,IE]
 have h5':(ls.length:Int)≤12:=by omega
 simp -implicitDefEqProofs [h5']
 refine Aa (hC ls MR [] (fun l=> !allIn l 0 255) (by unfold maxLen;omega) ES (fun j hj=>h1' ls[j] (by have:=Vz hj;unfold maxLen;omega))) ?_
 rw[AlF]
 generalize hq:(ls.all fun l=>allIn l 0 255)=q
 simp -implicitDefEqProofs [IE,h5,hq]
def Oy (x:Int) (b:List Int):Int:=hash (x::(b.length:Int)::b)
def GU (ls:List (List Int)):Int:=if IE ls=true then ls.foldl Oy 1 else 0
abbrev Hl (R:Rel):Prop:=∀ls:List (List Int),GA ls≤4194304→R [II ls] [] (I (GU ls)) []
theorem Ag9 {α β:Type} {f:α→β→α} {xs:List β} {j:Nat} {a:α} (h:j<xs.length):(xs.take (j+1)).foldl f a=f ((xs.take j).foldl f a) xs[j]:=by
 have e:xs.take (j+1)=xs.take j++ [xs[j]]:=by simp
 rw[e,List.foldl_append];rfl
theorem Aka (D:Dn) (hT:Jh (D OZ)) (hH:Uc (D Xo)):Hl (Body D Il):=by
 intro ls hl
 have hll:=O7 (xs:=ls)
 simp -implicitDefEqProofs
 refine Aa (hT ls hl) ?_
 by_cases h1:IE ls=true
 rotate_left
 ·simp -implicitDefEqProofs [h1,GU]
 simp -implicitDefEqProofs [h1]
 refine Ag (fun k s=>∃j o0 o1,j+k=ls.length∧s=⟨[II ls,.undef,I ((ls.take j).foldl Oy 1),I j,.undef,.undef],[o0,o1]⟩) ?_ (ls.length) _ ⟨0,.free,.free,by simp,by simp⟩
 intro k s ⟨j,o0,o1,hj,hs⟩
 subst hs
 by_cases hjn:j<ls.length
 ·have hw:IntKind.i64.wrap ((j:Int)+1)=(j+1:Nat):=by rw[Ad (by omega) (by omega)];simp
  have hst:=Ag9 (f:=Oy) (a:=(1:Int)) hjn
  have hra:=Vz hjn
  have b1:(2+ls[j].length)*8≤1099511627776:=by omega
  generalize(ls.take j).foldl Oy 1=x at hst
  have hh:=hH (x::(ls[j].length:Int)::ls[j]) (by unfold maxLen;simp;omega)
  have hlen:(x::(ls[j].length:Int)::ls[j]).length=2+ls[j].length:=by simp;omega
  rw[hlen]at hh
  simp only[←Mh]at hh
  simp -implicitDefEqProofs [hjn,b1]
  refine Aa (hh) ?_
  simp -implicitDefEqProofs
  exact⟨k-1,by omega,j+1,by omega,by rw[hst];rfl,by simp[hw]⟩
 ·have e:ls.take j=ls:=List.take_of_length_le (by omega)
  have e2:GU ls=ls.foldl Oy 1:=by unfold GU;rw[if_pos h1]
  simp -implicitDefEqProofs [hjn,e,e2]
theorem AlE (D:Dn) (hT:Jh (D Pe)) (hH:Uc (D Xn)):Hl (Body D H7):=by
 intro ls hl
 have hll:=O7 (xs:=ls)
 simp -implicitDefEqProofs
 refine Aa (hT ls hl) ?_
 by_cases h1:IE ls=true
 rotate_left
 ·simp -implicitDefEqProofs [h1,GU]
 simp -implicitDefEqProofs [h1]
 refine Ag (fun k s=>∃j o0 o1,j+k=ls.length∧s=⟨[.undef,.undef,I ((ls.take j).foldl Oy 1),.undef,.undef,II ls,I ls.length,I j,.undef],[o0,o1]⟩) ?_ (ls.length) _ ⟨0,.free,.free,by simp,by simp⟩
 intro k s ⟨j,o0,o1,hj,hs⟩
 subst hs
 by_cases hjn:j<ls.length
 ·have hw:IntKind.i64.wrap ((j:Int)+1)=(j+1:Nat):=by rw[Ad (by omega) (by omega)];simp
  have hst:=Ag9 (f:=Oy) (a:=(1:Int)) hjn
  have hra:=Vz hjn
  have b1:(2+ls[j].length)*8≤1099511627776:=by omega
  generalize(ls.take j).foldl Oy 1=x at hst
  have hh:=hH (x::(ls[j].length:Int)::ls[j]) (by unfold maxLen;simp;omega)
  have hlen:(x::(ls[j].length:Int)::ls[j]).length=2+ls[j].length:=by simp;omega
  rw[hlen]at hh
  simp only[←Mh]at hh
  simp -implicitDefEqProofs [hjn,b1]
  refine Aa (hh) ?_
  simp -implicitDefEqProofs
  exact⟨k-1,by omega,j+1,by omega,by rw[hst];rfl,by simp[hw]⟩
 ·have e:ls.take j=ls:=List.take_of_length_le (by omega)
  have e2:GU ls=ls.foldl Oy 1:=by unfold GU;rw[if_pos h1]
  simp -implicitDefEqProofs [hjn,e,e2]
def CU (k:Int) (ls:List (List Int)) (side:Int):Int:=if R9 k&&(IE ls&&decide (InQ side 0 1))then keyed k [side,GU ls]else 0
abbrev OA (R:Rel):Prop:=∀(k:Int) (ls:List (List Int)) (side:Int),GA ls≤4194304→R [I k,II ls,I side] [] (I (CU k ls side)) []
theorem Ar2 (D:Dn) (hV:JY (D AaR)) (hT:Jh (D OZ)) (hI:WN (D EB)) (hH:Hl (D UC)) (hK:Vg (D AcF)):OA (Body D PL):=by
 intro k ls side hl
 simp -implicitDefEqProofs
 refine Aa (hV k) ?_
 by_cases h1:R9 k=true
 rotate_left
 ·simp -implicitDefEqProofs [h1,CU]
 simp -implicitDefEqProofs [h1]
 refine Aa (hT ls hl) ?_
 by_cases h2:IE ls=true
 rotate_left
 ·simp -implicitDefEqProofs [h2,CU]
 simp -implicitDefEqProofs [h2]
 refine Aa (hI _ _ _) ?_
 by_cases h3:InQ side 0 1
 rotate_left
 ·simp -implicitDefEqProofs [h3,CU]
 simp -implicitDefEqProofs [h3]
 refine Aa (hH ls hl) ?_
 simp -implicitDefEqProofs
 refine Aa (hK k [side,GU ls] (by simp)) ?_
 simp -implicitDefEqProofs [CU,h1,h2,h3]
theorem Ash (D:Dn) (hV:JY (D Abe)) (hT:Jh (D Pe)) (hI:WN (D CK)) (hH:Hl (D Vj)) (hK:Vg (D Ad9)):OA (Body D O3):=by
 intro k ls side hl
 simp -implicitDefEqProofs
 refine Aa (hV k) ?_
 by_cases h1:R9 k=true
 rotate_left
 ·simp -implicitDefEqProofs [h1,CU]
 simp -implicitDefEqProofs [h1]
 refine Aa (hT ls hl) ?_
 by_cases h2:IE ls=true
 rotate_left
 ·simp -implicitDefEqProofs [h2,CU]
 simp -implicitDefEqProofs [h2]
 refine Aa (hI _ _ _) ?_
 by_cases h3:InQ side 0 1
 rotate_left
 ·simp -implicitDefEqProofs [h3,CU]
 simp -implicitDefEqProofs [h3]
 refine Aa (hH ls hl) ?_
 simp -implicitDefEqProofs
 refine Aa (hK k [side,GU ls] (by simp)) ?_
 simp -implicitDefEqProofs [CU,h1,h2,h3]
def OQ (k:Int) (ls:List (List Int)) (side f:Int):Bool:= !decide (f=0)&&decide (f=CU k ls side)
abbrev SS (R:Rel):Prop:=∀(k:Int) (ls:List (List Int)) (side f:Int),GA ls≤4194304→R [I k,II ls,I side,I f] [] (B (OQ k ls side f)) []
theorem AlD (D:Dn) (hF:OA (D U4)):SS (Body D NM):=by
 intro k ls side f hl
 by_cases h0:f=0
 ·simp -implicitDefEqProofs [h0,OQ]
 simp -implicitDefEqProofs [h0]
 refine Aa (hF k ls side hl) ?_
 simp -implicitDefEqProofs [OQ,h0,Vf]
end Go.Eng.T
