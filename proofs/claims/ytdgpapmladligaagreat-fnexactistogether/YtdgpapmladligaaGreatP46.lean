/- Own work: part 46 of the proof of FnExactIsTogether. -/
import Derived.Test.YtdgpapmladligaaGreatP45
import Derived.Lib.SlicesCompact
import Derived.Below
import Derived.Sort.Grow
import Derived.Deep.Draws
import Derived.Lib.LaidTab
import Derived.Sort.Row
import Derived.Laws.IdiomCopy
import Derived.Lib.Slices
import Derived.Laws.AppendOwn
import Derived.Shelf.Bits.Mul64
import Derived.Shelf.Slices.Turned
import Derived.Shelf.Slices.Reverse
import Derived.Shelf.Slices.Equal
import Derived.Ground.Names2Prog
import Derived.Shelf.Slices.Clone
import Derived.Shelf.Slices.Cells
import Derived.Shelf.Slices.Empties2
import Derived.Ground.SlgnProg
import Derived.Shelf.SlicesE.Reverse
import Derived.Shelf.SlicesE.Clone
import Derived.Test.YtdgpapmladligaaGreatProg
import Derived.Shelf.Spec.SlicesInsertGrow
import Derived.KernelRfl
import Derived.LoopN
set_option linter.unusedSimpArgs false
set_option linter.unusedVariables false
namespace Go.Eng.T
set_option maxRecDepth 20000
set_option maxHeartbeats 1000000
theorem VD {l:List Ext} (h:D9 l=true):l.length≤6:=by
 unfold D9 at h
 simp only[Bool.and_eq_true,decide_eq_true_eq]at h
 exact h.2
theorem AyO {l:List Ext} (h:D9 l=true) {j:Nat} (hj:j<l.length):Tn l j=true:=by
 unfold D9 at h
 simp only[Bool.and_eq_true]at h
 exact ArI.1 h.1 j hj
theorem WV {l:List Ext} (h:D9 l=true) {j:Nat} (hj:j<l.length):l[j].body.length≤4:=by
 have:=AyO h hj
 rw[AbD hj]at this
 unfold Vd at this
 simp only[Bool.and_eq_true,decide_eq_true_eq]at this
 exact this.1.2.1
def ABV (x:Ext):List Int:=x.tag::(x.body.length:Int)::x.body
def Ll (l:List Ext) (j:Nat):List Int:=(l.length:Int)::(l.take j).flatMap ABV
theorem XE {l:List Ext} {j:Nat} (h:j<l.length):Ll l (j+1)=Ll l j++([l[j].tag,(l[j].body.length:Int)]++l[j].body):=by
 have e:l.take (j+1)=l.take j++ [l[j]]:=by simp
 unfold Ll
 rw[e,List.flatMap_append]
 simp[ABV]
theorem VF {l:List Ext} (h:D9 l=true):∀j,j≤l.length→(Ll l j).length≤1+6*j
 | 0,_=>by simp[Ll]
 | j+1,hj=>by
  have ih:=VF h j (by omega)
  have hb:=WV h (j:=j) (by omega)
  rw[XE (by omega)]
  simp only[List.length_append,List.length_cons,List.length_nil]
  omega
def Ed (l:List Ext):List Int×Bool:=if D9 l=true then(Ll l l.length,true)else([],false)
abbrev Fs (R:Rel):Prop:=∀l:List Ext,QJ l→R [.sl 1 2 l.length (l.flatMap Bg)] [] (.tup [.sl 0 1 (Ed l).1.length (ints (Ed l).1),B (Ed l).2]) []
theorem Aia (D:Dn) (hA:Fa (D Jb)):Fs (Body D LG):=by
 intro l hl
 have hll:=hl.1
 simp -implicitDefEqProofs
 refine Aa (hA l hl) ?_
 by_cases h1:D9 l=true
 rotate_left
 ·have e:Ed l=([],false):=by unfold Ed;rw[if_neg h1]
  simp -implicitDefEqProofs [h1,e]
 simp -implicitDefEqProofs [h1]
 refine Ag (fun k s=>∃j o2 o3 o4,j+k=l.length∧s=⟨[.sl 1 2 l.length (l.flatMap Bg),.undef,.undef,.arr 5,I j,.undef,.undef],[.free,.free,o2,o3,o4,.arr 1 0 (Ll l j).length (ints (Ll l j))]⟩) ?_ (l.length) _ ⟨0,.free,.free,.free,by simp,by simp[Ll,ints]⟩
 intro k s ⟨j,o2,o3,o4,hj,hs⟩
 subst hs
 by_cases hjn:j<l.length
 ·have hw:IntKind.i64.wrap ((j:Int)+1)=(j+1:Nat):=by rw[Ad (by omega) (by omega)];simp
  have hst:=XE hjn
  have hle:=VF h1 j (by omega)
  have h6:=VD h1
  have hb4:=WV h1 hjn
  have b1:((Ll l j).length+2)*8≤1099511627776:=by omega
  have b2:((Ll l j).length+2+l[j].body.length)*8≤1099511627776:=by omega
  simp -implicitDefEqProofs [hjn,b1,b2]
  exact⟨k-1,by omega,j+1,by omega,by simp[hw],by rw[hst];simp;omega,by rw[hst];simp[ints]⟩
 ·obtain rfl:j=l.length:=by omega
  have e:Ed l=(Ll l l.length,true):=by unfold Ed;rw[if_pos h1]
  simp -implicitDefEqProofs [e]
theorem AiG (D:Dn) (hA:Fa (D Ja)):Fs (Body D LF):=by
 intro l hl
 have hll:=hl.1
 simp -implicitDefEqProofs
 refine Aa (hA l hl) ?_
 by_cases h1:D9 l=true
 rotate_left
 ·have e:Ed l=([],false):=by unfold Ed;rw[if_neg h1]
  simp -implicitDefEqProofs [h1,e]
 simp -implicitDefEqProofs [h1]
 refine Ag (fun k s=>∃j o1 o2 o3 o4,j+k=l.length∧s=⟨[.undef,.undef,.undef,.arr 5,.undef,.undef,.sl 1 2 l.length (l.flatMap Bg),I l.length,I j,.undef],[.free,o1,o2,o3,o4,.arr 1 0 (Ll l j).length (ints (Ll l j))]⟩) ?_ (l.length) _ ⟨0,.free,.free,.free,.free,by simp,by simp[Ll,ints]⟩
 intro k s ⟨j,o1,o2,o3,o4,hj,hs⟩
 subst hs
 by_cases hjn:j<l.length
 ·have hw:IntKind.i64.wrap ((j:Int)+1)=(j+1:Nat):=by rw[Ad (by omega) (by omega)];simp
  have hst:=XE hjn
  have hle:=VF h1 j (by omega)
  have h6:=VD h1
  have hb4:=WV h1 hjn
  have b1:((Ll l j).length+2)*8≤1099511627776:=by omega
  have b2:((Ll l j).length+2+l[j].body.length)*8≤1099511627776:=by omega
  simp -implicitDefEqProofs [hjn,b1,b2]
  exact⟨k-1,by omega,j+1,by omega,by simp[hw],by rw[hst];simp;omega,by rw[hst];simp[ints]⟩
 ·obtain rfl:j=l.length:=by omega
  have e:Ed l=(Ll l l.length,true):=by unfold Ed;rw[if_pos h1]
  simp -implicitDefEqProofs [e]
theorem JZ (l:List Ext):(Ed l).1.length≤37:=by
 unfold Ed
 split
 ·rename_i h
  have:=VF h l.length (Nat.le_refl _)
  have:=VD h
  dsimp only;omega
 ·simp
def AV (h:Hello):List Int:=if Cj h=true then((h.versions.length:Int)::h.versions)++(Ed h.exts).1 else []
abbrev Gt (R:Rel):Prop:=∀h:Hello,hB h→R [arg (Cr h)] [] (.sl 0 1 (AV h).length (ints (AV h))) []
theorem Atk {h:Hello} (hh:Cj h=true):AY h.versions=true:=by unfold Cj at hh;simp only[Bool.and_eq_true]at hh;exact hh.1
theorem AhQ (D:Dn) (hI:DF (D Fq)) (hE:Fs (D RD)):Gt (Body D LH):=by
 intro h hh
 have hv:=hh.1
 simp -implicitDefEqProofs
 refine Aa (hI h hh) ?_
 by_cases h1:Cj h=true
 rotate_left
 ·simp -implicitDefEqProofs [h1,AV]
 have hl:=JZ h.exts
 have e:AV h=((h.versions.length:Int)::h.versions)++(Ed h.exts).1:=by unfold AV;rw[if_pos h1]
 rw[e]
 simp -implicitDefEqProofs [h1]
 refine Aa (hE h.exts hh.2) ?_
 generalize(Ed h.exts).1=r at hl
 have b1:(1+h.versions.length)*8≤1099511627776:=by omega
 have b2:(1+h.versions.length+r.length)*8≤1099511627776:=by omega
 have el:h.versions.length+r.length+1=1+h.versions.length+r.length:=by omega
 simp -implicitDefEqProofs [b1,b2,Mh,AvK,el]
def H9 (a:Pb):Bool:=decide (InV a.version 1 9)&&D9 a.exts
def Av (a:Pb):List Int:=if H9 a=true then a.version::(Ed a.exts).1 else []
abbrev GR (R:Rel):Prop:=∀a:Pb,QJ a.exts→R [arg (VO a)] [] (B (H9 a)) []
theorem Ana (D:Dn) (hI:WN (D EB)) (hE:Fa (D Jb)):GR (Body D PG):=by
 intro a ha
 simp -implicitDefEqProofs
 refine Aa (hI _ _ _) ?_
 by_cases h1:InV a.version 1 9
 rotate_left
 ·simp -implicitDefEqProofs [h1,H9]
 simp -implicitDefEqProofs [h1]
 refine Aa (hE _ ha) ?_
 simp -implicitDefEqProofs [H9,h1]
theorem Amy (D:Dn) (hI:WN (D CK)) (hE:Fa (D Ja)):GR (Body D PZ):=by
 intro a ha
 simp -implicitDefEqProofs
 refine Aa (hI _ _ _) ?_
 by_cases h1:InV a.version 1 9
 rotate_left
 ·simp -implicitDefEqProofs [h1,H9]
 simp -implicitDefEqProofs [h1]
 refine Aa (hE _ ha) ?_
 simp -implicitDefEqProofs [H9,h1]
abbrev FZ (R:Rel):Prop:=∀a:Pb,QJ a.exts→R [arg (VO a)] [] (.sl 0 1 (Av a).length (ints (Av a))) []
theorem Ad2 (a:Pb):(Av a).length≤38:=by
 unfold Av
 have:=JZ a.exts
 split
 ·simp only[List.length_cons];omega
 ·simp
theorem AeX (D:Dn) (hI:GR (D Uo)) (hE:Fs (D RD)):FZ (Body D KF):=by
 intro a ha
 simp -implicitDefEqProofs
 refine Aa (hI a ha) ?_
 by_cases h1:H9 a=true
 rotate_left
 ·have e:Av a=[]:=by unfold Av;rw[if_neg h1]
  simp -implicitDefEqProofs [h1,e]
 have hl:=JZ a.exts
 have e:Av a=a.version::(Ed a.exts).1:=by unfold Av;rw[if_pos h1]
 rw[e]
 simp -implicitDefEqProofs [h1]
 refine Aa (hE a.exts ha) ?_
 generalize(Ed a.exts).1=r at hl
 have b2:(1+r.length)*8≤1099511627776:=by omega
 have el:r.length+1=1+r.length:=by omega
 simp -implicitDefEqProofs [b2,Mh,el]
theorem AfI (D:Dn) (hI:GR (D Vs)) (hE:Fs (D Rq)):FZ (Body D KO):=by
 intro a ha
 simp -implicitDefEqProofs
 refine Aa (hI a ha) ?_
 by_cases h1:H9 a=true
 rotate_left
 ·have e:Av a=[]:=by unfold Av;rw[if_neg h1]
  simp -implicitDefEqProofs [h1,e]
 have hl:=JZ a.exts
 have e:Av a=a.version::(Ed a.exts).1:=by unfold Av;rw[if_pos h1]
 rw[e]
 simp -implicitDefEqProofs [h1]
 refine Aa (hE a.exts ha) ?_
 generalize(Ed a.exts).1=r at hl
 have b2:(1+r.length)*8≤1099511627776:=by omega
 have el:r.length+1=1+r.length:=by omega
 simp -implicitDefEqProofs [b2,Mh,el]
def AhP (h:Hello) (x:Ext):Bool:=decide (x.tag∈Am h.exts)&& !Au x.tag
def D8 (h:Hello) (a:Pb):Bool:=Cj h&&(H9 a&&(decide (a.version∈h.versions)&&a.exts.all (AhP h)))
abbrev Ig (R:Rel):Prop:=∀(h:Hello) (a:Pb),hB h→QJ a.exts→R [arg (Cr h),arg (VO a)] [] (B (D8 h a)) []
theorem Awt {α:Type} {p:α→Bool} {xs:List α} {i:Int} (h:0≤i):(Gs p xs i<0)=¬(xs.any p=true):=by
 have:=TH (p:=p) (xs:=xs) h
 rw[←this]
 exact propext ⟨fun h=>by omega,fun h=>by omega⟩
theorem Ay5 (l:List Ext) (t:Int):l.any (FR t)=decide (t∈Am l):=by
 rw[Bool.eq_iff_iff]
 simp only[List.any_eq_true,decide_eq_true_eq,Am,List.mem_map,FR]
theorem J4 (l:List Ext) (t:Int):(Hq l t<0)=¬(t∈Am l):=by
 unfold Hq
 rw[Awt (by omega),Ay5]
 simp
theorem Alj (D:Dn) (hX:ND (D Qo)) (hR:EN (D MI)) (hI:DF (D Fq)) (hA:GR (D Uo)) (hH:SF (D JV)):Ig (Body D NQ):=by
 intro h a hh ha
 have hal:=ha.1
 have hxl:=hh.2.1
 have hvl:=hh.1
 simp -implicitDefEqProofs
 refine Ag (fun k s=>∃j,j+k=a.exts.length∧(a.exts.take j).all (AhP h)=true∧s=⟨[.undef,.undef,.ptr 0 0,.ptr 1 0,.undef,I j,.undef,.undef],[.var ((Cr h).map (A9 1)),.var ((VO a).map (A9 1))]⟩) ?_ (a.exts.length) _ ⟨0,by simp,by simp,by simp⟩
 intro k s ⟨j,hj,hp,hs⟩
 subst hs
 by_cases hjn:j<a.exts.length
 ·have hw:IntKind.i64.wrap ((j:Int)+1)=(j+1:Nat):=by rw[Ad (by omega) (by omega)];simp
  have hst:=UW (p:=AhP h) hjn
  rw[hp,Bool.true_and]at hst
  simp -implicitDefEqProofs [hjn]
  refine Aa (hX h.exts _ (by unfold maxLen;omega)) ?_
  by_cases h1:a.exts[j].tag∈Am h.exts
  rotate_left
  ·have e:D8 h a=false:=by unfold D8;rw[RS hjn (by simp[AhP,h1])];simp
   have h1':Hq h.exts a.exts[j].tag<0:=by rw[J4];exact h1
   simp -implicitDefEqProofs [h1',e]
  have h1':¬Hq h.exts a.exts[j].tag<0:=by rw[J4];simpa using h1
  simp -implicitDefEqProofs [h1',hjn]
  refine Aa (hR _) ?_
  by_cases h2:Au a.exts[j].tag=true
  ·have e:D8 h a=false:=by unfold D8;rw[RS hjn (by simp[AhP,h2])];simp
   simp -implicitDefEqProofs [h2,e]
  ·simp -implicitDefEqProofs [h2]
   exact⟨k-1,by omega,j+1,by omega,by simpa using hst.trans (show AhP h a.exts[j]=true by simp[AhP,h1,h2]),by simp[hw]⟩
 ·have e:a.exts.all (AhP h)=true:=by rw[←Y0 (j:=j) (by omega),hp]
  simp -implicitDefEqProofs [hjn]
  refine Aa (hI h hh) ?_
  by_cases g1:Cj h=true
  rotate_left
  ·simp -implicitDefEqProofs [g1,D8]
  simp -implicitDefEqProofs [g1]
  refine Aa (hA a ha) ?_
  by_cases g2:H9 a=true
  rotate_left
  ·simp -implicitDefEqProofs [g2,D8]
  simp -implicitDefEqProofs [g2]
  refine Aa (hH _ _ (by unfold maxLen;omega)) ?_
  have e2:D8 h a=decide (a.version∈h.versions):=by unfold D8;rw[e,g1,g2];simp
  simp -implicitDefEqProofs [e2]
abbrev Sv (R:Rel):Prop:=∀l:List Ext,l.length≤4194304→R [.sl 1 2 l.length (l.flatMap Bg)] [] (B ((Am l).any Au)) []
theorem Akl (D:Dn) (hT:Jr (D OD)) (hH:M9 (D Sd)):Sv (Body D NE):=by
 intro l hl
 simp -implicitDefEqProofs
 refine Aa (hT l hl) ?_
 simp -implicitDefEqProofs
 refine Aa (hH (Am l) (by rw[KX];unfold maxLen;omega)) ?_
 generalize(Am l).any Au=q
 simp -implicitDefEqProofs
theorem Ax3 (h:Hello) (a:Pb):a.exts.all (AhP h)=(decide (leftOf (Am a.exts) (Am h.exts)=[])&& !(Am a.exts).any Au):=by
 have h1:decide (leftOf (Am a.exts) (Am h.exts)=[])=a.exts.all fun x=>decide (x.tag∈Am h.exts):=by
  rw[Bool.eq_iff_iff,decide_eq_true_eq,List.all_eq_true]
  unfold leftOf
  rw[List.filter_eq_nil_iff]
  constructor
  ·intro hp x hx
   have:=hp x.tag (List.mem_map.2 ⟨x,hx,rfl⟩)
   simpa using this
  ·intro hp v hv
   obtain⟨x,hx,rfl⟩:=List.mem_map.1 hv
   simpa using hp x hx
 have h2:(!(Am a.exts).any Au)=a.exts.all fun x=> !Au x.tag:=by
  unfold Am
  rw[List.any_map,List.all_eq_not_any_not]
  simp[Function.comp_def]
 rw[h1,h2]
 generalize a.exts=l
 induction l with
 | nil=>rfl
 | cons x r ih=>
  simp only[List.all_cons,ih,AhP]
  generalize decide (x.tag∈Am h.exts)=p1
  generalize Au x.tag=p2
  cases p1<;>cases p2<;>simp
theorem AlK (D:Dn) (hI:DF (D F3)) (hA:GR (D Vs)) (hH:SF (D Bz)) (hT:Jr (D OD)) (hL:Ua (D MK)) (hG:Sv (D AdA)):Ig (Body D NU):=by
 intro h a hh ha
 have hal:=ha.1
 have hxl:=hh.2.1
 have hvl:=hh.1
 simp -implicitDefEqProofs
 refine Aa (hI h hh) ?_
 by_cases g1:Cj h=true
 rotate_left
 ·simp -implicitDefEqProofs [g1,D8]
 simp -implicitDefEqProofs [g1]
 refine Aa (hA a ha) ?_
 by_cases g2:H9 a=true
 rotate_left
 ·simp -implicitDefEqProofs [g2,D8]
 simp -implicitDefEqProofs [g2]
 refine Aa (hH _ _ (by unfold maxLen;omega)) ?_
 by_cases g3:a.version∈h.versions
 rotate_left
 ·simp -implicitDefEqProofs [g3,D8]
 have e2:D8 h a=(decide (leftOf (Am a.exts) (Am h.exts)=[])&& !(Am a.exts).any Au):=by unfold D8;rw[Ax3,g1,g2];simp[g3]
 rw[e2]
 simp -implicitDefEqProofs [g3]
 refine Aa (hT a.exts hal) ?_
 simp -implicitDefEqProofs
 refine Aa (hT h.exts hxl) ?_
 simp -implicitDefEqProofs
 refine Aa (hL (Am a.exts) (Am h.exts) (by rw[KX];exact hal) (by rw[KX];exact hxl)) ?_
 by_cases g4:leftOf (Am a.exts) (Am h.exts)=[]
 rotate_left
 ·simp -implicitDefEqProofs [g4,Vf]
 simp -implicitDefEqProofs [g4,Vf]
 refine Aa (hG a.exts hal) ?_
 generalize(Am a.exts).any Au=q
 simp -implicitDefEqProofs
def Bb (vs tags:List Int) (h:Hello):Pb×Bool:=if Cj h&& !decide (Bw vs h.versions=0)then(⟨Bw vs h.versions,Yk (Jt h.exts tags)⟩,true)else(⟨0,[]⟩,false)
abbrev Qp (R:Rel):Prop:=∀(vs tags:List Int) (h:Hello),vs.length≤4194304→tags.length≤4194304→hB h→R [.sl 1 1 vs.length (ints vs),.sl 1 1 tags.length (ints tags),arg (Cr h)] [] (.tup [.agg (VO (Bb vs tags h).1),B (Bb vs tags h).2]) []
theorem Asi (D:Dn) (hB':El (D LU)) (hI:DF (D Fq)) (hK:K3 (D WC)) (hS:FV (D YF)):Qp (Body D JG):=by
 intro vs tags h hv ht hh
 simp -implicitDefEqProofs
 refine Aa (hB' vs h.versions hv hh.1) ?_
 simp -implicitDefEqProofs
 refine Aa (hI h hh) ?_
 by_cases h1:Cj h=true
 rotate_left
 ·simp -implicitDefEqProofs [h1,Bb]
 by_cases h2:Bw vs h.versions=0
 ·simp -implicitDefEqProofs [h1,h2,Bb]
 have e:Bb vs tags h=(⟨Bw vs h.versions,Yk (Jt h.exts tags)⟩,true):=by unfold Bb;rw[if_pos (by simp[h1,h2])]
 simp -implicitDefEqProofs [h1,h2]
 refine Aa (hK h.exts tags hh.2 (by unfold maxLen;omega)) ?_
 simp -implicitDefEqProofs
 refine Aa (hS (Jt h.exts tags) (Rl hh.2 _)) ?_
 simp -implicitDefEqProofs [e]
theorem Ata (D:Dn) (hB':El (D LJ)) (hI:DF (D F3)) (hK:K3 (D Aiu)) (hS:FV (D Zm)):Qp (Body D Jy):=by
 intro vs tags h hv ht hh
 simp -implicitDefEqProofs
 refine Aa (hB' vs h.versions hv hh.1) ?_
 simp -implicitDefEqProofs
 refine Aa (hI h hh) ?_
 by_cases h1:Cj h=true
 rotate_left
 ·simp -implicitDefEqProofs [h1,Bb]
 by_cases h2:Bw vs h.versions=0
 ·simp -implicitDefEqProofs [h1,h2,Bb]
 have e:Bb vs tags h=(⟨Bw vs h.versions,Yk (Jt h.exts tags)⟩,true):=by unfold Bb;rw[if_pos (by simp[h1,h2])]
 simp -implicitDefEqProofs [h1,h2]
 refine Aa (hK h.exts tags hh.2 (by unfold maxLen;omega)) ?_
 simp -implicitDefEqProofs
 refine Aa (hS (Jt h.exts tags) (Rl hh.2 _)) ?_
 simp -implicitDefEqProofs [e]
end Go.Eng.T
namespace Go.Eng.T
end Go.Eng.T
namespace Go.Eng.T
open Go.Eng.X
def Cx:Nat→Bv
 |0=>R 0 [x 0 (s 0),x 1 (s 1),a 2 [c,o,N 1]] [(6,0),(7,1),(8,2)] [0,1]
 |1=>R 1 [m (s 2),m (s 3),P 2 (s 7),C 343 [r (l 0),r (l 1),r (l 2)] [3],m (l 3),X (l 4) 0,X (l 4) 1,a 4 [o,N 2],W 2 (l 7) (l 5),m (l 6)] [(9,7),(10,9)] [2,3]
 |2=>R 2 [m (s 10),n (l 0)] [(13,1)] [10]
 |3=>R 3 [b [c,o,N 1] [],W 3 (s 8) (l 0)] [] [4,5,6,7,9]
 |4=>R 4 [P 2 (s 9),a 5 [o,N 2],W 2 (l 1) (l 0)] [(11,1)] []
 |5=>R 5 [m (s 5),e (l 0),m (i 0)] [(14,1),(15,2)] [5]
 |6=>R 6 [y .lss (s 15) (s 14)] [(16,0)] [14,15]
 |7=>T 10 [D (m (s 4)) [] [],D (P 2 (s 7)) [1] [],D (C 345 [r (l 1)] [6]) [6] [6],D (P 2 (s 9)) [4] [],D (C 346 [r (l 3)] [7]) [3,7] [7],D (M 8 1 2 [l 2,l 4]) [6,7,8] [6,7,8],D (C 347 [r (l 0),r (l 5),r (i 1)] []) [8] [],D (m (l 6)) [] []] [(12,7)] [7,9]
 |8=>T 11 [D (P 2 (s 6)) [0] [],D (P 2 (s 11)) [5] [],D (C 348 [r (l 0),r (l 1)] []) [3] [],D (n (l 2)) [] [],D (m (l 3)) [] [],H 4 (m (s 4)) [] [],H 4 (P 2 (s 6)) [0] [],H 4 (C 345 [r (l 6)] [9]) [9] [9],H 4 (P 2 (s 11)) [5] [],H 4 (C 346 [r (l 8)] [10]) [3,10] [10],H 4 (M 11 1 2 [l 7,l 9]) [9,10,11] [9,10,11],H 4 (m (s 12)) [] [],H 4 (C 349 [r (l 5),r (l 10),r (i 1),r (l 11)] []) [11] [],H 4 (n (l 12)) [] [],D (k (l 4) t (l 13)) [] []] [(17,14)] [4,6,12]
 |9=>R 12 [b [c,o,N 1] [],W 3 (s 8) (l 0)] [] [11]
 |_=>T 13 [D (F (s 11) 0) [] [],D (L (l 0)) [5] [],D (F (s 11) 1) [] [],D (L (l 2)) [5] [],D (C 317 [r (l 3)] [12]) [3,12] [12],D (b [c,o,N 1] [(0,1,t),(1,1,l 1),(2,1,l 4)]) [] [],D (W 3 (s 8) (l 5)) [2] [2]] [] [11]
def Ta:BA:=⟨18,13,[0,1,2,3,4,5],0,false,[],j (d (Cx 0)) (j (d (Cx 1)) (j (j (d (Cx 2)) (h 13 (j (d (Cx 3)) (.ret)) (.skip))) (j (d (Cx 4)) (j (j (d (Cx 5)) (.block 0 (.loop (j (d (Cx 6)) (j (h 16 (.skip) (.exit 0)) (j (.block 1 (j (.stuck) (.stuck))) (.stuck))))))) (j (d (Cx 7)) (j (j (d (Cx 8)) (h 17 (j (d (Cx 9)) (.ret)) (.skip))) (j (d (Cx 10)) (.ret)))))))),[.cell 8 (some 3)]⟩
def Afv:List Tmp:=[0,1,2,3,4,5,6,7,12,13,14,15,18,27,31,32,33,61]
def Bp:Nat→Bv
 |0=>R 0 [m (z 2)] [] [2]
 |1=>R 1 [m (s 1),C 310 [r (l 0)] [],m (l 1)] [(3,2)] []
 |2=>R 2 [m (s 0),C 311 [r (l 0)] [0],m (l 1)] [(4,2)] []
 |3=>R 3 [m (s 0),C 312 [r (l 0)] [],n (l 1),m (l 2),G 3 (m (s 0)),G 3 (e (l 4)),G 3 (y .geq (l 5) (i 6)),k (l 3) t (l 6),m (l 7),G 8 (m (s 0)),G 8 (m (s 3)),G 8 (C 309 [r (l 9),r (l 10)] []),G 8 (y .geq (l 11) (i 0)),k (l 8) t (l 12)] [(8,13)] []
 |4=>R 4 [m (s 4),m (l 0)] [(2,1)] [0,1,3,4]
 |5=>Q 5 [m (s 3),b [o,N 1] [(0,1,l 0)],a 1 [o,N 1],W 2 (l 2) (l 1)] [(5,2)] [3] [] [.ownc 1 1 9]
 |6=>R 6 [m (s 1),C 313 [r (l 0),r (i 2),r (i 3)] [],m (l 1)] [(6,2)] []
 |7=>R 7 [m (s 6),y .gtr (l 0) (i 0)] [(9,1)] []
 |8=>Y 9 [D (F (s 5) 1) [] [],D (L (l 0)) [1] [],D (m (s 1)) [] [],D (C 313 [r (l 2),r (i 3),r (i 256)] []) [] [],D (M 2 1 1 [l 3]) [2] [2],D (q 3 1 8 (l 1) (l 4)) [2,3,9] [3,9],D (F (s 5) 1) [] [],D (W 1 (l 6) (l 5)) [1] [1]] [] [] [2,3] [w 3 9]
 |9=>R 8 [m (s 6),y .sub (l 0) (i 1),m (l 1)] [(6,2)] []
 |10=>R 10 [m (s 1),m (s 0),e (l 1),y .add (l 2) (i 1),C 313 [r (l 0),r (i 1),r (l 3)] [],m (l 4)] [(7,5)] [0,1,6]
 |_=>T 11 [D (M 4 2 0 []) [4] [4],D (m (s 4)) [] [],D (m (s 7)) [] [],D (.slice 2 (l 1) none (some (l 2))) [0] [],D (p 5 2 32 (l 0) (l 3)) [0,4,5,100000] [0,4,5,100000],D (P 2 (s 5)) [1] [],D (M 6 2 1 [l 5]) [6,9] [6,9],D (p 7 2 32 (l 4) (l 6)) [5,6,7] [5,6,7],D (m (s 4)) [] [],D (m (s 7)) [] [],D (.slice 2 (l 8) (some (l 9)) none) [0] [],D (p 8 2 32 (l 7) (l 10)) [0,7,8,100000] [0,7,8,100000],D (m (l 11)) [] []] [(2,12)] [4,5,7]
def Nv:BA:=⟨10,10,[0,1],0,false,[],j (d (Bp 0)) (j (d (Bp 1)) (j (d (Bp 2)) (j (j (d (Bp 3)) (h 8 (j (d (Bp 4)) (.ret)) (.skip))) (j (d (Bp 5)) (j (j (d (Bp 6)) (.block 0 (.loop (j (j (d (Bp 7)) (h 9 (.skip) (.exit 0))) (j (.block 1 (d (Bp 8))) (d (Bp 9))))))) (j (d (Bp 10)) (j (d (Bp 11)) (.ret)))))))),[.slot 2]⟩
def Y7:List Tmp:=[0,1,4,5,6,7,8,9,27,34]
attribute [simp] Cx Ta Bp Nv
end Go.Eng.T
namespace Go.Eng.T
set_option maxRecDepth 20000
set_option maxHeartbeats 1000000
theorem Akn (D:Dn):Fg (Body D NZ):=by
 intro xs ys h1 h2
 unfold maxLen at h1 h2
 by_cases hl:xs.length=ys.length
 rotate_left
 ·have hl':¬(xs.length:Int)=ys.length:=by omega
  have:xs≠ys:=fun h=>hl (by rw[h])
  simp -implicitDefEqProofs [hl',this]
 have hl':(xs.length:Int)=ys.length:=by omega
 simp -implicitDefEqProofs [hl']
 refine Ag (fun k s=>∃j,j+k=xs.length∧xs.take j=ys.take j∧s=⟨[.sl 1 1 xs.length (ints xs),.sl 1 1 ys.length (ints ys),.undef,I j,.undef,.undef,.undef],[]⟩) ?_ (xs.length) _ ⟨0,by simp,by simp,by simp⟩
 intro k s ⟨j,hj,hp,hs⟩
 subst hs
 by_cases hjn:j<xs.length
 ·have hw:IntKind.i64.wrap ((j:Int)+1)=(j+1:Nat):=by rw[Ad (by omega) (by omega)];simp
  have hy:j<ys.length:=by omega
  by_cases he:xs[j]=ys[j]
  ·simp -implicitDefEqProofs [hjn,hy,he]
   exact⟨k-1,by omega,j+1,by omega,IA hjn hy hp he,by simp[hw]⟩
  ·have hne:xs≠ys:=fun h=>he (by simp[h])
   simp -implicitDefEqProofs [hjn,hy,he,hne]
 ·obtain rfl:xs=ys:=La (by omega) hl hp
  simp -implicitDefEqProofs [hjn]
theorem Au4 (D:Dn):Fg (Body D F5):=by
 intro xs ys h1 h2
 unfold maxLen at h1 h2
 by_cases hl:xs.length=ys.length
 rotate_left
 ·have hl':¬(xs.length:Int)=ys.length:=by omega
  have:xs≠ys:=fun h=>hl (by rw[h])
  simp -implicitDefEqProofs [hl',this]
 have hl':(xs.length:Int)=ys.length:=by omega
 simp -implicitDefEqProofs [hl']
 refine Ag (fun k s=>∃j,j+k=xs.length∧xs.take j=ys.take j∧s=⟨[.sl 1 1 xs.length (ints xs),.sl 1 1 ys.length (ints ys),.undef,.undef,.undef,I ys.length,I j,.undef,.undef],[]⟩) ?_ (xs.length) _ ⟨0,by simp,by simp,by simp⟩
 intro k s ⟨j,hj,hp,hs⟩
 subst hs
 by_cases hjn:j<xs.length
 ·have hw:IntKind.i64.wrap ((j:Int)+1)=(j+1:Nat):=by rw[Ad (by omega) (by omega)];simp
  have hy:j<ys.length:=by omega
  by_cases he:xs[j]=ys[j]
  ·simp -implicitDefEqProofs [hjn,hy,he]
   exact⟨k-1,by omega,j+1,by omega,IA hjn hy hp he,by simp[hw]⟩
  ·have hne:xs≠ys:=fun h=>he (by simp[h])
   simp -implicitDefEqProofs [hjn,hy,he,hne]
 ·obtain rfl:xs=ys:=La (by omega) hl hp
  simp -implicitDefEqProofs [hjn]
abbrev Ox (R:Rel):Prop:=∀a b:List Ext,QJ a→QJ b→R [.sl 1 2 a.length (a.flatMap Bg),.sl 1 2 b.length (b.flatMap Bg)] [] (B (decide (a=b))) []
abbrev Rp (R:Rel):Prop:=∀a b:Ext,a.body.length≤4194304→b.body.length≤4194304→R [arg (Bg a),arg (Bg b)] [] (B (decide (a=b))) []
theorem ext_eq {a b:Ext} (h1:a.tag=b.tag) (h2:a.body=b.body):a=b:=by cases a;cases b;simp_all
theorem Akb (D:Dn) (hE:Fg (D T9)):Ox (Body D NH):=by
 intro a b ha hb
 have h1:=ha.1
 have h2:=hb.1
 by_cases hl:a.length=b.length
 rotate_left
 ·have hl':¬(a.length:Int)=b.length:=by omega
  have:a≠b:=fun h=>hl (by rw[h])
  simp -implicitDefEqProofs [hl',this]
 have hl':(a.length:Int)=b.length:=by omega
 simp -implicitDefEqProofs [hl']
 refine Ag (fun k s=>∃j,j+k=a.length∧a.take j=b.take j∧s=⟨[.sl 1 2 a.length (a.flatMap Bg),.sl 1 2 b.length (b.flatMap Bg),.undef,I j,.undef,.undef,.undef],[]⟩) ?_ (a.length) _ ⟨0,by simp,by simp,by simp⟩
 intro k s ⟨j,hj,hp,hs⟩
 subst hs
 by_cases hjn:j<a.length
 ·have hw:IntKind.i64.wrap ((j:Int)+1)=(j+1:Nat):=by rw[Ad (by omega) (by omega)];simp
  have hy:j<b.length:=by omega
  by_cases g1:a[j].tag=b[j].tag
  rotate_left
  ·have hne:a≠b:=fun h=>g1 (by simp[h])
   simp -implicitDefEqProofs [hjn,hy,g1,hne]
  simp -implicitDefEqProofs [hjn,hy,g1]
  refine Aa (hE a[j].body b[j].body (by have:=KT ha hjn;unfold maxLen;omega) (by have:=KT hb hy;unfold maxLen;omega)) ?_
  by_cases g2:a[j].body=b[j].body
  ·simp -implicitDefEqProofs [g2]
   exact⟨k-1,by omega,j+1,by omega,IA hjn hy hp (ext_eq g1 g2),by simp[hw]⟩
  ·have hne:a≠b:=fun h=>g2 (by simp[h])
   simp -implicitDefEqProofs [g2,hne]
 ·obtain rfl:a=b:=La (by omega) hl hp
  simp -implicitDefEqProofs [hjn]
theorem Ap8 (D:Dn) (hE:Fg (D Jg)):Rp (Body D OW):=by
 intro a b ha hb
 by_cases g1:a.tag=b.tag
 rotate_left
 ·have hne:a≠b:=fun h=>g1 (by simp[h])
  simp -implicitDefEqProofs [g1,hne]
 simp -implicitDefEqProofs [g1]
 refine Aa (hE a.body b.body (by unfold maxLen;omega) (by unfold maxLen;omega)) ?_
 by_cases g2:a.body=b.body
 ·have e:=ext_eq g1 g2
  simp -implicitDefEqProofs [g2,e]
 ·have hne:a≠b:=fun h=>g2 (by simp[h])
  simp -implicitDefEqProofs [g2,hne]
abbrev SH (D:Dn) (R:Rel):Prop:=∀(a b:List Ext) (g:Nat),QJ a→QJ b→Rp (D g)→R [.sl 1 2 a.length (a.flatMap Bg),.sl 1 2 b.length (b.flatMap Bg),.fn g []] [] (B (decide (a=b))) []
theorem Amj (D:Dn):SH D (Body D Bf):=by
 intro a b g ha hb hg
 have h1:=ha.1
 have h2:=hb.1
 by_cases hl:a.length=b.length
 rotate_left
 ·have hl':¬(a.length:Int)=b.length:=by omega
  have:a≠b:=fun h=>hl (by rw[h])
  simp -implicitDefEqProofs [hl',this]
 have hl':(a.length:Int)=b.length:=by omega
 simp -implicitDefEqProofs [hl']
 refine Ag (fun k s=>∃j o0 o1,j+k=a.length∧a.take j=b.take j∧s=⟨[.undef,.sl 1 2 b.length (b.flatMap Bg),.fn g [],.undef,.undef,.undef,.undef,.undef,.sl 1 2 a.length (a.flatMap Bg),I b.length,I j,.undef,.undef],[o0,o1]⟩) ?_ (a.length) _ ⟨0,.free,.free,by simp,by simp,by simp⟩
 intro k s ⟨j,o0,o1,hj,hp,hs⟩
 subst hs
 by_cases hjn:j<a.length
 ·have hw:IntKind.i64.wrap ((j:Int)+1)=(j+1:Nat):=by rw[Ad (by omega) (by omega)];simp
  have hy:j<b.length:=by omega
  simp -implicitDefEqProofs [hjn,hy,↓OT OI]
  refine Aa (hg a[j] b[j] (KT ha hjn) (KT hb hy)) ?_
  by_cases g2:a[j]=b[j]
  ·simp -implicitDefEqProofs [g2]
   exact⟨k-1,by omega,j+1,by omega,IA hjn hy hp g2,by simp[hw]⟩
  ·have hne:a≠b:=fun h=>g2 (by simp[h])
   simp -implicitDefEqProofs [g2,hne]
 ·obtain rfl:a=b:=La (by omega) hl hp
  simp -implicitDefEqProofs [hjn]
theorem AkD (D:Dn) (h1:Rp (D Ae3)) (hE:SH D (D EG)):Ox (Body D Ny):=by
 intro a b ha hb
 simp -implicitDefEqProofs
 refine Aa (hE a b _ ha hb h1) ?_
 simp -implicitDefEqProofs
abbrev J8 (R:Rel):Prop:=∀a b:Hello,hB a→hB b→R [arg (Cr a),arg (Cr b)] [] (B (decide (a=b))) []
theorem AeY {a b:Hello} (h1:a.versions=b.versions) (h2:a.exts=b.exts):a=b:=by cases a;cases b;simp_all
theorem Ahb (D:Dn) (hE:Fg (D T9)) (hX:Ox (D Ud)):J8 (Body D K6):=by
 intro a b ha hb
 simp -implicitDefEqProofs
 refine Aa (hE a.versions b.versions (by have:=ha.1;unfold maxLen;omega) (by have:=hb.1;unfold maxLen;omega)) ?_
 by_cases g1:a.versions=b.versions
 rotate_left
 ·have hne:a≠b:=fun h=>g1 (by simp[h])
  simp -implicitDefEqProofs [g1,hne]
 simp -implicitDefEqProofs [g1]
 refine Aa (hX a.exts b.exts ha.2 hb.2) ?_
 by_cases g2:a.exts=b.exts
 ·have e:=AeY g1 g2
  simp -implicitDefEqProofs [g2,e]
 ·have hne:a≠b:=fun h=>g2 (by simp[h])
  simp -implicitDefEqProofs [g2,hne]
theorem AeE (D:Dn) (hE:Fg (D Jg)) (hX:Ox (D Aec)):J8 (Body D KR):=by
 intro a b ha hb
 simp -implicitDefEqProofs
 refine Aa (hE a.versions b.versions (by have:=ha.1;unfold maxLen;omega) (by have:=hb.1;unfold maxLen;omega)) ?_
 by_cases g1:a.versions=b.versions
 rotate_left
 ·have hne:a≠b:=fun h=>g1 (by simp[h])
  simp -implicitDefEqProofs [g1,hne]
 simp -implicitDefEqProofs [g1]
 refine Aa (hX a.exts b.exts ha.2 hb.2) ?_
 by_cases g2:a.exts=b.exts
 ·have e:=AeY g1 g2
  simp -implicitDefEqProofs [g2,e]
 ·have hne:a≠b:=fun h=>g2 (by simp[h])
  simp -implicitDefEqProofs [g2,hne]
theorem AjG:∀ {path:List FH} {h:Hello},hB h→hB (Gx path h).1
 | [],h,hh=>hh
 | b::r,h,hh=>by
  unfold Gx
  split
  ·exact AjG (Alb hh)
  ·exact Ag5
theorem MV {path:List FH} {h:Hello} (hh:hB h):hB (AU path h).1:=by
 unfold AU
 split
 ·exact AjG hh
 ·exact Ag5
theorem Acn:∀ {path:List FH} {h:Hello},(Gx path h).2=true→(Gx path h).1.versions=h.versions
 | [],h,_=>rfl
 | b::r,h,hk=>by
  unfold Gx at hk⊢
  split at hk
  ·rename_i hb
   rw[if_pos hb,Acn hk]
   unfold BF at hb⊢
   split at hb
   ·rename_i hc;rw[if_pos hc]
   ·cases hb
  ·cases hk
theorem Aht {path:List FH} {h:Hello} (hk:(AU path h).2=true):(AU path h).1.versions=h.versions:=by
 unfold AU at hk⊢
 split at hk
 ·rename_i hc;rw[if_pos hc];exact Acn hk
 ·cases hk
def CX (h:Hello) (path:List FH):Bool:=(AU path h).2&&decide ((AU path h).1=h)
abbrev Ff (R:Rel):Prop:=∀(h:Hello) (path:List FH),hB h→lnS F9 path→R [arg (Cr h),.sl 1 4 path.length (path.flatMap Cg)] [] (B (CX h path)) []
theorem Afc (D:Dn) (hP:E5 (D KA)) (hQ:J8 (D Zy)):Ff (Body D Km):=by
 intro h path hh hb
 simp -implicitDefEqProofs
 refine Aa (hP path h hb hh) ?_
 have hr:=MV (path:=path) hh
 have e:CX h path=((AU path h).2&&decide ((AU path h).1=h)):=rfl
 generalize AU path h=r at hr e
 by_cases g1:r.2=true
 rotate_left
 ·simp -implicitDefEqProofs [g1,e]
 simp -implicitDefEqProofs [g1]
 refine Aa (hQ r.1 h hr hh) ?_
 simp -implicitDefEqProofs [e,g1]
theorem Af6 (D:Dn) (hP:E5 (D KD)) (hQ:J8 (D ZC)):Ff (Body D K9):=by
 intro h path hh hb
 simp -implicitDefEqProofs
 refine Aa (hP path h hb hh) ?_
 have hr:=MV (path:=path) hh
 have e:CX h path=((AU path h).2&&decide ((AU path h).1=h)):=rfl
 generalize AU path h=r at hr e
 by_cases g1:r.2=true
 rotate_left
 ·simp -implicitDefEqProofs [g1,e]
 simp -implicitDefEqProofs [g1]
 refine Aa (hQ r.1 h hr hh) ?_
 simp -implicitDefEqProofs [e,g1]
end Go.Eng.T
namespace Go.Eng.T
set_option maxRecDepth 20000
set_option maxHeartbeats 1000000
def GK (path:List FH) (vs:List Int) (x:Ext):Bool:= !CX ⟨vs.take 1,[x]⟩ path
def Eu (path:List FH) (vs:List Int) (l:List Ext):List Int:=if D9 l&&isOpen path vs then Am (l.filter (GK path vs))else []
abbrev J2 (R:Rel):Prop:=∀(path:List FH) (vs:List Int) (l:List Ext),lnS F9 path→vs.length≤4194304→QJ l→R [.sl 1 4 path.length (path.flatMap Cg),.sl 1 1 vs.length (ints vs),.sl 1 2 l.length (l.flatMap Bg)] [] (.sl 0 1 (Eu path vs l).length (ints (Eu path vs l))) []
theorem Anz {path:List FH} {vs:List Int} (h:isOpen path vs=true):0<vs.length:=by
 unfold isOpen at h
 simp only[Bool.and_eq_true]at h
 exact U2 h.1
theorem AfR {p:Ext→Bool} {l:List Ext} {j:Nat} (h:j<l.length):Am ((l.take (j+1)).filter p)=Am ((l.take j).filter p)++(if p l[j]then [l[j].tag]else []):=by
 rw[AfO h]
 unfold Am
 rw[List.map_append]
 split<;>simp
theorem Ai9 {p:Ext→Bool} {l:List Ext} {j:Nat}:(Am ((l.take j).filter p)).length≤j:=by
 unfold Am
 rw[List.length_map]
 exact Aje
theorem ApL {path:List FH} {vs:List Int} {x:Ext}:GK path vs x= !((AU path ⟨vs.take 1,[x]⟩).2&&decide ((AU path ⟨vs.take 1,[x]⟩).1.exts=[x])):=by
 unfold GK CX
 by_cases h:(AU path ⟨vs.take 1,[x]⟩).2=true
 ·have hv:=Aht h
  have e:decide ((AU path ⟨vs.take 1,[x]⟩).1=⟨vs.take 1,[x]⟩)=decide ((AU path ⟨vs.take 1,[x]⟩).1.exts=[x]):=by
   rw[decide_eq_decide]
   constructor
   ·intro h1;rw[h1]
   ·intro h1;exact AeY hv h1
  rw[e]
 ·simp[h]
theorem AnX (D:Dn) (hA:Fa (D Jb)) (hO:FW (D Rt)) (hH:Fw (D R5)) (hP:E5 (D KA)) (hX:Ox (D Ud)):J2 (Body D OX):=by
 intro path vs l hb hv hl
 have hll:=hl.1
 simp -implicitDefEqProofs
 refine Aa (hA l hl) ?_
 by_cases h1:D9 l=true
 rotate_left
 ·simp -implicitDefEqProofs [h1,Eu]
 simp -implicitDefEqProofs [h1]
 refine Aa (hO path vs hb hv) ?_
 by_cases h2:isOpen path vs=true
 rotate_left
 ·simp -implicitDefEqProofs [h2,h1,Eu]
 have e:Eu path vs l=Am (l.filter (GK path vs)):=by unfold Eu;rw[h1,h2];rfl
 have hpos:=Anz h2
 have h1l:(1:Int)≤vs.length:=by omega
 have h1n:1≤vs.length:=by omega
 have hlen:(vs.take 1).length=1:=by simp;omega
 have hmin:min 1 vs.length=1:=by omega
 rw[e]
 simp -implicitDefEqProofs [h2]
 refine Ag (fun k s=>∃j o1 o2 o3 o4 o5 o6 o7 o8,j+k=l.length∧s=⟨[.sl 1 4 path.length (path.flatMap Cg),.sl 1 1 vs.length (ints vs),.sl 1 2 l.length (l.flatMap Bg),.undef,.arr 9,I j,.undef,.undef,.undef,.undef,.undef,.undef],[.free,o1,o2,o3,o4,o5,o6,o7,o8,.arr 1 0 (Am ((l.take j).filter (GK path vs))).length (ints (Am ((l.take j).filter (GK path vs))))]⟩) ?_ (l.length) _ ⟨0,.free,.free,.free,.free,.free,.free,.free,.free,by simp,by simp[Am,ints]⟩
 intro k s ⟨j,o1,o2,o3,o4,o5,o6,o7,o8,hj,hs⟩
 subst hs
 by_cases hjn:j<l.length
 ·have hw:IntKind.i64.wrap ((j:Int)+1)=(j+1:Nat):=by rw[Ad (by omega) (by omega)];simp
  have hst:=AfR (p:=GK path vs) hjn
  have hfl:=Ai9 (p:=GK path vs) (l:=l) (j:=j)
  have hb1:((Am ((l.take j).filter (GK path vs))).length+1)*8≤1099511627776:=by omega
  have hw1:IntKind.i64.wrap ((j:Int)+1)=(j:Int)+1:=Ad (by omega) (by omega)
  have hj1:j+1≤l.length:=by omega
  have hj2:(j:Int)+1≤l.length:=by omega
  have hjj:(j:Int)≤(j:Int)+1:=by omega
  have h11:j+1-j=1:=by omega
  simp -implicitDefEqProofs [hjn,h1l,h1n]
  have hh:=hH (vs.take 1) (by omega)
  rw[hlen]at hh
  refine Aa (hh) ?_
  have hdt:(l.drop j).take 1=[l[j]]:=by rw[List.drop_eq_getElem_cons hjn];rfl
  simp -implicitDefEqProofs [hmin,hw1,hj1,hj2,hjj,h11,hdt]
  have hhB:hB ⟨vs.take 1,[l[j]]⟩:=⟨by simp;omega,by simp,by intro x hx;simp at hx;subst hx;exact KT hl hjn⟩
  have hp:=hP path ⟨vs.take 1,[l[j]]⟩ hb hhB
  have hr:=MV (path:=path) hhB
  have hq:=ApL (path:=path) (vs:=vs) (x:=l[j])
  simp -implicitDefEqProofs [hmin,arg]at hp
  refine Aa (hp) ?_
  generalize AU path ⟨vs.take 1,[l[j]]⟩=r at hr hq
  by_cases g1:r.2=true
  rotate_left
  ·have h3:GK path vs l[j]=true:=by rw[hq];simp[g1]
   rw[if_pos h3]at hst
   simp -implicitDefEqProofs [g1,hjn,hb1]
   exact⟨k-1,by omega,j+1,by omega,by simp[hw],by rw[hst];simp,by rw[hst]⟩
  simp -implicitDefEqProofs [g1]
  have hx:=hX r.1.exts [l[j]] hr.2 hhB.2
  simp -implicitDefEqProofs [arg]at hx
  refine Aa (hx) ?_
  by_cases g2:r.1.exts=[l[j]]
  ·have h3:¬GK path vs l[j]=true:=by rw[hq];simp[g1,g2]
   rw[if_neg h3,List.append_nil]at hst
   simp -implicitDefEqProofs [g2]
   exact⟨k-1,by omega,j+1,by omega,by simp[hw],by rw[hst],by rw[hst]⟩
  ·have h3:GK path vs l[j]=true:=by rw[hq];simp[g2]
   rw[if_pos h3]at hst
   simp -implicitDefEqProofs [g2,hjn,hb1]
   exact⟨k-1,by omega,j+1,by omega,by simp[hw],by rw[hst];simp,by rw[hst]⟩
 ·have e2:(l.take j).filter (GK path vs)=l.filter (GK path vs):=AaK (by omega)
  simp -implicitDefEqProofs [hjn,e2]
theorem Amx (D:Dn) (hA:Fa (D Ja)) (hO:FW (D Abf)) (hP:Ff (D Qa)):J2 (Body D Pd):=by
 intro path vs l hb hv hl
 have hll:=hl.1
 simp -implicitDefEqProofs
 refine Aa (hO path vs hb hv) ?_
 by_cases h2:isOpen path vs=true
 rotate_left
 ·simp -implicitDefEqProofs [h2,Eu]
 simp -implicitDefEqProofs [h2]
 refine Aa (hA l hl) ?_
 by_cases h1:D9 l=true
 rotate_left
 ·simp -implicitDefEqProofs [h1,Eu]
 have e:Eu path vs l=Am (l.filter (GK path vs)):=by unfold Eu;rw[h1,h2];rfl
 have hpos:=Anz h2
 have h1l:(1:Int)≤vs.length:=by omega
 have h1n:1≤vs.length:=by omega
 have hlen:(vs.take 1).length=1:=by simp;omega
 have hmin:min 1 vs.length=1:=by omega
 rw[e]
 simp -implicitDefEqProofs [h1]
 refine Ag (fun k s=>∃j v5 o1 o2 o3 o4,j+k=l.length∧s=⟨[.sl 1 4 path.length (path.flatMap Cg),.sl 1 1 vs.length (ints vs),.undef,.undef,.arr 5,v5,.undef,.sl 1 2 l.length (l.flatMap Bg),I l.length,I j,.undef,.undef],[.free,o1,o2,o3,o4,.arr 1 0 (Am ((l.take j).filter (GK path vs))).length (ints (Am ((l.take j).filter (GK path vs))))]⟩) ?_ (l.length) _ ⟨0,.undef,.free,.free,.free,.free,by simp,by simp[Am,ints]⟩
 intro k s ⟨j,v5,o1,o2,o3,o4,hj,hs⟩
 subst hs
 by_cases hjn:j<l.length
 ·have hw:IntKind.i64.wrap ((j:Int)+1)=(j+1:Nat):=by rw[Ad (by omega) (by omega)];simp
  have hst:=AfR (p:=GK path vs) hjn
  have hfl:=Ai9 (p:=GK path vs) (l:=l) (j:=j)
  have hb1:((Am ((l.take j).filter (GK path vs))).length+1)*8≤1099511627776:=by omega
  have hhB:hB ⟨vs.take 1,[l[j]]⟩:=⟨by simp;omega,by simp,by intro x hx;simp at hx;subst hx;exact KT hl hjn⟩
  simp -implicitDefEqProofs [hjn,h1l,h1n]
  have hp:=hP ⟨vs.take 1,[l[j]]⟩ path hhB hb
  have hq:GK path vs l[j]= !CX ⟨vs.take 1,[l[j]]⟩ path:=rfl
  simp -implicitDefEqProofs [hmin,arg]at hp
  refine Aa (hp) ?_
  generalize CX ⟨vs.take 1,[l[j]]⟩ path=r at hq
  by_cases g1:r=true
  ·have h3:¬GK path vs l[j]=true:=by rw[hq,g1];simp
   rw[if_neg h3,List.append_nil]at hst
   simp -implicitDefEqProofs [g1]
   exact⟨k-1,by omega,j+1,by omega,by simp[hw],by rw[hst],by rw[hst]⟩
  ·have h3:GK path vs l[j]=true:=by rw[hq];simpa using g1
   rw[if_pos h3]at hst
   simp -implicitDefEqProofs [g1,hjn,hb1]
   exact⟨k-1,by omega,j+1,by omega,by simp[hw],by rw[hst];simp,by rw[hst]⟩
 ·have e2:(l.take j).filter (GK path vs)=l.filter (GK path vs):=AaK (by omega)
  simp -implicitDefEqProofs [hjn,e2]
end Go.Eng.T
namespace Go.Eng.T
set_option maxRecDepth 20000
set_option maxHeartbeats 1000000
theorem JU (a b:List Int):(leftOf a b).length≤a.length:=List.length_filter_le _ _
def EA (h:Hello) (lv lt:List Int):Hello×Bool:=if Cj h&& !decide (leftOf h.versions lv=[])then(⟨leftOf h.versions lv,kept (fun t=> !decide (t∈lt)) h.exts⟩,true)else(AA,false)
abbrev Ii (R:Rel):Prop:=∀(h:Hello) (lv lt:List Int),hB h→lv.length≤4194304→lt.length≤4194304→R [arg (Cr h),.sl 1 1 lv.length (ints lv),.sl 1 1 lt.length (ints lt)] [] (.tup [.agg (Cr (EA h lv lt).1),B (EA h lv lt).2]) []
theorem Alw (D:Dn) (hI:DF (D Fq)) (hH:SF (D JV)):Ii (Body D Nu):=by
 intro h lv lt hh hv ht
 have hvl:=hh.1
 have hxl:=hh.2.1
 simp -implicitDefEqProofs
 refine Aa (hI h hh) ?_
 by_cases h1:Cj h=true
 rotate_left
 ·simp -implicitDefEqProofs [h1,EA,AA]
 have e1:leftOf h.versions lv=h.versions.filter (fun v=> !decide (v∈lv)):=rfl
 unfold EA
 rw[h1,e1]
 generalize hp:(fun v=> !decide (v∈lv))=p
 generalize hq:(fun t=> !decide (t∈lt))=q
 obtain⟨vs,hvs⟩:∃vs,vs=h.versions.filter p:=⟨_,rfl⟩
 rw[←hvs]
 simp -implicitDefEqProofs [h1]
 refine Ag (fun k s=>∃j o3 o4,j+k=h.versions.length∧s=⟨[.undef,.sl 1 1 lv.length (ints lv),.sl 1 1 lt.length (ints lt),.ptr 0 0,.ptr 1 0,.undef,.ptr 2 0,I j,.undef,.undef,.undef,.undef,.undef,.undef,.undef],[.var ((Cr h).map (A9 1)),.var [.nil 1,.nil 2],.var [.arr 9,.arr 10],o3,o4,.free,.free,.free,.free,.arr 1 0 ((h.versions.take j).filter p).length (ints ((h.versions.take j).filter p)),.arr 2 0 0 []]⟩) ?_ (h.versions.length) _ ⟨0,.free,.free,by simp,by simp⟩
 intro k s ⟨j,o3,o4,hj,hs⟩
 subst hs
 by_cases hjn:j<h.versions.length
 ·have hw:IntKind.i64.wrap ((j:Int)+1)=(j+1:Nat):=by rw[Ad (by omega) (by omega)];simp
  have hst:=JW (p:=p) hjn
  have hfl:=Nf (p:=p) (xs:=h.versions) (j:=j)
  have hb1:(((h.versions.take j).filter p).length+1)*8≤1099511627776:=by omega
  have hpv:p h.versions[j]= !decide (h.versions[j]∈lv):=by rw[←hp]
  simp -implicitDefEqProofs [hjn]
  refine Aa (hH lv h.versions[j] (by unfold maxLen;omega)) ?_
  by_cases h2:h.versions[j]∈lv
  ·have h3:¬p h.versions[j]=true:=by rw[hpv];simpa using h2
   rw[if_neg h3,List.append_nil]at hst
   simp -implicitDefEqProofs [h2]
   exact⟨k-1,by omega,j+1,by omega,by simp[hw],by rw[hst],by rw[hst]⟩
  ·have h3:p h.versions[j]=true:=by rw[hpv];simpa using h2
   rw[if_pos h3]at hst
   simp -implicitDefEqProofs [h2,hjn,hb1]
   exact⟨k-1,by omega,j+1,by omega,by simp[hw],by rw[hst];simp,by rw[hst]⟩
 have e2:=Ku (p:=p) (xs:=h.versions) (j:=j) (by omega)
 rw[←hvs]at e2
 simp -implicitDefEqProofs [hjn,e2]
 refine Ag (fun k s=>∃j o3 o4 o5 o6 o7 o8,j+k=h.exts.length∧s=⟨[.undef,.undef,.sl 1 1 lt.length (ints lt),.ptr 0 0,.ptr 1 0,.undef,.ptr 2 0,.undef,I j,.undef,.undef,.undef,.undef,.undef,.undef],[.var ((Cr h).map (A9 1)),.var [.nil 1,.nil 2],.var [.arr 9,.arr 10],o3,o4,o5,o6,o7,o8,.arr 1 0 vs.length (ints vs),.arr 2 0 (kept q (h.exts.take j)).length ((kept q (h.exts.take j)).flatMap Bg)]⟩) ?_ (h.exts.length) _ ⟨0,o3,o4,.free,.free,.free,.free,by simp,by simp[kept]⟩
 intro k s ⟨j,o3,o4,o5,o6,o7,o8,hj,hs⟩
 subst hs
 by_cases hjn:j<h.exts.length
 ·have hw:IntKind.i64.wrap ((j:Int)+1)=(j+1:Nat):=by rw[Ad (by omega) (by omega)];simp
  have hb:=KT hh.2 hjn
  have hb1:h.exts[j].body.length*8≤1099511627776:=by omega
  have hkl:=RY (p:=q) (l:=h.exts) (j:=j)
  have hb2:((kept q (h.exts.take j)).length+1)*32≤1099511627776:=by omega
  have hpv:q h.exts[j].tag= !decide (h.exts[j].tag∈lt):=by rw[←hq]
  simp -implicitDefEqProofs [hjn]
  refine Aa (hH lt h.exts[j].tag (by unfold maxLen;omega)) ?_
  by_cases h2:h.exts[j].tag∈lt
  ·have h3:¬q h.exts[j].tag=true:=by rw[hpv];simpa using h2
   have hst:=Vw (p:=q) hjn
   rw[if_neg h3,List.append_nil]at hst
   simp -implicitDefEqProofs [h2]
   exact⟨k-1,by omega,j+1,by omega,by simp[hw],by rw[hst],by rw[hst]⟩
  ·have h3:q h.exts[j].tag=true:=by rw[hpv];simpa using h2
   have hst:=OL hjn h3
   have hsl:=GV hjn h3
   simp -implicitDefEqProofs [h2,hjn,hb1,hb2]
   exact⟨k-1,by omega,j+1,by omega,by simp[hw],by rw[←hsl],by rw[←hst]⟩
 have e3:=Sb (p:=q) (l:=h.exts) (j:=j) (by omega)
 by_cases g:vs=[]
 ·simp -implicitDefEqProofs [hjn,e3,g,AA]
 ·have g':¬(vs.length:Int)=0:=by
   intro h0
   exact g (List.eq_nil_of_length_eq_zero (by omega))
  simp -implicitDefEqProofs [hjn,e3,g',g]
abbrev Qn (R:Rel):Prop:=∀(t:Int) (tags:List Int),tags.length≤maxLen→R [I t,.rptr 1 [.sl 0 1 tags.length (ints tags)] 0] [] (B (!decide (t∈tags))) []
theorem Aj7 (D:Dn) (hH:SF (D Bz)):Qn (Body D KQ):=by
 intro t tags hl
 simp -implicitDefEqProofs
 refine Aa (hH tags t hl) ?_
 simp -implicitDefEqProofs
theorem AkV (D:Dn) (hI:DF (D F3)) (hL:Ua (D MK)) (h1:Qn (D Qq)) (hK:Ka D (D Ip)):Ii (Body D NS):=by
 intro h lv lt hh hv ht
 simp -implicitDefEqProofs
 refine Aa (hL h.versions lv hh.1 hv) ?_
 have hll:=JU h.versions lv
 unfold EA
 generalize leftOf h.versions lv=vs at hll
 simp -implicitDefEqProofs
 refine Aa (hI h hh) ?_
 by_cases g1:Cj h=true
 rotate_left
 ·simp -implicitDefEqProofs [g1,AA]
 by_cases g:vs=[]
 ·simp -implicitDefEqProofs [g1,g,AA]
 have g':¬(vs.length:Int)=0:=by
  intro h0
  exact g (List.eq_nil_of_length_eq_zero (by omega))
 simp -implicitDefEqProofs [g1,g',g]
 refine Aa (hK h.exts Qq _ (fun t=> !decide (t∈lt)) hh.2 (Yv ES) (Yl OI) (fun t=>h1 t lt (by unfold maxLen;omega))) ?_
 simp -implicitDefEqProofs
def fallback (h:Hello) (path:List FH):Hello×Bool:=EA h (Bd path h.versions) (Eu path (leftOf h.versions (Bd path h.versions)) h.exts)
abbrev J9 (R:Rel):Prop:=∀(h:Hello) (path:List FH),hB h→lnS F9 path→R [arg (Cr h),.sl 1 4 path.length (path.flatMap Cg)] [] (.tup [.agg (Cr (fallback h path).1),B (fallback h path).2]) []
theorem Zq (path:List FH) (vs:List Int) (l:List Ext):(Eu path vs l).length≤l.length:=by
 unfold Eu Am
 split
 ·rw[List.length_map];exact List.length_filter_le _ _
 ·simp
theorem Al4 (D:Dn) (hI:DF (D Fq)) (hLV:FD (D XJ)) (hL:Ua (D WQ)) (hT:J2 (D Afb)) (hP:Ii (D AcH)):J9 (Body D I5):=by
 intro h path hh hb
 simp -implicitDefEqProofs
 refine Aa (hI h hh) ?_
 by_cases g1:Cj h=true
 rotate_left
 ·have e:fallback h path=(AA,false):=by unfold fallback EA;simp[g1]
  simp -implicitDefEqProofs [g1,e,AA]
 have hvl:=hh.1
 have hxl:=hh.2.1
 simp -implicitDefEqProofs [g1]
 refine Aa (hLV path h.versions hb hh.1) ?_
 have hll:=AnY path h.versions
 have e:fallback h path=EA h (Bd path h.versions) (Eu path (leftOf h.versions (Bd path h.versions)) h.exts):=rfl
 rw[e]
 generalize Bd path h.versions=lv at hll
 simp -implicitDefEqProofs
 refine Aa (hL h.versions lv hh.1 (by omega)) ?_
 have hl2:=JU h.versions lv
 generalize leftOf h.versions lv=vs at hl2
 simp -implicitDefEqProofs
 refine Aa (hT path vs h.exts hb (by omega) hh.2) ?_
 have hl3:=Zq path vs h.exts
 generalize Eu path vs h.exts=lt at hl3
 simp -implicitDefEqProofs
 refine Aa (hP h lv lt hh (by omega) (by omega)) ?_
 generalize EA h lv lt=r
 simp -implicitDefEqProofs
theorem AmN (D:Dn) (hLV:FD (D XL)) (hL:Ua (D MK)) (hT:J2 (D Af3)) (hP:Ii (D Adt)):J9 (Body D IU):=by
 intro h path hh hb
 have hvl:=hh.1
 have hxl:=hh.2.1
 simp -implicitDefEqProofs [hvl]
 refine Aa (hLV path h.versions hb hh.1) ?_
 have hll:=AnY path h.versions
 have e:fallback h path=EA h (Bd path h.versions) (Eu path (leftOf h.versions (Bd path h.versions)) h.exts):=rfl
 rw[e]
 generalize Bd path h.versions=lv at hll
 simp -implicitDefEqProofs
 refine Aa (hL h.versions lv hh.1 (by omega)) ?_
 have hl2:=JU h.versions lv
 generalize leftOf h.versions lv=vs at hl2
 simp -implicitDefEqProofs
 refine Aa (hT path vs h.exts hb (by omega) hh.2) ?_
 have hl3:=Zq path vs h.exts
 generalize Eu path vs h.exts=lt at hl3
 simp -implicitDefEqProofs
 refine Aa (hP h lv lt hh (by omega) (by omega)) ?_
 generalize EA h lv lt=r
 simp -implicitDefEqProofs
theorem Ax8 {h:Hello} {lv lt:List Int} (hh:hB h):hB (EA h lv lt).1:=by
 unfold EA
 split
 ·exact⟨Nat.le_trans (JU _ _) hh.1,Rl hh.2 (fun t=> !decide (t∈lt))⟩
 ·exact Ag5
theorem AkS {h:Hello} {path:List FH} (hh:hB h):hB (fallback h path).1:=Ax8 hh
def BS (h:Hello) (path:List FH):Hello×Int×Bool:=
 if Cj h=true then(if CX h path=true then(h,1,true)else if(fallback h path).2&&CX (fallback h path).1 path then((fallback h path).1,2,true)else(AA,2,false))else(AA,0,false)
abbrev J3 (R:Rel):Prop:=∀(h:Hello) (path:List FH),hB h→lnS F9 path→R [arg (Cr h),.sl 1 4 path.length (path.flatMap Cg)] [] (.tup [.agg (Cr (BS h path).1),I (BS h path).2.1,B (BS h path).2.2]) []
theorem Ank (D:Dn) (hI:DF (D Fq)) (hW:Ff (D ZJ)) (hC:Ji (D UU)) (hF:J9 (D V4)):J3 (Body D PY):=by
 intro h path hh hb
 simp -implicitDefEqProofs
 refine Aa (hI h hh) ?_
 by_cases g1:Cj h=true
 rotate_left
 ·simp -implicitDefEqProofs [g1,BS,AA]
 simp -implicitDefEqProofs [g1]
 refine Aa (hW h path hh hb) ?_
 by_cases g2:CX h path=true
 ·simp -implicitDefEqProofs [g2]
  refine Aa (hC h hh) ?_
  simp -implicitDefEqProofs [BS,g1,g2]
 simp -implicitDefEqProofs [g2]
 refine Aa (hF h path hh hb) ?_
 have hr:=AkS (path:=path) hh
 have e:BS h path=(if(fallback h path).2&&CX (fallback h path).1 path then((fallback h path).1,2,true)else(AA,2,false)):=by unfold BS;rw[if_pos g1,if_neg g2]
 rw[e]
 generalize fallback h path=r at hr
 by_cases g3:r.2=true
 rotate_left
 ·simp -implicitDefEqProofs [g3,AA]
 simp -implicitDefEqProofs [g3]
 refine Aa (hW r.1 path hr hb) ?_
 by_cases g4:CX r.1 path=true
 ·simp -implicitDefEqProofs [g3,g4]
 ·simp -implicitDefEqProofs [g3,g4,AA]
theorem Al3 (D:Dn) (hI:DF (D F3)) (hW:Ff (D Qa)) (hC:Ji (D Ub)) (hF:J9 (D Wd)):J3 (Body D PK):=by
 intro h path hh hb
 simp -implicitDefEqProofs
 refine Aa (hI h hh) ?_
 by_cases g1:Cj h=true
 rotate_left
 ·simp -implicitDefEqProofs [g1,BS,AA]
 simp -implicitDefEqProofs [g1]
 refine Aa (hW h path hh hb) ?_
 by_cases g2:CX h path=true
 ·simp -implicitDefEqProofs [g2]
  refine Aa (hC h hh) ?_
  simp -implicitDefEqProofs [BS,g1,g2]
 simp -implicitDefEqProofs [g2]
 refine Aa (hF h path hh hb) ?_
 have hr:=AkS (path:=path) hh
 have e:BS h path=(if(fallback h path).2&&CX (fallback h path).1 path then((fallback h path).1,2,true)else(AA,2,false)):=by unfold BS;rw[if_pos g1,if_neg g2]
 rw[e]
 generalize fallback h path=r at hr
 by_cases g3:r.2=true
 rotate_left
 ·simp -implicitDefEqProofs [g3,AA]
 simp -implicitDefEqProofs [g3]
 refine Aa (hW r.1 path hr hb) ?_
 by_cases g4:CX r.1 path=true
 ·simp -implicitDefEqProofs [g3,g4]
 ·simp -implicitDefEqProofs [g3,g4,AA]
theorem Aq6 {h:Hello} {path:List FH} (hh:hB h):hB (BS h path).1:=by
 unfold BS
 split
 ·split
  ·exact hh
  ·split
   ·exact AkS hh
   ·exact Ag5
 ·exact Ag5
end Go.Eng.T
namespace Go.Eng.T
set_option maxRecDepth 20000
set_option maxHeartbeats 2000000
open Go.Lib (compact compactUpTo keeps)
abbrev Up (l:List Int):Prop:=l.Pairwise (· < ·)
theorem AAF:∀ {a b:List Int},Up a→Up b→(∀x,x∈a↔x∈b)→a=b
 | [],[],_,_,_=>rfl
 | [],y::b,_,_,h=>by have:=(h y).2 (by simp);simp at this
 | x::a,[],_,_,h=>by have:=(h x).1 (by simp);simp at this
 | x::a,y::b,ha,hb,h=>by
  rw[Up,List.pairwise_cons]at ha hb
  have hxy:x=y:=by
   have h1:=(h x).1 (by simp)
   have h2:=(h y).2 (by simp)
   rcases List.mem_cons.1 h1 with e | h1
   ·exact e
   ·rcases List.mem_cons.1 h2 with e | h2
    ·exact e.symm
    ·have:=hb.1 x h1;have:=ha.1 y h2;omega
  subst hxy
  congr 1
  refine AAF ha.2 hb.2 fun z=>⟨fun hz=> ?_,fun hz=> ?_⟩
  ·rcases List.mem_cons.1 ((h z).1 (by simp[hz]))with e | h1
   ·subst e;have:=ha.1 z hz;omega
   ·exact h1
  ·rcases List.mem_cons.1 ((h z).2 (by simp[hz]))with e | h1
   ·subst e;have:=hb.1 z hz;omega
   ·exact h1
theorem Avd:∀(l:List Int) (v x:Int),x∈Aiy l v↔x∈l∨x=v:=by
 intro l v x
 unfold Aiy
 split
 ·rename_i h
  constructor
  ·exact .inl
  ·rintro (h1 | rfl)
   ·exact h1
   ·exact List.mem_of_getElem? h
 ·unfold AvX
  rw[List.mem_append,List.mem_cons]
  have:x∈l↔x∈l.take (IV l v)∨x∈l.drop (IV l v):=by
   conv=>lhs;rw[←List.take_append_drop (IV l v) l,List.mem_append]
  rw[this]
  constructor
  ·rintro (h1 | h1 | h1)
   ·exact .inl (.inl h1)
   ·exact .inr h1
   ·exact .inl (.inr h1)
  ·rintro ((h1 | h1) | h1)
   ·exact .inl h1
   ·exact .inr (.inr h1)
   ·exact .inr (.inl h1)
theorem Aco:∀(l:List Int) (v x:Int),x∈l.take (IV l v)→x<v
 | [],v,x,h=>by simp at h
 | y::r,v,x,h=>by
  simp only[IV]at h
  split at h
  ·rw[List.take_succ_cons]at h
   rcases List.mem_cons.1 h with rfl | h
   ·assumption
   ·exact Aco r v x h
  ·simp at h
theorem AyJ:∀ {l:List Int} (v:Int),Up l→Up (Aiy l v):=by
 intro l v hl
 unfold Aiy
 split
 ·exact hl
 ·rename_i hne
  unfold AvX Up
  rw[List.pairwise_append,List.pairwise_cons]
  have hb:=Aco l v
  have hafter:∀y,y∈l.drop (IV l v)→v<y:=by
   intro y hy
   by_cases hk:IV l v<l.length
   ·have hs:=Ar1 (l:=l) (v:=v) hk (by
     intro hlt
     have key:∀(l:List Int) (h:IV l v<l.length),¬l[IV l v]<v:=by
      intro l
      induction l with
      | nil=>intro h;simp at h
      | cons x r ih=>
       intro h
       by_cases hx:x<v
       ·have e:IV (x::r) v=IV r v+1:=by simp[IV,hx]
        have h':IV r v<r.length:=by rw[e]at h;simpa using h
        have:=ih h'
        simp only[e,List.getElem_cons_succ]
        exact this
       ·have e:IV (x::r) v=0:=by simp[IV,hx]
        simp only[e,List.getElem_cons_zero]
        exact hx
     exact key l hk hlt)
    have key:∀(l:List Int) (h:IV l v<l.length),¬l[IV l v]<v:=by
     intro l
     induction l with
     | nil=>intro h;simp at h
     | cons x r ih=>
      intro h
      by_cases hx:x<v
      ·have e:IV (x::r) v=IV r v+1:=by simp[IV,hx]
       have h':IV r v<r.length:=by rw[e]at h;simpa using h
       have:=ih h'
       simp only[e,List.getElem_cons_succ]
       exact this
      ·have e:IV (x::r) v=0:=by simp[IV,hx]
       simp only[e,List.getElem_cons_zero]
       exact hx
    have h1:=key l hk
    have h2:l[IV l v]≠v:=by
     intro e;apply hne;rw[List.getElem?_eq_getElem hk,e]
    rw[List.drop_eq_getElem_cons hk]at hy
    have hp:(l[IV l v]::l.drop (IV l v+1)).Pairwise (· < ·):=by rw[←List.drop_eq_getElem_cons hk];exact hl.drop
    rw[List.pairwise_cons]at hp
    rcases List.mem_cons.1 hy with rfl | hy
    ·omega
    ·have:=hp.1 y hy;omega
   ·rw[List.drop_eq_nil_of_le (by omega)]at hy;simp at hy
  refine⟨hl.take,⟨hafter,hl.drop⟩,fun a ha b hb'=> ?_⟩
  have h1:=hb a ha
  rcases List.mem_cons.1 hb' with rfl | hb'
  ·exact h1
  ·have:=hafter b hb';omega
def Yj (l:List Int) (xs:List Int):List Int:=xs.foldl Aiy l
theorem Att:∀ {xs l:List Int},Up l→Up (Yj l xs)
 | [],_,h=>h
 | x::xs,l,h=>Att (xs:=xs) (AyJ x h)
theorem Ao4:∀(xs l:List Int) (x:Int),x∈Yj l xs↔x∈l∨x∈xs
 | [],l,x=>by simp[Yj]
 | y::xs,l,x=>by
  have:=Ao4 xs (Aiy l y) x
  unfold Yj at *
  rw[List.foldl_cons,this,Avd,List.mem_cons]
  constructor
  ·rintro ((h | h) | h)
   ·exact .inl h
   ·exact .inr (.inl h)
   ·exact .inr (.inr h)
  ·rintro (h | h | h)
   ·exact .inl (.inl h)
   ·exact .inl (.inr h)
   ·exact .inr h
theorem ApB:∀(xs l:List Int),(Yj l xs).length≤l.length+xs.length
 | [],l=>by simp[Yj]
 | x::xs,l=>by
  have h1:=ApB xs (Aiy l x)
  have h2:=Avf l x
  unfold Yj at *
  simp only[List.foldl_cons,List.length_cons]
  omega
def AAn (r:Gz) (i:Nat):Gz:=⟨r.version,r.stages,i,r.off⟩
def AAS (r:Gz) (n:Int):Nat→Int
 | 0=>0
 | k+1=>max (AAS r n k) (countIn (AAn r k) n)
end Go.Eng.T
namespace Go.Eng.T
set_option maxRecDepth 20000
end Go.Eng.T
namespace Go.Eng.T
set_option maxRecDepth 20000
set_option maxHeartbeats 2000000
theorem up9:∀ {l:List Int} {a:Int},Up l→(∀x,x∈l→a<x∧x≤9)→(l.length:Int)≤9-a∨l=[]
 | [],_,_,_=> .inr rfl
 | x::r,a,h,hb=>by
  rw[Up,List.pairwise_cons]at h
  have h0:=hb x (by simp)
  have:=up9 (l:=r) (a:=x) h.2 (fun y hy=>⟨h.1 y hy,(hb y (by simp[hy])).2⟩)
  left
  rcases this with h1 | rfl
  ·simp only[List.length_cons];omega
  ·simp;omega
theorem AmO {l:List Int} (h:AY l=true):l.length≤9:=by
 have:=up9 (l:=l) (a:=0) (Ajt h) (fun x hx=>by have:=AqS h x hx;exact⟨by omega,by omega⟩)
 rcases this with h1 | rfl
 ·omega
 ·simp
end Go.Eng.T
namespace Go.Eng.T
set_option maxRecDepth 20000
set_option maxHeartbeats 1000000
theorem Awd {D:Dn} {c:Cf} {a:SC} {Q:Out→St→Prop} {s:St} (h:swp D c a (fun o s'=>match o with | .normal=>False | o=>Q o s') s):swp D c (.loop a) Q s:=⟨1,h⟩
def inB (t:Int):Bool:=decide (Za t 0 255)
def Acx (b:List Int) (t:Int):Bool:= !decide (t∈b)&&inB t
def Sz (h x:Hello):List Int:=leftOf h.versions x.versions++((Am h.exts).filter (Acx (Am x.exts))).map (fun t=>1000+t)
theorem AsH (a b:List Int):(leftOf a b).filter inB=a.filter (Acx b):=by
 unfold leftOf
 rw[List.filter_filter]
 congr 1
 funext t
 unfold Acx
 cases inB t<;>cases decide (t∈b)<;>rfl
abbrev Nb (R:Rel):Prop:=∀h x:Hello,hB h→hB x→R [arg (Cr h),arg (Cr x)] [] (.sl 0 1 (Sz h x).length (ints (Sz h x))) []
theorem Ajd {p:Int→Bool} {a l:List Int} {j:Nat} (h:j<l.length):
 a++((l.take (j+1)).filter p).map (fun t=>1000+t)=(a++((l.take j).filter p).map (fun t=>1000+t))++(if p l[j]then [1000+l[j]]else []):=by
 rw[JW h,List.map_append,List.append_assoc]
 split<;>simp
theorem AnA {p:Int→Bool} {a l:List Int} {j:Nat}:(a++((l.take j).filter p).map (fun t=>1000+t)).length≤a.length+j:=by
 have:=Nf (p:=p) (xs:=l) (j:=j)
 simp only[List.length_append,List.length_map];omega
theorem ApO (D:Dn) (hL:Ua (D WQ)) (hX:ND (D Qo)) (hI:WN (D EB)):Nb (Body D QL):=by
 intro h x hh hx
 have hxl:=hx.2.1
 have hhl:=hh.2.1
 have hvl:=hh.1
 simp -implicitDefEqProofs
 refine Aa (hL h.versions x.versions hh.1 hx.1) ?_
 have hal:=JU h.versions x.versions
 have e:Sz h x=leftOf h.versions x.versions++((Am h.exts).filter (Acx (Am x.exts))).map (fun t=>1000+t):=rfl
 rw[e]
 have hpd:∀t,Acx (Am x.exts) t=(!decide (t∈Am x.exts)&&inB t):=fun t=>rfl
 generalize leftOf h.versions x.versions=a at hal
 generalize Acx (Am x.exts)=p at hpd
 have htl:(Am h.exts).length=h.exts.length:=KX _
 have hte:∀j (hj:j<h.exts.length),(Am h.exts)[j]'(by omega)=h.exts[j].tag:=fun j hj=>by simp[Am]
 obtain⟨l,hl⟩:∃l,l=Am h.exts:=⟨_,rfl⟩
 rw[←hl]at htl⊢
 simp -implicitDefEqProofs
 refine Ag (fun k s=>∃j o3 o4,j+k=h.exts.length∧s=⟨[.undef,.undef,.ptr 0 0,.ptr 1 0,.undef,.arr 5,I j,.undef,.undef],[.var ((Cr h).map (A9 1)),.var ((Cr x).map (A9 1)),.free,o3,o4,.arr 1 0 (a++((l.take j).filter p).map (fun t=>1000+t)).length (ints (a++((l.take j).filter p).map (fun t=>1000+t)))]⟩) ?_ (h.exts.length) _ ⟨0,.free,.free,by simp,by simp⟩
 intro k s ⟨j,o3,o4,hj,hs⟩
 subst hs
 by_cases hjn:j<h.exts.length
 ·have hw:IntKind.i64.wrap ((j:Int)+1)=(j+1:Nat):=by rw[Ad (by omega) (by omega)];simp
  have hjl:j<l.length:=by omega
  have hlt:l[j]=h.exts[j].tag:=by subst hl;exact hte j hjn
  have hst:=Ajd (p:=p) (a:=a) hjl
  have hfl:=AnA (p:=p) (a:=a) (l:=l) (j:=j)
  have hb1:((a++((l.take j).filter p).map (fun t=>1000+t)).length+1)*8≤1099511627776:=by omega
  have hpt:=hpd l[j]
  rw[hlt]at hst hpt
  generalize a++((l.take j).filter p).map (fun t=>1000+t)=r at hst hfl hb1
  simp -implicitDefEqProofs [hjn]
  refine Aa (hX x.exts h.exts[j].tag (by unfold maxLen;omega)) ?_
  by_cases h1:h.exts[j].tag∈Am x.exts
  ·have h3:¬p h.exts[j].tag=true:=by rw[hpt];simp[h1]
   have h1':¬Hq x.exts h.exts[j].tag<0:=by rw[J4];simpa using h1
   rw[if_neg h3,List.append_nil]at hst
   simp -implicitDefEqProofs [h1']
   have hsl:=congrArg List.length hst
   simp only[List.length_append,List.length_map]at hsl
   exact⟨k-1,by omega,j+1,by omega,by simp[hw],by omega,by rw[hst]⟩
  have h1':Hq x.exts h.exts[j].tag<0:=by rw[J4];exact h1
  simp -implicitDefEqProofs [h1',hjn]
  refine Aa (hI _ _ _) ?_
  by_cases h2:Za h.exts[j].tag 0 255
  ·have h3:p h.exts[j].tag=true:=by rw[hpt];simp[h1,inB,h2]
   rw[if_pos h3]at hst
   have hw2:IntKind.i64.wrap (1000+h.exts[j].tag)=1000+h.exts[j].tag:=Ad (by have:=h2.1;omega) (by have:=h2.2;omega)
   simp -implicitDefEqProofs [h2,hjn,hb1,hw2]
   have hsl:=congrArg List.length hst
   simp only[List.length_append,List.length_map,List.length_cons,List.length_nil]at hsl
   exact⟨k-1,by omega,j+1,by omega,by simp[hw],by omega,by rw[hst]⟩
  ·have h3:¬p h.exts[j].tag=true:=by rw[hpt];simp[h1,inB,h2]
   rw[if_neg h3,List.append_nil]at hst
   simp -implicitDefEqProofs [h2]
   have hsl:=congrArg List.length hst
   simp only[List.length_append,List.length_map]at hsl
   exact⟨k-1,by omega,j+1,by omega,by simp[hw],by omega,by rw[hst]⟩
 ·have e2:=Ku (p:=p) (xs:=l) (j:=j) (by omega)
  simp -implicitDefEqProofs [hjn,e2]
theorem ApD (D:Dn) (hL:Ua (D MK)) (hT:Jr (D OD)) (hI:WN (D CK)):Nb (Body D Qy):=by
 intro h x hh hx
 have hxl:=hx.2.1
 have hhl:=hh.2.1
 have hvl:=hh.1
 simp -implicitDefEqProofs
 refine Aa (hL h.versions x.versions hh.1 hx.1) ?_
 have hal:=JU h.versions x.versions
 have e:Sz h x=leftOf h.versions x.versions++((Am h.exts).filter (Acx (Am x.exts))).map (fun t=>1000+t):=rfl
 rw[e,←AsH]
 generalize leftOf h.versions x.versions=a at hal
 simp -implicitDefEqProofs
 refine Aa (hT h.exts hh.2.1) ?_
 simp -implicitDefEqProofs
 refine Aa (hT x.exts hx.2.1) ?_
 simp -implicitDefEqProofs
 refine Aa (hL (Am h.exts) (Am x.exts) (by rw[KX];omega) (by rw[KX];omega)) ?_
 have hll:=JU (Am h.exts) (Am x.exts)
 rw[KX]at hll
 generalize leftOf (Am h.exts) (Am x.exts)=l at hll
 generalize hpd:inB=p
 simp -implicitDefEqProofs
 refine Ag (fun k s=>∃j v6 o6 o7,j+k=l.length∧s=⟨[.undef,.undef,.undef,.undef,.undef,.arr 8,v6,.arr 5,I l.length,I j,.undef,.undef],[.var ((Cr h).map (A9 1)),.var ((Cr x).map (A9 1)),.free,.arr 1 0 (Am h.exts).length (ints (Am h.exts)),.arr 1 0 (Am x.exts).length (ints (Am x.exts)),.arr 1 0 l.length (ints l),o6,o7,.arr 1 0 (a++((l.take j).filter p).map (fun t=>1000+t)).length (ints (a++((l.take j).filter p).map (fun t=>1000+t)))]⟩) ?_ (l.length) _ ⟨0,.undef,.free,.free,by simp,by simp⟩
 intro k s ⟨j,v6,o6,o7,hj,hs⟩
 subst hs
 by_cases hjn:j<l.length
 ·have hw:IntKind.i64.wrap ((j:Int)+1)=(j+1:Nat):=by rw[Ad (by omega) (by omega)];simp
  have hst:=Ajd (p:=p) (a:=a) hjn
  have hfl:=AnA (p:=p) (a:=a) (l:=l) (j:=j)
  have hb1:((a++((l.take j).filter p).map (fun t=>1000+t)).length+1)*8≤1099511627776:=by omega
  have hpt:p l[j]=inB l[j]:=by rw[hpd]
  generalize a++((l.take j).filter p).map (fun t=>1000+t)=r at hst hfl hb1
  simp -implicitDefEqProofs [hjn]
  refine Aa (hI _ _ _) ?_
  by_cases h2:Za l[j] 0 255
  ·have h3:p l[j]=true:=by rw[hpt];simp[inB,h2]
   rw[if_pos h3]at hst
   have hw2:IntKind.i64.wrap (1000+l[j])=1000+l[j]:=Ad (by have:=h2.1;omega) (by have:=h2.2;omega)
   simp -implicitDefEqProofs [h2,hjn,hb1,hw2]
   have hsl:=congrArg List.length hst
   simp only[List.length_append,List.length_map,List.length_cons,List.length_nil]at hsl
   exact⟨k-1,by omega,j+1,by omega,by simp[hw],by omega,by rw[hst]⟩
  ·have h3:¬p l[j]=true:=by rw[hpt];simp[inB,h2]
   rw[if_neg h3,List.append_nil]at hst
   simp -implicitDefEqProofs [h2]
   have hsl:=congrArg List.length hst
   simp only[List.length_append,List.length_map]at hsl
   exact⟨k-1,by omega,j+1,by omega,by simp[hw],by omega,by rw[hst]⟩
 ·have e2:=Ku (p:=p) (xs:=l) (j:=j) (by omega)
  simp -implicitDefEqProofs [hjn,e2]
def Fj:AdE:=⟨false,0,[]⟩
def AaO (h seen:Hello) (vs tags:List Int) (key:Int):AdE:=
 if(Bb vs tags seen).2&&(D8 h (Bb vs tags seen).1&&(!decide (CU key [AV h,Av (Bb vs tags seen).1] 1=0)&&
  decide (CU key [AV h,Av (Bb vs tags seen).1] 1=CU key [AV seen,Av (Bb vs tags seen).1] 1)))
 then⟨true,(Bb vs tags seen).1.version,Am (Bb vs tags seen).1.exts⟩else Fj
theorem Am9 (h:Hello):(AV h).length≤47:=by
 unfold AV
 have:=JZ h.exts
 split
 ·rename_i hc
  have:=AmO (Atk hc)
  simp only[List.length_append,List.length_cons];omega
 ·simp
theorem Akd (h:Hello) (a:Pb):GA [AV h,Av a]≤4194304:=by
 have h1:=Am9 h
 have h2:=Ad2 a
 simp[GA,Bn]
 omega
theorem Agi {vs tags:List Int} {h:Hello} (hh:hB h):QJ (Bb vs tags h).1.exts:=by
 unfold Bb
 split
 ·exact Rl (Rl hh.2 (fun t=>decide (t∈tags))) (fun t=> !Au t)
 ·exact Zj
def RA (h:Hello) (path:List FH) (vs tags:List Int) (key:Int):AdE:=if(AU path h).2=true then AaO h (AU path h).1 vs tags key else Fj
abbrev Ke (R:Rel):Prop:=∀(h:Hello) (path:List FH) (vs tags:List Int) (key:Int),hB h→lnS F9 path→vs.length≤4194304→tags.length≤4194304→
 R [arg (Cr h),.sl 1 4 path.length (path.flatMap Cg),.sl 1 1 vs.length (ints vs),.sl 1 1 tags.length (ints tags),I key] [] (.agg (Uy (RA h path vs tags key))) []
theorem Anu (D:Dn) (hP:E5 (D KA)) (hC:Qp (D XW)) (hFi:Ig (D Ada)) (hHB:Gt (D Abz)) (hAB:FZ (D Zg))
 (hF:OA (D Ae8)) (hT:Jr (D Zo)):Ke (Body D Pq):=by
 intro h path vs tags key hh hb hv ht
 simp -implicitDefEqProofs
 refine Aa (hP path h hb hh) ?_
 have hr:=MV (path:=path) hh
 unfold RA
 generalize AU path h=r at hr
 by_cases g1:r.2=true
 rotate_left
 ·simp -implicitDefEqProofs [g1,Fj]
 obtain⟨seen,ok⟩:=r
 obtain rfl:ok=true:=g1
 dsimp only at hr⊢
 simp -implicitDefEqProofs
 refine Aa (hC vs tags seen hv ht hr) ?_
 have ha:=Agi (vs:=vs) (tags:=tags) hr
 unfold AaO
 generalize Bb vs tags seen=q at ha
 obtain⟨a,fine⟩:=q
 dsimp only at ha⊢
 by_cases g2:fine=true
 rotate_left
 ·simp -implicitDefEqProofs [g2,Fj]
 simp -implicitDefEqProofs [g2]
 refine Aa (hFi h a hh ha) ?_
 by_cases g3:D8 h a=true
 rotate_left
 ·simp -implicitDefEqProofs [g3,Fj]
 simp -implicitDefEqProofs [g3]
 refine Aa (hHB h hh) ?_
 simp -implicitDefEqProofs
 refine Aa (hAB a ha) ?_
 simp -implicitDefEqProofs
 have hf:=hF key [AV h,Av a] 1 (Akd h a)
 simp -implicitDefEqProofs [II,G8]at hf
 refine Aa (hf) ?_
 generalize CU key [AV h,Av a] 1=m
 by_cases g4:m=0
 ·simp -implicitDefEqProofs [g4,Fj]
 simp -implicitDefEqProofs [g4]
 refine Aa (hHB seen hr) ?_
 simp -implicitDefEqProofs [g4]
 refine Aa (hAB a ha) ?_
 simp -implicitDefEqProofs [g4]
 have hf2:=hF key [AV seen,Av a] 1 (Akd seen a)
 simp -implicitDefEqProofs [II,G8]at hf2
 refine Aa (hf2) ?_
 generalize CU key [AV seen,Av a] 1=m2
 by_cases g5:m=m2
 rotate_left
 ·simp -implicitDefEqProofs [g4,g5,Fj]
 subst g5
 simp -implicitDefEqProofs [g4]
 refine Aa (hT a.exts ha.1) ?_
 simp -implicitDefEqProofs [g4]
abbrev Aln (R:Rel):Prop:=∀(h seen:Hello) (vs tags:List Int) (key:Int),hB h→hB seen→vs.length≤4194304→tags.length≤4194304→
 R [arg (Cr h),arg (Cr seen),.sl 1 1 vs.length (ints vs),.sl 1 1 tags.length (ints tags),I key,.sl 1 2 0 []] [] (.agg (Uy (AaO h seen vs tags key))) []
theorem Azu (D:Dn) (hC:Qp (D Xb)) (hFi:Ig (D AdY)) (hHB:Gt (D AaD)) (hAB:FZ (D ZQ))
 (hF:OA (D U4)) (hK:SS (D Adc)) (hT:Jr (D OD)):Aln (Body D Ta):=by
 intro h seen vs tags key hh hr hv ht
 simp -implicitDefEqProofs
 refine Aa (hC vs tags seen hv ht hr) ?_
 have ha:=Agi (vs:=vs) (tags:=tags) hr
 unfold AaO
 generalize Bb vs tags seen=q at ha
 obtain⟨a,fine⟩:=q
 dsimp only at ha⊢
 have e:(!decide (CU key [AV h,Av a] 1=0)&&decide (CU key [AV h,Av a] 1=CU key [AV seen,Av a] 1))=
  OQ key [AV h,Av a] 1 (CU key [AV seen,Av a] 1):=by
  unfold OQ
  by_cases e1:CU key [AV h,Av a] 1=CU key [AV seen,Av a] 1
  ·rw[e1]
  ·have e2:¬CU key [AV seen,Av a] 1=CU key [AV h,Av a] 1:=fun h=>e1 h.symm
   simp[e1,e2]
 rw[e]
 by_cases g2:fine=true
 rotate_left
 ·simp -implicitDefEqProofs [g2,Fj]
 simp -implicitDefEqProofs [g2]
 refine Awd ?_
 simp -implicitDefEqProofs
 refine Aa (hHB seen hr) ?_
 simp -implicitDefEqProofs
 refine Aa (hAB a ha) ?_
 simp -implicitDefEqProofs
 have hf2:=hF key [AV seen,Av a] 1 (Akd seen a)
 simp -implicitDefEqProofs [II,G8]at hf2
 refine Aa (hf2) ?_
 generalize CU key [AV seen,Av a] 1=m2
 simp -implicitDefEqProofs
 refine Aa (hFi h a hh ha) ?_
 by_cases g3:D8 h a=true
 rotate_left
 ·simp -implicitDefEqProofs [g3,Fj]
 simp -implicitDefEqProofs [g3]
 refine Aa (hHB h hh) ?_
 simp -implicitDefEqProofs
 refine Aa (hAB a ha) ?_
 simp -implicitDefEqProofs
 have hk:=hK key [AV h,Av a] 1 m2 (Akd h a)
 simp -implicitDefEqProofs [II,G8]at hk
 refine Aa (hk) ?_
 generalize OQ key [AV h,Av a] 1 m2=c
 by_cases g5:c=true
 rotate_left
 ·simp -implicitDefEqProofs [g5,Fj]
 simp -implicitDefEqProofs [g5]
 refine Aa (hT a.exts ha.1) ?_
 simp -implicitDefEqProofs
theorem AmX (D:Dn) (hP:E5 (D KD)) (hD:Aln (D Ann)):Ke (Body D O9):=by
 intro h path vs tags key hh hb hv ht
 simp -implicitDefEqProofs
 refine Aa (hP path h hb hh) ?_
 have hr:=MV (path:=path) hh
 unfold RA
 generalize AU path h=r at hr
 by_cases g1:r.2=true
 rotate_left
 ·simp -implicitDefEqProofs [g1,Fj]
 simp -implicitDefEqProofs [g1]
 refine Aa (hD h r.1 vs tags key hh hr hv ht) ?_
 simp -implicitDefEqProofs
def Amn (h:Hello) (path:List FH) (vs tags:List Int) (key:Int):Ct:=
 if(BS h path).2.2=true then⟨RA (BS h path).1 path vs tags key,(BS h path).2.1,Sz h (BS h path).1⟩else⟨Fj,(BS h path).2.1,[]⟩
abbrev AcA (R:Rel):Prop:=∀(h:Hello) (path:List FH) (vs tags:List Int) (key:Int),hB h→lnS F9 path→vs.length≤4194304→tags.length≤4194304→
 R [arg (Cr h),.sl 1 4 path.length (path.flatMap Cg),.sl 1 1 vs.length (ints vs),.sl 1 1 tags.length (ints tags),I key] [] (.agg (AP (Amn h path vs tags key))) []
theorem Ays (D:Dn) (hH:J3 (D Agn)) (hO:Ke (D Agv)) (hG:Nb (D AhO)):AcA (Body D Yg):=by
 intro h path vs tags key hh hb hv ht
 simp -implicitDefEqProofs
 refine Aa (hH h path hh hb) ?_
 have hr:=Aq6 (path:=path) hh
 unfold Amn
 generalize BS h path=r at hr
 obtain⟨x,n,ok⟩:=r
 dsimp only at hr⊢
 by_cases g1:ok=true
 rotate_left
 ·simp -implicitDefEqProofs [g1,Fj]
 simp -implicitDefEqProofs [g1]
 refine Aa (hO x path vs tags key hr hb hv ht) ?_
 simp -implicitDefEqProofs
 refine Aa (hG h x hh hr) ?_
 simp -implicitDefEqProofs [g1]
theorem Ayt (D:Dn) (hH:J3 (D Ag0)) (hO:Ke (D AeJ)) (hG:Nb (D Ah7)):AcA (Body D Xc):=by
 intro h path vs tags key hh hb hv ht
 simp -implicitDefEqProofs
 refine Aa (hH h path hh hb) ?_
 have hr:=Aq6 (path:=path) hh
 unfold Amn
 generalize BS h path=r at hr
 obtain⟨x,n,ok⟩:=r
 dsimp only at hr⊢
 by_cases g1:ok=true
 rotate_left
 ·simp -implicitDefEqProofs [g1,Fj]
 simp -implicitDefEqProofs [g1]
 refine Aa (hO x path vs tags key hr hb hv ht) ?_
 simp -implicitDefEqProofs
 refine Aa (hG h x hh hr) ?_
 simp -implicitDefEqProofs [g1]
end Go.Eng.T
namespace Go.Eng.T
set_option maxRecDepth 20000
set_option maxHeartbeats 1000000
theorem AmK {l:List Ext} {k:Nat} (h:k≤l.length):part (IK (l.flatMap Bg) 2 0 k) 2 k (l.length-k)=(l.drop k).flatMap Bg:=by
 have h0:(l.flatMap Bg).length=l.length*2:=OO l
 have e1:l.flatMap Bg=(l.take k).flatMap Bg++(l.drop k).flatMap Bg:=by rw[←List.flatMap_append,List.take_append_drop]
 have h1:((l.take k).flatMap Bg).length=k*2:=by rw[OO];simp;omega
 have h2:((l.drop k).flatMap Bg).length=(l.length-k)*2:=by rw[OO];simp
 unfold part IK
 rw[e1]
 simp only[Nat.zero_mul,List.take_zero,List.nil_append,Nat.zero_add]
 rw[List.drop_left' h1,List.drop_left' (by simp),List.take_of_length_le (by omega)]
theorem AsJ {l:List Ext} {k:Nat} (h:k≤l.length):part (l.flatMap Bg) 2 0 k=(l.take k).flatMap Bg:=by
 have e1:l.flatMap Bg=(l.take k).flatMap Bg++(l.drop k).flatMap Bg:=by rw[←List.flatMap_append,List.take_append_drop]
 have h1:((l.take k).flatMap Bg).length=k*2:=by rw[OO];simp;omega
 unfold part
 rw[e1,Nat.zero_mul,List.drop_zero,List.take_left' h1]
def Agl (seed:Int):List Int:=List.replicate (pick seed 2 3).toNat (pick seed 3 256)
def AiM (l:List Ext) (seed:Int):Nat:=(pick seed 1 (l.length+1)).toNat
def CV (l:List Ext) (seed:Int):List Ext:=
 if D9 l&&(decide (l.length<6)&& !decide (MB seed∈Am l))then l.take (AiM l seed)++⟨MB seed,Agl seed⟩::l.drop (AiM l seed)else l
theorem Arm (l:List Ext) (seed:Int) (h:l.length≤6):AiM l seed≤l.length:=by
 have:=Qf seed 1 (n:=l.length+1) ⟨by omega,by omega⟩
 unfold AiM;omega
theorem Anm (seed:Int):(Agl seed).length≤2:=by
 have:=Qf seed 2 (n:=3) ⟨by omega,by omega⟩
 unfold Agl;simp;omega
abbrev Ij (R:Rel):Prop:=∀(l:List Ext) (seed:Int),QJ l→R [.sl 1 2 l.length (l.flatMap Bg),I seed] [] (.sl 0 2 (CV l seed).length ((CV l seed).flatMap Bg)) []
theorem AlC (D:Dn) (hG:Ie (D Adq)) (hC:MO (D WM)) (hA:Fa (D Jb)) (hX:ND (D Qo)) (hP:WK (D Zk)):Ij (Body D Nv):=by
 intro l seed hl
 have hll:=hl.1
 simp -implicitDefEqProofs
 refine Aa (hG seed) ?_
 obtain⟨t,ht⟩:∃t,t=MB seed:=⟨_,rfl⟩
 rw[←ht]
 simp -implicitDefEqProofs
 refine Aa (hC l hl) ?_
 simp -implicitDefEqProofs
 refine Aa (hA l hl) ?_
 by_cases h1:D9 l=true
 rotate_left
 ·simp -implicitDefEqProofs [h1,CV]
 by_cases h2:l.length<6
 rotate_left
 ·have h2':(6:Int)≤l.length:=by omega
  simp -implicitDefEqProofs [h1,h2,h2',CV]
 have h2':¬(6:Int)≤l.length:=by omega
 simp -implicitDefEqProofs [h1,h2']
 refine Aa (hX l t (by unfold maxLen;omega)) ?_
 by_cases h3:t∈Am l
 ·have h3':0≤Hq l t:=by
   by_cases h:Hq l t<0
   ·rw[J4]at h;exact absurd h3 h
   ·omega
  simp -implicitDefEqProofs [h1,h2,h3',h3,CV,←ht]
 have h3':¬0≤Hq l t:=by
  have:Hq l t<0:=by rw[J4];exact h3
  omega
 have e:CV l seed=l.take (AiM l seed)++⟨t,Agl seed⟩::l.drop (AiM l seed):=by
  unfold CV
  rw[if_pos]
  ·rw[ht]
  ·simp[h1,h2,←ht,h3]
 have hgp:=Arm l seed (by omega)
 have hgb:=Anm seed
 rw[e]
 simp -implicitDefEqProofs [h3']
 refine Aa (hP seed 2 3) ?_
 have hp2:=Qf seed 2 (n:=3) ⟨by omega,by omega⟩
 have eb:Agl seed=List.replicate (pick seed 2 3).toNat (pick seed 3 256):=rfl
 obtain⟨n,hn⟩:∃n:Nat,pick seed 2 3=n:=⟨(pick seed 2 3).toNat,by omega⟩
 rw[hn]at eb hp2⊢
 rw[Int.toNat_natCast]at eb
 rw[eb]at hgb⊢
 generalize hv:pick seed 3 256=v at *
 simp -implicitDefEqProofs
 refine Ag (fun k s=>∃j o2 o3,j+k=n∧s=⟨[.sl 1 2 l.length (l.flatMap Bg),I seed,.undef,.undef,.arr 0,.ptr 1 0,I k,.undef,.undef,.undef],[.arr 2 0 l.length (l.flatMap Bg),.var [I t,.arr 9],o2,o3,.free,.free,.free,.free,.free,.arr 1 0 j (ints (List.replicate j v))]⟩) ?_ (n) _ ⟨0,.free,.free,by simp,by simp[ints]⟩
 intro k s ⟨j,o2,o3,hj,hs⟩
 subst hs
 by_cases hjn:j<n
 ·have hk0:0<k:=by omega
  have hb1:(j+1)*8≤1099511627776:=by omega
  have hwk:IntKind.i64.wrap ((k:Int)-1)=(k-1:Nat):=by rw[Ad (by omega) (by omega)];omega
  simp -implicitDefEqProofs [hk0]
  refine Aa (hP seed 3 256) ?_
  rw[hv]
  simp -implicitDefEqProofs [hb1]
  exact⟨k-1,by omega,j+1,by omega,by simp[hwk],by simp[ints,List.replicate_succ']⟩
 have hk0:k=0:=by omega
 obtain rfl:j=n:=by omega
 subst hk0
 have hwl:IntKind.i64.wrap ((l.length:Int)+1)=(l.length:Int)+1:=Ad (by omega) (by omega)
 simp -implicitDefEqProofs [hwl]
 refine Aa (hP seed 1 (l.length+1)) ?_
 have hp1:=Qf seed 1 (n:=(l.length:Int)+1) ⟨by omega,by omega⟩
 have eg:AiM l seed=(pick seed 1 (l.length+1)).toNat:=rfl
 generalize pick seed 1 (l.length+1)=k1 at hp1 eg
 obtain⟨kk,rfl⟩:∃kk:Nat,k1=kk:=⟨k1.toNat,by omega⟩
 rw[Int.toNat_natCast]at eg
 rw[eg]at hgp⊢
 have hk1:(kk:Int)≤l.length:=by omega
 have hb2:kk*32≤1099511627776:=by omega
 have hb3:(kk+1)*32≤1099511627776:=by omega
 have hb4:(kk+1+(l.length-kk))*32≤1099511627776:=by omega
 simp -implicitDefEqProofs [hk1,hgp,hb2,hb3,hb4,AmK hgp,AsJ hgp]
 all_goals omega
theorem Aqr {l:List Ext} (hl:QJ l) (h6:l.length≤4194303) (seed:Int):QJ (CV l seed):=by
 unfold CV
 split
 ·refine⟨?_,?_⟩
  ·simp;omega
  ·intro x hx
   rcases List.mem_append.1 hx with h | h
   ·exact hl.2 x (List.mem_of_mem_take h)
   ·rcases List.mem_cons.1 h with h | h
    ·subst h;have:=Anm seed;dsimp only;omega
    ·exact hl.2 x (List.mem_of_mem_drop h)
 ·exact hl
def bare (ts:List Int):List Ext:=ts.map fun t=>⟨t,[]⟩
theorem Ld (ts:List Int):(bare ts).length=ts.length:=by simp[bare]
theorem Ag1 {ts:List Int} (h:ts.length≤4194304):QJ (bare ts):=⟨by rw[Ld];exact h,fun x hx=>by
 obtain⟨t,_,rfl⟩:=List.mem_map.1 hx;simp⟩
theorem AjF {ts:List Int} {j:Nat} (h:j<ts.length):(bare (ts.take j)).flatMap Bg++ [.sc (.int .i64 ts[j]),.sl 0 1 0 []]=(bare (ts.take (j+1))).flatMap Bg:=by
 have e:ts.take (j+1)=ts.take j++ [ts[j]]:=by simp
 rw[e]
 unfold bare
 rw[List.map_append,List.flatMap_append]
 rfl
def FU (e:AQ) (seed:Int):Hello:=if AZ e=true then⟨e.versions,CV (bare e.tags) seed⟩else AA
abbrev MP (R:Rel):Prop:=∀(e:AQ) (seed:Int),Ac e≤4194304→R [arg (Aj e),I seed] [] (.agg (Cr (FU e seed))) []
theorem SI {e:AQ} (h:AZ e=true):e.tags.length≤5:=by
 unfold AZ at h
 simp only[Bool.and_eq_true,decide_eq_true_eq]at h
 exact h.2.1
theorem AgM {e:AQ} (hsz:Ac e≤4194304) (seed:Int):hB (FU e seed):=by
 unfold FU
 split
 ·rename_i h
  have:=SI h
  exact⟨RG hsz,Aqr (Ag1 (by omega)) (by rw[Ld];omega) seed⟩
 ·exact Ag5
theorem Apf (D:Dn) (hE:Fp (D Rv)) (hG:Ij (D AdQ)):MP (Body D Ri):=by
 intro e seed hsz
 have hl:=AaS hsz
 have hv:=RG hsz
 simp -implicitDefEqProofs
 refine Aa (hE e hl) ?_
 by_cases h1:AZ e=true
 rotate_left
 ·simp -implicitDefEqProofs [h1,FU,AA]
 have h5:=SI h1
 have he:FU e seed=⟨e.versions,CV (bare e.tags) seed⟩:=by unfold FU;rw[if_pos h1]
 rw[he]
 have hb2:e.versions.length*8≤1099511627776:=by omega
 simp -implicitDefEqProofs [h1]
 refine Ag (fun k s=>∃j o3 o4,j+k=e.tags.length∧s=⟨[.undef,I seed,.ptr 0 0,.ptr 1 0,.arr 8,I j,.undef,.undef],[.var ((Aj e).map (A9 1)),.var [.nil 1,.nil 2],.free,o3,o4,.free,.free,.free,.arr 2 0 j ((bare (e.tags.take j)).flatMap Bg)]⟩) ?_ (e.tags.length) _ ⟨0,.free,.free,by simp,by simp[bare]⟩
 intro k s ⟨j,o3,o4,hj,hs⟩
 subst hs
 by_cases hjn:j<e.tags.length
 ·have hw:IntKind.i64.wrap ((j:Int)+1)=(j+1:Nat):=by rw[Ad (by omega) (by omega)];simp
  have hst:=AjF hjn
  have hb1:(j+1)*32≤1099511627776:=by omega
  have hlen:(bare (e.tags.take j)).length=j:=by rw[Ld];simp;omega
  have hlen2:(bare (e.tags.take (j+1))).length=j+1:=by rw[Ld];simp;omega
  simp -implicitDefEqProofs [hjn,hb1]
  exact⟨k-1,by omega,j+1,by omega,by simp[hw],by rw[←hst];exact⟨rfl,rfl⟩⟩
 have e2:e.tags.take j=e.tags:=List.take_of_length_le (by omega)
 obtain rfl:j=e.tags.length:=by omega
 simp -implicitDefEqProofs [hjn,e2,hb2]
 have hq:=hG (bare e.tags) seed (Ag1 (by omega))
 rw[Ld]at hq
 refine Aa (hq) ?_
 simp -implicitDefEqProofs
theorem Apc (D:Dn) (hE:Fp (D RL)) (hG:Ij (D Adl)):MP (Body D QA):=by
 intro e seed hsz
 have hl:=AaS hsz
 have hv:=RG hsz
 simp -implicitDefEqProofs
 refine Aa (hE e hl) ?_
 by_cases h1:AZ e=true
 rotate_left
 ·simp -implicitDefEqProofs [h1,FU,AA]
 have h5:=SI h1
 have he:FU e seed=⟨e.versions,CV (bare e.tags) seed⟩:=by unfold FU;rw[if_pos h1]
 rw[he]
 have hb2:e.versions.length*8≤1099511627776:=by omega
 simp -implicitDefEqProofs [h1]
 refine Ag (fun k s=>∃j o3 o4,j+k=e.tags.length∧s=⟨[.undef,I seed,.ptr 0 0,.ptr 1 0,.arr 8,.undef,.undef,.sl 1 1 e.tags.length (ints e.tags),I e.tags.length,I j,.undef],[.var ((Aj e).map (A9 1)),.var [.nil 1,.nil 2],.free,o3,o4,.free,.free,.free,.arr 2 0 j ((bare (e.tags.take j)).flatMap Bg)]⟩) ?_ (e.tags.length) _ ⟨0,.free,.free,by simp,by simp[bare]⟩
 intro k s ⟨j,o3,o4,hj,hs⟩
 subst hs
 by_cases hjn:j<e.tags.length
 ·have hw:IntKind.i64.wrap ((j:Int)+1)=(j+1:Nat):=by rw[Ad (by omega) (by omega)];simp
  have hst:=AjF hjn
  have hb1:(j+1)*32≤1099511627776:=by omega
  have hlen:(bare (e.tags.take j)).length=j:=by rw[Ld];simp;omega
  have hlen2:(bare (e.tags.take (j+1))).length=j+1:=by rw[Ld];simp;omega
  simp -implicitDefEqProofs [hjn,hb1]
  exact⟨k-1,by omega,j+1,by omega,by simp[hw],by rw[←hst];exact⟨rfl,rfl⟩⟩
 have e2:e.tags.take j=e.tags:=List.take_of_length_le (by omega)
 obtain rfl:j=e.tags.length:=by omega
 simp -implicitDefEqProofs [hjn,e2,hb2]
 have hq:=hG (bare e.tags) seed (Ag1 (by omega))
 rw[Ld]at hq
 refine Aa (hq) ?_
 simp -implicitDefEqProofs
def Li:Ct:=⟨Fj,0,[]⟩
def Ju (e:AQ) (vs tags:List Int) (key seed:Int):Ct:=if AZ e=true then Amn (FU e seed) e.path vs tags key else Li
abbrev MQ (R:Rel):Prop:=∀(e:AQ) (vs tags:List Int) (key seed:Int),Ac e≤4194304→vs.length≤4194304→tags.length≤4194304→
 R [arg (Aj e),.sl 1 1 vs.length (ints vs),.sl 1 1 tags.length (ints tags),I key,I seed] [] (.agg (AP (Ju e vs tags key seed))) []
theorem ApF (D:Dn) (hE:Fp (D Rv)) (hH:MP (D Ahx)) (hD:AcA (D ApT)):MQ (Body D QN):=by
 intro e vs tags key seed hsz hv ht
 have hl:=AaS hsz
 simp -implicitDefEqProofs
 refine Aa (hE e hl) ?_
 by_cases h1:AZ e=true
 rotate_left
 ·simp -implicitDefEqProofs [h1,Ju,Li,Fj]
 simp -implicitDefEqProofs [h1]
 refine Aa (hH e seed hsz) ?_
 have hh:=AgM hsz seed
 have he:Ju e vs tags key seed=Amn (FU e seed) e.path vs tags key:=by unfold Ju;rw[if_pos h1]
 rw[he]
 generalize FU e seed=h at hh
 simp -implicitDefEqProofs
 refine Aa (hD h e.path vs tags key hh hl.2.2 hv ht) ?_
 simp -implicitDefEqProofs
theorem AoV (D:Dn) (hE:Fp (D RL)) (hH:MP (D Aiw)) (hD:AcA (D ApI)):MQ (Body D QD):=by
 intro e vs tags key seed hsz hv ht
 have hl:=AaS hsz
 simp -implicitDefEqProofs
 refine Aa (hE e hl) ?_
 by_cases h1:AZ e=true
 rotate_left
 ·simp -implicitDefEqProofs [h1,Ju,Li,Fj]
 simp -implicitDefEqProofs [h1]
 refine Aa (hH e seed hsz) ?_
 have hh:=AgM hsz seed
 have he:Ju e vs tags key seed=Amn (FU e seed) e.path vs tags key:=by unfold Ju;rw[if_pos h1]
 rw[he]
 generalize FU e seed=h at hh
 simp -implicitDefEqProofs
 refine Aa (hD h e.path vs tags key hh hl.2.2 hv ht) ?_
 simp -implicitDefEqProofs
def clip (n:Int):Int:=max (-100000) (min 100000 n)
abbrev AqE (R:Rel):Prop:=∀n:Int,R [I n] [] (I (clip n)) []
theorem Asy (D:Dn) (hM:AqG (D Ar0)) (hN:Ari (D AsI)):AqE (Body D QC):=by
 intro n
 simp -implicitDefEqProofs
 refine Aa (hN _ _) ?_
 simp -implicitDefEqProofs
 refine Aa (hM _ _) ?_
 simp -implicitDefEqProofs [clip]
def Lg (w:World) (i:Int):Ct:=if InQ i 0 ((w.ends.length:Int)-1)then(match w.ends[i.toNat]? with | some e=>Ju e w.server w.tags w.key (16*clip w.now+i) | none=>Li)else Li
abbrev Qd (R:Rel):Prop:=∀(w:World) (i:Int),A8 w≤4194304→R [arg (Hf w),I i] [] (.agg (AP (Lg w i))) []
theorem AqK (n:Int):-100000≤clip n∧clip n≤100000:=by unfold clip;omega
theorem ArX (D:Dn) (hI:WN (D EB)) (hC:AqE (D AiL)) (hB:MQ (D AiO)):Qd (Body D TD):=by
 intro w i hsz
 have he:=Lr hsz
 have hw:IntKind.i64.wrap ((w.ends.length:Int)-1)=(w.ends.length:Int)-1:=Ad (by omega) (by omega)
 simp -implicitDefEqProofs [hw]
 refine Aa (hI _ _ _) ?_
 by_cases h1:InQ i 0 ((w.ends.length:Int)-1)
 rotate_left
 ·simp -implicitDefEqProofs [h1,Lg,Li,Fj]
 obtain⟨n,rfl⟩:∃n:Nat,i=n:=⟨i.toNat,by have:=h1.1;omega⟩
 have hn:n<w.ends.length:=by have:=h1.2;omega
 have hb:=RV hsz
 have hes:=VE hsz hn
 have e:Lg w n=Ju w.ends[n] w.server w.tags w.key (16*clip w.now+n):=by unfold Lg;rw[if_pos h1];simp[hn]
 rw[e]
 simp -implicitDefEqProofs [h1,hn]
 refine Aa (hC w.now) ?_
 have hcl:=AqK w.now
 generalize clip w.now=c at hcl
 have hw1:IntKind.i64.wrap (16*c)=16*c:=Ad (by omega) (by omega)
 have hw2:IntKind.i64.wrap (16*c+n)=16*c+n:=Ad (by omega) (by omega)
 simp -implicitDefEqProofs [hw1,hw2]
 refine Aa (hB w.ends[n] w.server w.tags w.key _ hes hb.1 hb.2.1) ?_
 simp -implicitDefEqProofs
theorem Ar8 (D:Dn) (hI:Aet (D Akf)) (hB:MQ (D Air)):Qd (Body D TA):=by
 intro w i hsz
 have he:=Lr hsz
 simp -implicitDefEqProofs
 refine Aa (hI w i he) ?_
 by_cases h1:InQ i 0 ((w.ends.length:Int)-1)
 rotate_left
 ·simp -implicitDefEqProofs [h1,Lg,Li,Fj]
 obtain⟨n,rfl⟩:∃n:Nat,i=n:=⟨i.toNat,by have:=h1.1;omega⟩
 have hn:n<w.ends.length:=by have:=h1.2;omega
 have hb:=RV hsz
 have hes:=VE hsz hn
 have e:Lg w n=Ju w.ends[n] w.server w.tags w.key (16*clip w.now+n):=by unfold Lg;rw[if_pos h1];simp[hn]
 rw[e]
 simp -implicitDefEqProofs [h1,hn]
 have hc:(if(if 100000<w.now then 100000 else w.now)< -100000 then -100000 else if 100000<w.now then 100000 else w.now)=clip w.now:=by
  unfold clip
  split<;>split<;>omega
 rw[hc]
 have hcl:=AqK w.now
 generalize clip w.now=c at hcl
 have hw1:IntKind.i64.wrap (16*c)=16*c:=Ad (by omega) (by omega)
 have hw2:IntKind.i64.wrap (16*c+n)=16*c+n:=Ad (by omega) (by omega)
 rw[hw1,hw2]
 refine Aa (hB w.ends[n] w.server w.tags w.key _ hes hb.1 hb.2.1) ?_
 simp -implicitDefEqProofs
end Go.Eng.T
namespace Go.Eng.T
set_option maxRecDepth 20000
set_option maxHeartbeats 4000000
end Go.Eng.T
namespace Go.Eng.T
set_option maxRecDepth 20000
set_option maxHeartbeats 2000000
theorem Aen (p:Int→Bool) (l:List Ext):(kept p l).length≤l.length:=List.length_filter_le _ _
theorem Apn (b:FH) (h:Hello):(BF b h).1.exts.length≤h.exts.length:=by
 unfold BF
 split
 ·exact Aen _ _
 ·simp[AA]
theorem Ajb:∀(path:List FH) (h:Hello),(Gx path h).1.exts.length≤h.exts.length
 | [],h=>by simp[Gx]
 | b::r,h=>by
  have h1:=Apn b h
  have h2:=Ajb r (BF b h).1
  unfold Gx
  split
  ·omega
  ·simp[AA]
theorem AnP (path:List FH) (h:Hello):(AU path h).1.exts.length≤h.exts.length:=by
 unfold AU
 split
 ·exact Ajb _ _
 ·simp[AA]
theorem Aya (h:Hello) (a b:List Int):(EA h a b).1.exts.length≤h.exts.length:=by
 unfold EA
 split
 ·exact Aen (fun t=> !decide (t∈b)) h.exts
 ·simp[AA]
theorem AyV (h:Hello) (path:List FH):(BS h path).1.exts.length≤h.exts.length:=by
 unfold BS fallback
 have:=Aya h (Bd path h.versions) (Eu path (leftOf h.versions (Bd path h.versions)) h.exts)
 repeat' split
 all_goals simp[AA]<;>omega
theorem Ate (h seen:Hello) (vs tags:List Int) (key:Int):(AaO h seen vs tags key).tags.length≤seen.exts.length:=by
 unfold AaO
 split
 ·have:(Bb vs tags seen).1.exts.length≤seen.exts.length:=by
   unfold Bb
   split
   ·exact Nat.le_trans (Aen (fun t=> !Au t) (Jt seen.exts tags)) (Aen (fun t=>decide (t∈tags)) seen.exts)
   ·simp
  simpa[Am]using this
 ·simp[Fj]
theorem Azr (h:Hello) (path:List FH) (vs tags:List Int) (key:Int):Ai (Amn h path vs tags key)≤2*h.exts.length+h.versions.length:=by
 unfold Amn
 split
 ·have h1:=AyV h path
  have h2:=AnP path (BS h path).1
  have h3:(RA (BS h path).1 path vs tags key).tags.length≤h.exts.length:=by
   unfold RA
   split
   ·have:=Ate (BS h path).1 (AU path (BS h path).1).1 vs tags key;omega
   ·simp[Fj]
  have h4:(Sz h (BS h path).1).length≤h.exts.length+h.versions.length:=by
   unfold Sz leftOf
   have a1:=List.length_filter_le (fun v=> !decide (v∈(BS h path).1.versions)) h.versions
   have a2:=List.length_filter_le (Acx (Am (BS h path).1.exts)) (Am h.exts)
   have a3:(Am h.exts).length=h.exts.length:=KX _
   simp only[List.length_append,List.length_map]
   omega
  simp only[Ai,Er]
  omega
 ·simp[Ai,Er,Fj]
theorem Asf (l:List Ext) (seed:Int) (h:l.length≤5):(CV l seed).length≤6:=by
 unfold CV
 split
 ·simp;omega
 ·omega
theorem ApU (e:AQ) (vs tags:List Int) (key seed:Int):Ai (Ju e vs tags key seed)≤21:=by
 unfold Ju
 split
 ·rename_i h1
  have h5:=SI h1
  have e1:FU e seed=⟨e.versions,CV (bare e.tags) seed⟩:=by unfold FU;rw[if_pos h1]
  have h2:=Azr (FU e seed) e.path vs tags key
  have h3:=Asf (bare e.tags) seed (by rw[Ld];exact h5)
  have h4:e.versions.length≤9:=by
   unfold AZ at h1
   simp only[Bool.and_eq_true,decide_eq_true_eq]at h1
   exact AmO h1.1
  rw[e1]at h2⊢
  dsimp only at h2⊢
  omega
 ·simp[Ai,Er,Li,Fj]
theorem Atq (w:World) (i:Int):Ai (Lg w i)≤21:=by
 unfold Lg
 repeat' split
 all_goals first | exact ApU _ _ _ _ _ | simp[Ai,Er,Li,Fj]
def AqI (w:World) (i:Int) (d:Ct) (on:Bool):World:=
 {w with log:=w.log++ [⟨i,w.now,on,d⟩],stage:=(if on=true then w.stage++ [d]else w.stage),hurt:=(if(on&&ACT w.rollout.version d)=true then IntKind.i64.wrap (w.hurt+1)else w.hurt)}
def Art (w:World) (i:Int):Bool:=decide (InQ i 0 ((w.ends.length:Int)-1))&&(decide (w.log.length<60)&&decide (w.stage.length<60))
def RP (w:World) (i:Int):World×Bool:=if Art w i=true then(AqI w i (Lg w i) (Ax0 w i),true)else(w,false)
theorem Alq (w:World) (i:Int):A8 (RP w i).1+(60-(RP w i).1.log.length)*50≤A8 w+(60-w.log.length)*50∧(RP w i).1.ends=w.ends∧(RP w i).1.rollout=w.rollout:=by
 unfold RP
 split
 ·rename_i h
  unfold Art at h
  simp only[Bool.and_eq_true,decide_eq_true_eq]at h
  have hd:=Atq w i
  refine⟨?_,rfl,rfl⟩
  unfold AqI
  simp only[A8,Bn,List.length_append,List.length_cons,List.length_nil,List.map_append,List.map_cons,List.map_nil,List.sum_append,List.sum_cons,List.sum_nil,Az]
  split
  ·simp only[List.length_append,List.length_cons,List.length_nil,List.map_append,List.map_cons,List.map_nil,List.sum_append,List.sum_cons,List.sum_nil];omega
  ·omega
 ·exact⟨Nat.le_refl _,rfl,rfl⟩
def Aqz (w:World):Nat→World
 | 0=>w
 | n+1=>(RP (Aqz w n) n).1
theorem Asq (w:World):∀n,A8 (Aqz w n)+(60-(Aqz w n).log.length)*50≤A8 w+(60-w.log.length)*50
 | 0=>Nat.le_refl _
 | n+1=>Nat.le_trans (Alq (Aqz w n) n).1 (Asq w n)
end Go.Eng.T
namespace Go.Eng.T
set_option maxRecDepth 20000
set_option maxHeartbeats 2000000
def apart (w:World) (j:Nat):Bool:=match w.ends[j]? with
 | some e=>Ej e.path&&(!(Lg w j).deal.ok|| !decide ((Lg w j).deal.version=Bw w.server e.versions))
 | none=>false
def MC (w:World):Bool:=Lj w.server (Js w)&&M4 (fun j=> !apart w j) w.ends.length
theorem Akj {w:World} {j:Nat} (h:j<w.ends.length) (ha:apart w j=true):MC w=false:=by
 unfold MC
 rw[Ag3 (q:=fun j=> !apart w j) h (by simp[ha])]
 simp
abbrev Gu (R:Rel):Prop:=∀w:World,A8 w≤4194304→R [arg (Hf w)] [] (B (MC w)) []
theorem Ait (D:Dn) (hD:Qd (D Ake)) (hK:FT (D Zu)) (hB:El (D LU)) (hL:M6 (D Ah9)) (hA:J7 (D AfH)):Gu (Body D LQ):=by
 intro w hsz
 have he:=Lr hsz
 have hws:=RV hsz
 simp -implicitDefEqProofs
 refine Ag (fun k s=>∃j o1 o2 o3 o4,j+k=w.ends.length∧M4 (fun j=> !apart w j) j=true∧s=⟨[.undef,.ptr 0 0,.undef,I j,.undef,.undef,.undef,.undef],[.var ((Hf w).map (A9 1)),o1,o2,o3,o4,.free]⟩) ?_ (w.ends.length) _ ⟨0,.free,.free,.free,.free,by simp,by simp,by simp⟩
 intro k s ⟨j,o1,o2,o3,o4,hj,hp,hs⟩
 subst hs
 by_cases hjn:j<w.ends.length
 ·have hw:IntKind.i64.wrap ((j:Int)+1)=(j+1:Nat):=by rw[Ad (by omega) (by omega)];simp
  have hst:=HZ (fun j=> !apart w j) j
  have hes:=VE hsz hjn
  simp -implicitDefEqProofs [hjn]
  refine Aa (hD w j hsz) ?_
  generalize hd:Lg w j=d
  have hap:apart w j=(Ej w.ends[j].path&&(!d.deal.ok|| !decide (d.deal.version=Bw w.server w.ends[j].versions))):=by unfold apart;simp[hjn,hd]
  simp -implicitDefEqProofs
  refine Aa (hK w.ends[j].path (AaS hes).2.2) ?_
  by_cases g1:Ej w.ends[j].path=true
  rotate_left
  ·have ha:apart w j=false:=by rw[hap];simp[g1]
   rw[ha]at hst
   simp -implicitDefEqProofs [g1,hjn]
   exact⟨k-1,by omega,j+1,by omega,by rw[hst,hp];rfl,by simp[hw]⟩
  by_cases g2:d.deal.ok=true
  rotate_left
  ·have ha:apart w j=true:=by rw[hap];simp[g1,g2]
   simp -implicitDefEqProofs [g1,g2,hjn,Akj hjn ha]
  simp -implicitDefEqProofs [g1,g2,hjn]
  refine Aa (hB w.server w.ends[j].versions hws.1 (RG hes)) ?_
  generalize Bw w.server w.ends[j].versions=b at hap
  by_cases g3:d.deal.version=b
  ·have ha:apart w j=false:=by rw[hap];simp[g1,g2,g3]
   rw[ha]at hst
   simp -implicitDefEqProofs [g1,g2,g3,hjn]
   exact⟨k-1,by omega,j+1,by omega,by rw[hst,hp];rfl,by simp[hw]⟩
  ·have ha:apart w j=true:=by rw[hap];simp[g1,g2,g3]
   simp -implicitDefEqProofs [g1,g2,g3,hjn,Akj hjn ha]
 ·obtain rfl:j=w.ends.length:=by omega
  simp -implicitDefEqProofs
  refine Aa (hL w hsz) ?_
  simp -implicitDefEqProofs
  refine Aa (hA w.server (Js w) hws.1 (AmR hsz)) ?_
  simp -implicitDefEqProofs [MC,hp]
theorem AhS (D:Dn) (hD:Qd (D Ali)) (hK:FT (D YC)) (hB:El (D LJ)) (hL:M6 (D Aib)) (hA:J7 (D AfZ)):Gu (Body D LC):=by
 intro w hsz
 have he:=Lr hsz
 have hws:=RV hsz
 simp -implicitDefEqProofs
 refine Aa (hL w hsz) ?_
 simp -implicitDefEqProofs
 refine Aa (hA w.server (Js w) hws.1 (AmR hsz)) ?_
 by_cases g0:Lj w.server (Js w)=true
 rotate_left
 ·simp -implicitDefEqProofs [MC,g0]
 simp -implicitDefEqProofs [g0]
 refine Ag (fun k s=>∃j o2 o3 o4 o5,j+k=w.ends.length∧M4 (fun j=> !apart w j) j=true∧s=⟨[.undef,.ptr 0 0,.undef,.undef,.undef,.undef,.undef,.sl 1 4 w.ends.length (w.ends.flatMap Aj),I w.ends.length,I j,.undef,.undef],[.var ((Hf w).map (A9 1)),.arr 1 0 (Js w).length (G8 (Js w)),o2,o3,o4,o5]⟩) ?_ (w.ends.length) _ ⟨0,.free,.free,.free,.free,by simp,by simp,by simp⟩
 intro k s ⟨j,o2,o3,o4,o5,hj,hp,hs⟩
 subst hs
 by_cases hjn:j<w.ends.length
 ·have hw:IntKind.i64.wrap ((j:Int)+1)=(j+1:Nat):=by rw[Ad (by omega) (by omega)];simp
  have hst:=HZ (fun j=> !apart w j) j
  have hes:=VE hsz hjn
  simp -implicitDefEqProofs [hjn]
  refine Aa (hD w j hsz) ?_
  generalize hd:Lg w j=d
  have hap:apart w j=(Ej w.ends[j].path&&(!d.deal.ok|| !decide (d.deal.version=Bw w.server w.ends[j].versions))):=by unfold apart;simp[hjn,hd]
  simp -implicitDefEqProofs
  refine Aa (hK w.ends[j].path (AaS hes).2.2) ?_
  by_cases g1:Ej w.ends[j].path=true
  rotate_left
  ·have ha:apart w j=false:=by rw[hap];simp[g1]
   rw[ha]at hst
   simp -implicitDefEqProofs [g1,hjn]
   exact⟨k-1,by omega,j+1,by omega,by rw[hst,hp];rfl,by simp[hw]⟩
  by_cases g2:d.deal.ok=true
  rotate_left
  ·have ha:apart w j=true:=by rw[hap];simp[g1,g2]
   simp -implicitDefEqProofs [g1,g2,hjn,Akj hjn ha]
  simp -implicitDefEqProofs [g1,g2,hjn]
  refine Aa (hB w.server w.ends[j].versions hws.1 (RG hes)) ?_
  generalize Bw w.server w.ends[j].versions=b at hap
  by_cases g3:d.deal.version=b
  ·have ha:apart w j=false:=by rw[hap];simp[g1,g2,g3]
   rw[ha]at hst
   simp -implicitDefEqProofs [g1,g2,g3,hjn]
   exact⟨k-1,by omega,j+1,by omega,by rw[hst,hp];rfl,by simp[hw]⟩
  ·have ha:apart w j=true:=by rw[hap];simp[g1,g2,g3]
   simp -implicitDefEqProofs [g1,g2,g3,hjn,Akj hjn ha]
 ·obtain rfl:j=w.ends.length:=by omega
  simp -implicitDefEqProofs [MC,g0,hp]
end Go.Eng.T
namespace Go.Eng.T
open Go.Eng.X
def Ap:Nat→Bv
 |0=>R 0 [x 0 (s 0),m f] [(1,0)] [0,2]
 |1=>R 1 [m (i 1048576)] [(3,0)] []
 |2=>R 2 [P 15 (s 1),m (s 3),C 7 [r (l 0),r (l 1)] [],m (l 2)] [(3,3)] []
 |3=>R 3 [m (s 3),y .lss (l 0) (i 0)] [(7,1)] [3]
 |4=>R 4 [m t] [(2,0)] [1]
 |5=>R 5 [P 15 (s 1),C 8 [r (l 0)] [1,2,3,4,5,6],C 162 [r (l 1)] [],m (l 2)] [(4,3)] []
 |6=>R 6 [P 15 (s 1),C 8 [r (l 0)] [7,8,9,10,11,12],a 13 zW,W 15 (l 2) (l 1)] [(5,2)] []
 |7=>R 7 [P 15 (s 5),C 201 [r (l 0)] [],m (l 1)] [(6,2)] []
 |8=>R 8 [m (s 6),m (s 4),I9.beq true (l 0) (l 1)] [(8,2)] [4,6]
 |9=>R 9 [m f] [(2,0)] [1,5]
 |10=>T 10 [D (P 15 (s 5)) [13] [],D (P 15 (s 1)) [0] [],D (C 8 [r (l 1)] [14,15,16,17,18,19]) [14,15,16,17,18,19] [14,15,16,17,18,19],D (C 11 [r (l 0),r (l 2)] []) [7,8,9,10,11,12,14,15,16,17,18,19] [],D (n (l 3)) [] []] [(9,4)] [1,5]
 |11=>R 11 [m f] [(2,0)] []
 |_=>R 12 [m t] [(2,0)] []
def Gf:BA:=⟨10,20,[0],0,false,[],j (d (Ap 0)) (j (d (Ap 1)) (j (d (Ap 2)) (j (j (d (Ap 3)) (h 7 (j (d (Ap 4)) (.ret)) (.skip))) (j (d (Ap 5)) (j (d (Ap 6)) (j (d (Ap 7)) (j (j (d (Ap 8)) (h 8 (j (d (Ap 9)) (.ret)) (.skip))) (j (j (d (Ap 10)) (h 9 (j (d (Ap 11)) (.ret)) (.skip))) (j (d (Ap 12)) (.ret)))))))))),[.slot 2]⟩
def P5:List Tmp:=[0,1,2,3,4,5,6,11,21,26]
def DW:Nat→Bv
 |0=>R 0 [m (z 2)] [] [2]
 |1=>R 1 [m (s 0),C 318 [r (l 0)] [0],m (s 1),C 319 [r (l 2)] [],m (l 1),m (l 3)] [(3,4),(4,5)] []
 |2=>R 2 [m (s 0),C 320 [r (l 0)] [],n (l 1),m (l 2),G 3 (m (s 0)),G 3 (e (l 4)),G 3 (y .eql (l 5) (i 6)),k (l 3) t (l 6),m (l 7),G 8 (m (s 0)),G 8 (m (s 4)),G 8 (C 321 [r (l 9),r (l 10)] []),G 8 (y .geq (l 11) (i 0)),k (l 8) t (l 12)] [(6,13)] []
 |3=>R 3 [m (s 3),m (l 0)] [(2,1)] [0,1,3,4]
 |4=>R 4 [m (s 1),C 322 [r (l 0),r (i 3),r (i 256)] [],M 1 1 1 [l 1],m (s 1),C 322 [r (l 3),r (i 2),r (i 3)] [],C 323 [r (l 2),r (l 4)] [2],m (l 5)] [(5,6)] []
 |_=>R 5 [m (s 3),m (s 1),m (s 0),e (l 2),y .add (l 3) (i 1),C 322 [r (l 1),r (i 1),r (l 4)] [],m (s 4),m (s 5),b [o,N 1] [(0,1,l 6),(1,1,l 7)],M 3 2 1 [l 8],C 324 [v (l 0),r (l 5),v (l 9)] [4],m (l 10)] [(2,11)] [0,1,3,4,5]
def Ls:BA:=⟨7,5,[0,1],0,false,[],j (d (DW 0)) (j (d (DW 1)) (j (j (d (DW 2)) (h 6 (j (d (DW 3)) (.ret)) (.skip))) (j (d (DW 4)) (j (d (DW 5)) (.ret))))),[.slot 2]⟩
def Ye:List Tmp:=[0,1,4,5,6,7,25]
def Ah:Nat→Bv
 |0=>R 0 [m (z 1)] [] [1]
 |1=>R 1 [m (i 0)] [(2,0)] []
 |2=>R 2 [m (s 0),e (l 0),m (i 0)] [(6,0),(7,1),(8,2)] []
 |3=>R 3 [y .lss (s 8) (s 7)] [(9,0)] []
 |4=>R 4 [A 1 (s 6) (s 8),L (l 0),m (l 1)] [(3,2)] []
 |5=>R 5 [m (s 2),m (s 3),e (l 1),y .add (l 0) (l 2),m (l 3)] [(2,4)] [3]
 |6=>R 6 [m (s 2),y .lss (l 0) (i 0)] [(10,1)] []
 |7=>R 8 [y .add (s 8) (i 1),m (l 0)] [(8,1)] []
 |8=>Q 9 [m (s 2),C 419 [r (.con (.sc (.slice none 0 0))),r (l 0)] [0],m (l 1)] [(4,2)] [2,6,7,8] [] [w 0 2]
 |9=>R 10 [m (s 0),e (l 0),m (i 0)] [(11,0),(12,1),(13,2)] [0]
 |10=>R 11 [y .lss (s 13) (s 12)] [(14,0)] []
 |11=>R 12 [A 1 (s 11) (s 13),L (l 0),m (l 1)] [(5,2)] []
 |12=>Q 13 [m (s 4),m (s 5),q 1 1 8 (l 0) (l 1),m (l 2)] [(4,3)] [5] [1] [w 1 2]
 |13=>R 14 [y .add (s 13) (i 1),m (l 0)] [(13,1)] []
 |_=>R 15 [m (s 4),m (l 0)] [(1,1)] [4,11,12,13]
def FM:BA:=⟨15,3,[0],0,false,[],j (d (Ah 0)) (j (d (Ah 1)) (j (j (d (Ah 2)) (.block 0 (.loop (j (d (Ah 3)) (j (h 9 (.skip) (.exit 0)) (j (.block 1 (j (d (Ah 4)) (j (d (Ah 5)) (j (d (Ah 6)) (h 10 (.stuck) (.skip)))))) (d (Ah 7)))))))) (j (d (Ah 8)) (j (j (d (Ah 9)) (.block 2 (.loop (j (d (Ah 10)) (j (h 14 (.skip) (.exit 2)) (j (.block 3 (j (d (Ah 11)) (d (Ah 12)))) (d (Ah 13)))))))) (j (d (Ah 14)) (.ret)))))),[.slot 1]⟩
def Ns:List Tmp:=[0,2,3,5,6,8,9,10,11,12,20,25,26,27,28]
attribute [simp] Ap Gf DW Ls Ah FM
end Go.Eng.T
namespace Go.Eng.T
set_option maxRecDepth 20000
set_option maxHeartbeats 2000000
abbrev Av5 (R:Rel):Prop:=∀n:Nat,n≤16777216→R [.sc (.slice none 0 0),I n] [] (.sl 0 1 0 []) []
def R3 (ls:List (List Int)):List Int:=ls.flatten
abbrev YA (R:Rel):Prop:=∀ls:List (List Int),GA ls≤8388608→R [II ls] [] (.sl 0 1 (R3 ls).length (ints (R3 ls))) []
theorem Ai4 {ls:List (List Int)} {j:Nat} (h:j<ls.length):R3 (ls.take (j+1))=R3 (ls.take j)++ls[j]:=by
 have e:ls.take (j+1)=ls.take j++ [ls[j]]:=by simp
 unfold R3
 rw[e,List.flatten_append];simp
theorem AkF (ls:List (List Int)) (j:Nat):(R3 (ls.take j)).length≤GA ls:=by
 unfold R3
 have h1:(ls.take j).flatten.length≤ls.flatten.length:=by
  conv=>rhs;rw[←List.take_append_drop j ls,List.flatten_append,List.length_append]
  omega
 have h2:ls.flatten.length≤GA ls:=by
  unfold GA Bn
  rw[List.length_flatten]
  omega
 omega
theorem Avj (D:Dn) (hG:Av5 (D R6)):YA (Body D FM):=by
 intro ls hl
 have hll:=O7 (xs:=ls)
 simp -implicitDefEqProofs
 refine Ag (fun k s=>∃j,j+k=ls.length∧s=⟨[II ls,.undef,I ((R3 (ls.take j)).length:Nat),.undef,.undef,.undef,II ls,I ls.length,I j,.undef,.undef,.undef,.undef,.undef,.undef],[.free,.free,.free]⟩) ?_ (ls.length) _ ⟨0,by simp,by simp[R3]⟩
 intro k s ⟨j,hj,hs⟩
 subst hs
 by_cases hjn:j<ls.length
 ·have hw:IntKind.i64.wrap ((j:Int)+1)=(j+1:Nat):=by rw[Ad (by omega) (by omega)];simp
  have hst:=congrArg List.length (Ai4 hjn)
  rw[List.length_append]at hst
  have hle:=AkF ls (j+1)
  obtain⟨n2,hn2⟩:∃n2,n2=(R3 (ls.take (j+1))).length:=⟨_,rfl⟩
  obtain⟨n1,hn1⟩:∃n1,n1=(R3 (ls.take j)).length:=⟨_,rfl⟩
  rw[←hn2]at hst hle
  rw[←hn1]at hst⊢
  have hw2:IntKind.i64.wrap ((n1:Int)+(ls[j].length:Nat))=(n2:Int):=by rw[hst,Ad (by omega) (by omega)];omega
  have hneg:¬(n2:Int)<0:=by omega
  simp -implicitDefEqProofs [hjn,hw2,hneg]
  exact⟨k-1,by omega,j+1,by omega,by simp[hw,hn2]⟩
 ·have e:ls.take j=ls:=List.take_of_length_le (by omega)
  have hle:=AkF ls j
  simp -implicitDefEqProofs [hjn,e]
  rw[e]at hle
  refine Aa (hG (R3 ls).length (by omega)) ?_
  simp -implicitDefEqProofs
  refine Ag (fun k s=>∃j o1,j+k=ls.length∧s=⟨[.undef,.undef,.undef,.undef,.arr 2,.undef,.undef,.undef,.undef,.undef,.undef,II ls,I ls.length,I j,.undef],[.free,o1,.arr 1 0 (R3 (ls.take j)).length (ints (R3 (ls.take j)))]⟩) ?_ (ls.length) _ ⟨0,.free,by simp,by simp[R3]⟩
  intro k s ⟨j,o1,hj,hs⟩
  subst hs
  clear hjn e
  by_cases hjn:j<ls.length
  ·have hw:IntKind.i64.wrap ((j:Int)+1)=(j+1:Nat):=by rw[Ad (by omega) (by omega)];simp
   have hst:=Ai4 hjn
   have hle2:=AkF ls (j+1)
   have hsl:=congrArg List.length hst
   rw[List.length_append]at hsl
   generalize(R3 (ls.take j))=r1 at *
   have hb1:(r1.length+ls[j].length)*8≤1099511627776:=by omega
   simp -implicitDefEqProofs [hjn,hb1]
   exact⟨k-1,by omega,j+1,by omega,by simp[hw],by rw[hst];simp[ints]⟩
  ·have e:ls.take j=ls:=List.take_of_length_le (by omega)
   simp -implicitDefEqProofs [hjn,e]
theorem AwJ (D:Dn) (hC:YA (D IJ)) (hH:Uc (D Xn)):Vg (Body D Ob):=by
 intro k xs hl
 simp -implicitDefEqProofs
 have hc:=hC [[k],xs,[k]] (by simp[GA,Bn];omega)
 simp -implicitDefEqProofs [II,G8,ints]at hc
 simp -implicitDefEqProofs [ints]
 refine Aa (hc) ?_
 have ek:R3 [[k],xs,[k]]=k::xs++ [k]:=by simp[R3]
 rw[ek]
 have hlen:(k::xs++ [k]).length=xs.length+1+1:=by simp
 have hh:=hH (k::xs++ [k]) (by unfold maxLen;omega)
 rw[hlen]at hh
 simp -implicitDefEqProofs [ints]at hh
 simp -implicitDefEqProofs [ints]
 refine Aa (hh) ?_
 simp -implicitDefEqProofs [keyed]
theorem AhH (D:Dn) (hI:DF (D F3)) (hE:Fs (D Rq)) (hC:YA (D IJ)):Gt (Body D Mv):=by
 intro h hh
 have hv:=hh.1
 simp -implicitDefEqProofs
 refine Aa (hI h hh) ?_
 by_cases h1:Cj h=true
 rotate_left
 ·simp -implicitDefEqProofs [h1,AV]
 have hl:=JZ h.exts
 have e:AV h=((h.versions.length:Int)::h.versions)++(Ed h.exts).1:=by unfold AV;rw[if_pos h1]
 rw[e]
 simp -implicitDefEqProofs [h1]
 refine Aa (hE h.exts hh.2) ?_
 generalize(Ed h.exts).1=r at hl
 simp -implicitDefEqProofs [ints]
 have hc:=hC [[(h.versions.length:Int)],h.versions,r] (by simp[GA,Bn];omega)
 simp -implicitDefEqProofs [II,G8,ints]at hc
 refine Aa (hc) ?_
 have ek:R3 [[(h.versions.length:Int)],h.versions,r]=((h.versions.length:Int)::h.versions)++r:=by simp[R3]
 rw[ek]
 simp -implicitDefEqProofs [ints]
abbrev Ako (R:Rel):Prop:=∀(v:Int) (n:Nat),n≤2→R [.sl 1 1 1 (ints [v]),I n] [] (.sl 0 1 n (ints (List.replicate n v))) []
abbrev Ak0 (R:Rel):Prop:=∀(l:List Ext) (i:Nat) (x:Ext),l.length≤4194304→i≤l.length→
 R [.arr 0,I i,.arr 1] [.arr 2 0 l.length (l.flatMap Bg),.arr 2 0 1 (Bg x)] (.sl 0 2 (l.length+1) ((l.take i++x::l.drop i).flatMap Bg)) [.dead,.dead]
theorem AkY (D:Dn) (hC:MO (D UQ)) (hG:Ie (D AcK)) (hA:Fa (D Ja)) (hX:ND (D Acl)) (hP:WK (D ZO))
 (hR:Ako (D P6)) (hI:Ak0 (D Jp)):Ij (Body D Ls):=by
 intro l seed hl
 have hll:=hl.1
 simp -implicitDefEqProofs
 refine Aa (hC l hl) ?_
 simp -implicitDefEqProofs
 refine Aa (hG seed) ?_
 obtain⟨t,ht⟩:∃t,t=MB seed:=⟨_,rfl⟩
 rw[←ht]
 simp -implicitDefEqProofs
 refine Aa (hA l hl) ?_
 by_cases h1:D9 l=true
 rotate_left
 ·simp -implicitDefEqProofs [h1,CV]
 have h6:l.length≤6:=VD h1
 by_cases h2:l.length=6
 ·have h2':((l.length:Nat):Int)=6:=by omega
  simp -implicitDefEqProofs [h1,h2',CV,h2]
 have h2':¬((l.length:Nat):Int)=6:=by omega
 have h2l:l.length<6:=by omega
 simp -implicitDefEqProofs [h1,h2',h2]
 refine Aa (hX l t (by unfold maxLen;omega)) ?_
 by_cases h3:t∈Am l
 ·have h3':0≤Hq l t:=by
   by_cases h:Hq l t<0
   ·rw[J4]at h;exact absurd h3 h
   ·omega
  simp -implicitDefEqProofs [h1,h2l,h2',h2,h3',h3,CV,←ht]
 have h3':¬0≤Hq l t:=by
  have:Hq l t<0:=by rw[J4];exact h3
  omega
 have e:CV l seed=l.take (AiM l seed)++⟨t,Agl seed⟩::l.drop (AiM l seed):=by
  unfold CV
  rw[if_pos]
  ·rw[ht]
  ·simp[h1,h2l,←ht,h3]
 have hgp:=Arm l seed h6
 rw[e]
 simp -implicitDefEqProofs [h3',h2',h2]
 refine Aa (hP seed 3 256) ?_
 simp -implicitDefEqProofs
 refine Aa (hP seed 2 3) ?_
 have hp2:=Qf seed 2 (n:=3) ⟨by omega,by omega⟩
 have eb:Agl seed=List.replicate (pick seed 2 3).toNat (pick seed 3 256):=rfl
 obtain⟨n,hn⟩:∃n:Nat,pick seed 2 3=n:=⟨(pick seed 2 3).toNat,by omega⟩
 rw[hn]at eb hp2⊢
 rw[Int.toNat_natCast]at eb
 rw[eb]
 generalize pick seed 3 256=v at *
 simp -implicitDefEqProofs [ints]
 have hr:=hR v n (by omega)
 simp -implicitDefEqProofs [ints]at hr
 refine Aa (hr) ?_
 have hwl:IntKind.i64.wrap ((l.length:Int)+1)=(l.length:Int)+1:=Ad (by omega) (by omega)
 simp -implicitDefEqProofs [hwl]
 refine Aa (hP seed 1 (l.length+1)) ?_
 have hp1:=Qf seed 1 (n:=(l.length:Int)+1) ⟨by omega,by omega⟩
 have eg:AiM l seed=(pick seed 1 (l.length+1)).toNat:=rfl
 generalize pick seed 1 (l.length+1)=k1 at hp1 eg
 obtain⟨kk,rfl⟩:∃kk:Nat,k1=kk:=⟨k1.toNat,by omega⟩
 rw[Int.toNat_natCast]at eg
 rw[eg]at hgp⊢
 simp -implicitDefEqProofs
 have hi:=hI l kk ⟨t,List.replicate n v⟩ (by omega) hgp
 simp -implicitDefEqProofs [Bg,ints]at hi
 refine Aa (hi) ?_
 have hlen:(l.take kk++(⟨t,List.replicate n v⟩:Ext)::l.drop kk).length=l.length+1:=by simp;omega
 simp -implicitDefEqProofs [hlen,Bg,ints]
 omega
end Go.Eng.T
namespace Go.Eng.T
theorem Asj:∀(n:Nat) (k:Int),nums n k++ [k+n]=nums (n+1) k
 | 0,k=>by simp[nums]
 | n+1,k=>by
  have:=Asj n (k+1)
  simp only[nums,List.cons_append]
  rw[show k+((n+1:Nat):Int)=k+1+(n:Int)by omega,this]
  rfl
end Go.Eng.T
namespace Go.Eng.T
end Go.Eng.T
namespace Go.Eng.T
set_option maxRecDepth 20000
end Go.Eng.T
namespace Go.Eng.T
set_option maxRecDepth 20000
end Go.Eng.T
namespace Go.Eng.T
abbrev AjQ:Nat:=511
abbrev Aor:Nat:=512
abbrev AsY:Nat:=513
abbrev Asw:Nat:=514
abbrev AlP:Nat:=515
abbrev Aw7:Nat:=516
abbrev Avq:Nat:=517
abbrev Avs:Nat:=518
abbrev Aog:Nat:=519
abbrev Amk:Nat:=520
abbrev AzC:Nat:=521
abbrev Aoq:Nat:=522
abbrev Axc:Nat:=523
abbrev Aqt:Nat:=524
abbrev Aoj:Nat:=525
abbrev Amz:Nat:=526
abbrev AnF:Nat:=527
abbrev AqW:Nat:=528
abbrev Aqp:Nat:=529
abbrev Aot:Nat:=530
abbrev Aom:Nat:=531
abbrev Aw3:Nat:=532
abbrev AuB:Nat:=533
abbrev ABW:Nat:=534
abbrev An5:Nat:=535
abbrev Ar5:Nat:=536
abbrev Aua:Nat:=537
abbrev AqZ:Nat:=538
abbrev AuY:Nat:=539
abbrev Aqc:Nat:=540
abbrev Avt:Nat:=541
end Go.Eng.T
namespace Go.Eng.T
set_option maxRecDepth 20000
end Go.Eng.T
namespace Go.Eng.T
set_option maxRecDepth 20000
set_option maxHeartbeats 2000000
abbrev JS (R:Rel):Prop:=∀(aW:World),ZK aW→AkR aW→R [arg (Hf aW)] [] (B true) []
theorem V6 (D:Dn) (hs:Gu (D AbJ)) (hi:Gu (D Aby)) (hszWorld:Y6 (D AhE)) (htoWorld:Zx (D AiQ)) (heqWorld:ZM (D Aim)):JS (Body D Gf):=by
 intro aW l_aW w_aW
 simp -implicitDefEqProofs []
 refine Aa (hszWorld aW ((1048576:Int)) (by omega) (by omega) l_aW) ?_
 by_cases g1:(1048576:Int)<((A8 aW:Nat):Int)
 ·simp -implicitDefEqProofs [AAZ g1]
 have p1:¬(1048576:Int)-((A8 aW:Nat):Int)<0:=by omega
 simp -implicitDefEqProofs [Xk g1,p1]
 have hs':=hs aW (by omega)
 have hi':=hi aW (by omega)
 refine Aa (htoWorld aW (by omega)) ?_
 simp -implicitDefEqProofs [Xk g1,p1]
 refine Aa (hs') ?_
 simp -implicitDefEqProofs [Xk g1,p1]
 refine Aa (htoWorld aW (by omega)) ?_
 simp -implicitDefEqProofs [Xk g1,p1]
 refine Aa (hi') ?_
 simp -implicitDefEqProofs [Xk g1,p1]
 refine Aa (htoWorld aW (by omega)) ?_
 simp -implicitDefEqProofs [Xk g1,p1]
 refine Aa (heqWorld aW aW (by omega) (by omega)) ?_
 simp -implicitDefEqProofs [Xk g1,p1]
end Go.Eng.T
namespace Go.Eng
open Go.Lib Go.RowKit
inductive Xl (Ae:Nat→Option FuncId) (w:World):List V→List Value→Prop where
 | nil:Xl Ae w [] []
 | sc {v:Value} {azs:List V} {xs:List Value} (h:Xl Ae w azs xs):Xl Ae w (.sc v::azs) (v::xs)
 | sl {e len:Nat} {cells:List V} {x:Value} {azs:List V} {xs:List Value} (h1:Rd Ae w (· <w.heap.size) (.sl 1 e len cells) x) (h:Xl Ae w azs xs):Xl Ae w (.sl 1 e len cells::azs) (x::xs)
def ApR:V→Prop
 | .sc _=>True
 | .sl 1 _ _ _=>True
 | _=>False
theorem Abu {F:Fr} {w:World} {β:Nat→Base} {own:Nat→Option (Nat×List Nat)} {H:Hp} (hw:w=F.w0):∀ {azs:List V} {xs:List Value},(∀a,a∈azs→ApR a)→Pw (VR F β own H w) azs xs→Xl F.Ae w azs xs
 | [],xs,_,h=>by rw[h.Oj];exact .nil
 | a::azs,xs,hp,h=>by
  obtain⟨x,r,rfl,h1,h2⟩:=h.Hw
  have ih:=Abu hw (fun a ha=>hp a (List.mem_cons_of_mem _ ha)) h2
  have ha:=hp a (by simp)
  cases h1 with
  | sc h=>exact .sc ih
  | @rd fl e len cells _ h3 h=>
   match fl,ha,h with
   | 1,_,h=>exact .sl (Rd.move h (fun b hb=>by rw[hw];exact hb.1) (fun _ _=>rfl)) ih
  | _=>exact absurd ha (by simp[ApR])
theorem Awo {P:Program} {Ae:Nat→Option FuncId} {G:Gl} {g:Nat} {args:List V} {v:Value} (hv:v.oneCell' =true) (hp':∀a,a∈args→ApR a)
 (h:∀id,Ae g=some id→∀w:World,(∀b,G b→b<w.heap.size∧w.heap[b]? =G.is b)→∀xs,Xl Ae w args xs→Calls P id xs.toArray w fun e w'=>e= .returned v∧Below w.heap.size w w'):Den P Ae G g args [] (.sc v) []:=by
 intro id hid F hF hG hb ht hn inv xs hx
 have hr:=Abu (F:=F) rfl hp' hx
 rw[hF]at hr
 refine(h id hid F.w0 (fun b hb=> ?_) xs hr).mono fun e w' ⟨he,hw⟩=> ?_
 ·have:=inv.glob b (by rw[hG];exact hb)
  exact⟨this.1,by rw[←hG];exact this.2.2⟩
 ·subst he
  refine⟨F.own0,⟨hw.size,hw.os,hw.tape,hw.output,fun b hb _=>hw.block b hb,fun b p hb=>⟨Nat.lt_of_lt_of_le (inv.ownb b p hb).1 hw.size,fun _=> ?_⟩,.sc hv,hn.symm,fun i o hi=> ?_⟩⟩
  ·rw[hb];simp
  ·simp at hi
end Go.Eng
namespace Go.Eng
open Go.Lib Go.RowKit Go.Sort
def iv (l:List Int):List Value:=l.map (Value.int .i64)
@[simp] theorem AA8 (l:List Int):(iv l).length=l.length:=by simp[iv]
theorem Ael (l:List Int):EH (iv l):=by
 intro v hv
 simp only[iv,List.mem_map]at hv
 obtain⟨x,_,rfl⟩:=hv
 rfl
structure Kept (F:Fr) (w':World):Prop where
 size:F.w0.heap.size≤w'.heap.size
 os:w'.os=F.w0.os
 tape:w'.tape=F.w0.tape
 output:w'.output=F.w0.output
 keep:∀b,b<F.w0.heap.size→F.own0 b=none→w'.heap[b]? =F.w0.heap[b]?
theorem Kept.refl (F:Fr):Kept F F.w0:=⟨Nat.le_refl _,rfl,rfl,rfl,fun _ _ _=>rfl⟩
theorem AbT {P:Program} {Ae:Nat→Option FuncId} {G:Gl} {g:Nat} {args:List V} {given:List O} {l':List Int}
 (h:∀id,Ae g=some id→∀F:Fr,F.Ae=Ae→Inv F F.β0 F.own0 (hp given) F.w0→∀xs,Pw (VR F F.β0 F.own0 (hp given) F.w0) args xs→
  Calls P id xs.toArray F.w0 fun e w'=>∃a cap,e= .returned (.slice a l'.length cap)∧(l'.length≤cap∧cap≤9223372036854775807)∧(cap=0∨∃b o,a=some ⟨b,o,none⟩∧Has w' b o (iv l') cap∧(b<F.w0.heap.size→F.own0 b≠none))∧Kept F w'):
 Den P Ae G g args given (.sl 0 1 l'.length (T.ints l')) (given.map fun _=> .dead):=by
 intro id hid F hF hG hb ht hn inv xs hx
 refine(h id hid F hF inv xs hx).mono fun e w' ⟨a,cap,he,hl,hm,hk⟩=> ?_
 subst he
 have hcs:∀own (i:Nat) (v:V) (x:Value),(T.ints l')[i]? =some v→(iv l')[i]? =some x→Ow F.Ae w' own (fun _ b=>F.G b) 0 F.ngiven ([]++ [i]) v x:=by
  intro own i v x h1 h2
  by_cases hi:i<l'.length
  ·rw[T.ints_at hi]at h1
   simp only[iv,List.getElem?_map,hi,List.getElem?_eq_getElem,Option.map_some,Option.some.injEq]at h1 h2
   subst h1 h2
   exact .sc rfl
  ·rw[List.getElem?_eq_none (by simp;omega)]at h1;cases h1
 rcases hm with hm | ⟨b,o,rfl,hhas,hown⟩
 ·refine⟨fun _=>none,⟨hk.size,hk.os,hk.tape,hk.output,hk.keep,fun b p h=>(by cases h),.own hl (by simp) (by simp) (.inl (by omega)) (hcs _),by simp[hn],fun i o hi=> ?_⟩⟩
  simp only[List.getElem?_map,Option.map_eq_some_iff]at hi
  obtain⟨_,_,rfl⟩:=hi
  trivial
 ·refine⟨fun b'=>if b' =b then some (F.ngiven,[])else none,⟨hk.size,hk.os,hk.tape,hk.output,hk.keep,fun b' p h=> ?_,.own hl (by simp) (by simp) (.inr ⟨b,o,rfl,if_pos rfl,by rw[Nat.mul_one];exact hhas⟩) (hcs _),by simp[hn],fun i o' hi=> ?_⟩⟩
  ·by_cases e:b' =b
   ·subst e;exact⟨Rc hhas,hown⟩
   ·rw[if_neg e]at h;cases h
  ·simp only[List.getElem?_map,Option.map_eq_some_iff]at hi
   obtain⟨_,_,rfl⟩:=hi
   trivial
end Go.Eng
namespace Go.Eng.T
open Go.Lib Go.RowKit
theorem AjX {Ae:Nat→Option FuncId} {w:Go.World} {P:Nat→Prop} {l:List Int} {x:Value} (h:Rd Ae w P (.sl 1 1 l.length (ints l)) x):
 ∃a cap,x= .slice a l.length cap∧l.length≤cap∧(l=[]∨∃b o,a=some ⟨b,o,none⟩∧P b∧∀j,j<l.length→w.cell? ⟨b,o+j,none⟩=some (.int .i64 (l.getD j 0))):=by
 cases h with
 | @sl _ _ _ _ a cap vs hle hwd hvl hm hcs=>
  refine⟨a,cap,rfl,hle,?_⟩
  rcases hm with hm | ⟨b,o,rfl,hbk,hr⟩
  ·left
   cases l with
   | nil=>rfl
   | cons x r=>simp[ints]at hm
  ·right
   have hvlen:vs.length=l.length:=by rw[hvl];simp
   refine⟨b,o,rfl,hbk,fun j hj=> ?_⟩
   rw[hr.2 j (by omega)]
   have hv:vs[j]? =some vs[j]:=by simp
   rw[hv]
   have hrd:=hcs j (.sc (.int .i64 l[j])) vs[j] (by simp[ints,hj]) hv
   generalize vs[j]=y at hrd⊢
   cases hrd with
   | sc _=>simp[hj]
theorem Ax9 {P:Program} {Ae:Nat→Option FuncId} {G:Gl} {g k:Nat} (hid:Ae g=some k)
 (hc:∀(b off n c:Nat) (zs:List Int) (w:Go.World),0<n→n≤zs.length→n≤9223372036854775807→(∀j,j<zs.length→w.cell? ⟨b,off+j,none⟩=some (.int .i64 (zs.getD j 0)))→
  Calls P k #[.slice (some ⟨b,off,none⟩) n c] w fun e w'=>e= .returned (.int .i64 (Lib.maxOf (zs.take n)))∧w' =w):AAE (Den P Ae G g):=by
 intro xs h1 h2
 refine Awo (v:= .int .i64 (Ay4 xs)) rfl (fun a ha=> ?_) ?_
 ·simp only[List.mem_singleton]at ha;subst ha;trivial
 intro id hi w hw ys hx
 rw[hid]at hi
 cases hi
 cases hx with
 | sl h3 h4=>
  cases h4
  obtain⟨a,cap,rfl,hle,hm⟩:=AjX h3
  rcases hm with rfl | ⟨b,o,rfl,hb,hcell⟩
  ·simp at h1
  ·refine(hc b o xs.length cap xs w h1 (Nat.le_refl _) (by omega) hcell).mono fun e w' ⟨he,hw'⟩=>⟨?_,by rw[hw'];exact Below.refl _ _⟩
   rw[he,List.take_length];rfl
theorem AoB {w:Go.World} {base:Nat} {t:TypeId} {v:Value} {l:List Int} (h:w.ownsRow base t 1 v l.length (iv l)):
 ∃a cap,v= .slice a l.length cap∧(l.length≤cap∧cap≤9223372036854775807)∧(cap=0∨∃b o,a=some ⟨b,o,none⟩∧Has w b o (iv l) cap∧base≤b):=by
 obtain⟨_,h | ⟨g,cap,cur,rfl,h1,h2,h3,h4,h5,h6⟩⟩:=h
 ·obtain⟨rfl,h⟩:=h
  exact⟨none,0,by rw[h],⟨by omega,by omega⟩,.inl rfl⟩
 ·refine⟨_,cap,rfl,⟨h3,by unfold maxLen at h4;omega⟩,.inr ⟨g,0,rfl,⟨Ael l,cur,t,h2,by omega,by simpa using h3,fun i hi=> ?_⟩,h1⟩⟩
  rw[Nat.zero_add,←h6,Nat.mul_one]
  simp only[AA8]at hi
  rw[List.getElem?_take,if_pos hi,Array.getElem?_toList]
theorem Apb {F:Fr} {w':Go.World} (h:Below F.w0.heap.size F.w0 w'):Kept F w':=⟨h.size,h.os,h.tape,h.output,fun b hb _=>h.block b hb⟩
theorem AsN {P:Program} {Ae:Nat→Option FuncId} {G:Gl} {g k:Nat} {t:TypeId} (hid:Ae g=some k)
 (hn:∀(n c:Nat) (w:Go.World),Calls P k #[.slice none n c] w fun e w'=>e= .returned (.slice none 0 0)∧w' =w)
 (hz:∀(a:Addr) (c:Nat) (w:Go.World),Calls P k #[.slice (some a) 0 c] w fun e w'=>∃v',e= .returned v'∧w'.ownsRow w.heap.size t 1 v' 0 []∧v'≠ .slice none 0 0∧Below w.heap.size w w')
 (hc:∀(b off n c:Nat) (zs:List Int) (w:Go.World),n≤zs.length→n*8≤140737488355328→(∀j,j<zs.length→w.cell? ⟨b,off+j,none⟩=some (.int .i64 (zs.getD j 0)))→
  Calls P k #[.slice (some ⟨b,off,none⟩) n c] w fun e w'=>∃v',e= .returned v'∧w'.ownsRow w.heap.size t 1 v' n ((zs.take n).map (Value.int .i64))∧v'≠ .slice none 0 0∧Below w.heap.size w w'):AoH (Den P Ae G g):=by
 intro l hl
 refine AbT (given:=[]) (l':=l) fun id hi F hF inv xs hx=> ?_
 rw[hid]at hi
 cases hi
 have hr:=Abu (F:=F) rfl (fun a ha=>by simp only[List.mem_singleton]at ha;subst ha;trivial) hx
 cases hr with
 | sl h3 h4=>
  cases h4
  obtain⟨a,cap,rfl,hle,hm⟩:=AjX h3
  have fin:∀ {v':Value} {w':Go.World},w'.ownsRow F.w0.heap.size t 1 v' l.length (iv l)→Below F.w0.heap.size F.w0 w'→
   ∃a cap,Ending.returned v' = .returned (.slice a l.length cap)∧(l.length≤cap∧cap≤9223372036854775807)∧(cap=0∨∃b o,a=some ⟨b,o,none⟩∧Has w' b o (iv l) cap∧(b<F.w0.heap.size→F.own0 b≠none))∧Kept F w':=by
   intro v' w' ho hb
   obtain⟨a,cap,rfl,h5,h6⟩:=AoB ho
   refine⟨a,cap,rfl,h5,?_,Apb hb⟩
   rcases h6 with h6 | ⟨b,o,h7,h8,h9⟩
   ·exact .inl h6
   ·exact .inr ⟨b,o,h7,h8,fun h=>absurd h (by omega)⟩
  rcases hm with rfl | ⟨b,o,rfl,hb,hcell⟩
  ·cases a with
   | none=>exact(hn _ _ _).mono fun e w' ⟨he,hw⟩=>⟨none,0,he,⟨by simp,by omega⟩,.inl rfl,by rw[hw];exact Kept.refl F⟩
   | some a=>exact(hz a cap F.w0).mono fun e w' ⟨v',he,hown,_,hbel⟩=>by subst he;exact fin hown hbel
  ·exact(hc b o l.length cap l F.w0 (Nat.le_refl _) (by omega) hcell).mono fun e w' ⟨v',he,hown,_,hbel⟩=>by
    subst he
    rw[List.take_length]at hown
    exact fin hown hbel
end Go.Eng.T
namespace Go.Eng
open Go.Lib Go.RowKit Go.Sort
theorem Xh (w:World) (b:Nat) (f:Array Value→Array Value):(mapBlock w b f).heap[b]? =(w.heap[b]?).map (onCells f):=by
 simp[mapBlock,Array.getElem?_modify]
theorem YM (w:World) {b k:Nat} (f:Array Value→Array Value) (h:k≠b):(mapBlock w b f).heap[k]? =w.heap[k]? :=by
 simp[mapBlock,Array.getElem?_modify,Ne.symm h]
theorem Pv (w:World) (b:Nat) (f:Array Value→Array Value):(mapBlock w b f).heap.size=w.heap.size:=by simp[mapBlock]
theorem Arq {w w':World} {b o n:Nat} {vs vs':List Value} {f:Array Value→Array Value} (h:Has w b o vs n) (hw:w'.heap[b]? =(w.heap[b]?).map (onCells f)) (hs:∀c,(f c).size=c.size)
 (hf:∀c:Array Value,o+n≤c.size→(∀i,i<vs.length→c[o+i]? =vs[i]?)→∀i,i<vs'.length→(f c)[o+i]? =vs'[i]?) (ho:EH vs') (hl:vs'.length≤n):Has w' b o vs' n:=by
 obtain⟨_,c,et,hb,h2,h3,h4⟩:=h
 exact⟨ho,f c,et,by rw[hw,hb];rfl,by rw[hs];exact h2,hl,hf c h2 h4⟩
end Go.Eng
namespace Go.Eng
open Go.Lib Go.RowKit Go.Sort
def Jf:Nat→List Value→Array Value→Array Value
 | _,[],c=>c
 | o,v::r,c=>Jf (o+1) r (c.setIfInBounds o v)
theorem E9:∀(vs:List Value) (o:Nat) (c:Array Value),(Jf o vs c).size=c.size
 | [],_,_=>rfl
 | v::r,o,c=>by rw[Jf,E9 r];simp
theorem Gg:∀(vs:List Value) (o k:Nat) (c:Array Value),k<o∨o+vs.length≤k→(Jf o vs c)[k]? =c[k]?
 | [],_,_,_,_=>rfl
 | v::r,o,k,c,h=>by
  simp only[List.length_cons]at h
  rw[Jf,Gg r (o+1) k _ (by omega),Array.getElem?_setIfInBounds,if_neg (by omega)]
theorem O0:∀(vs:List Value) (o i:Nat) (c:Array Value),i<vs.length→o+vs.length≤c.size→(Jf o vs c)[o+i]? =vs[i]?
 | v::r,o,0,c,_,hc=>by
  simp only[List.length_cons]at hc
  rw[Jf,Gg r (o+1) (o+0) _ (by omega),Array.getElem?_setIfInBounds,if_pos (by omega),if_pos (by omega)]
  rfl
 | v::r,o,i+1,c,hi,hc=>by
  simp only[List.length_cons]at hc hi
  rw[Jf,show o+(i+1)=o+1+i by omega,O0 r (o+1) i _ (by omega) (by simp;omega)]
  simp
theorem DR (b:Nat):∀(vs:List Value) (o:Nat) (w:World),w.setCells b o vs=mapBlock w b (Jf o vs)
 | [],o,w=>(mapBlock_id w b _ fun _ _ _ _=>rfl).symm
 | v::r,o,w=>by
  rw[World.setCells,DR b r,setCell_eq,mapBlock_mapBlock]
  rfl
def Ay1 (l:List Int) (i:Nat) (v:Int):List Int:=l.take i++v::l.drop i
theorem AwM {l:List Int} {i j:Nat} {v:Int} (hi:i≤l.length):(Ay1 l i v)[j]? =if j<i then l[j]? else if j=i then some v else l[j-1]? :=by
 unfold Ay1
 have hm:min i l.length=i:=by omega
 rw[List.getElem?_append]
 simp only[List.length_take,hm]
 split
 ·rename_i h;rw[List.getElem?_take,if_pos h]
 ·split
  ·rename_i h1 h2;subst h2;simp
  ·rename_i h1 h2
   obtain⟨d,rfl⟩:∃d,j=i+(d+1):=⟨j-i-1,by omega⟩
   rw[show i+(d+1)-i=d+1 by omega,List.getElem?_cons_succ,List.getElem?_drop]
   congr 1
theorem AoS {l:List Int} {j:Nat}:(iv l)[j]? =(l[j]?).map (Value.int .i64):=by simp[iv]
theorem AA6 {l:List Int} {i j:Nat} {v:Int} (hi:i≤l.length):(iv (Ay1 l i v))[j]? =if j<i then(iv l)[j]? else if j=i then some (.int .i64 v)else(iv l)[j-1]? :=by
 rw[AoS,AwM hi]
 split
 ·rw[AoS]
 ·split
  ·rfl
  ·rw[AoS]
theorem Am5 {w:World} {b o n:Nat} {vs:List Value} (h:Has w b o vs n) {j:Nat} {v:Value} (hj:vs[j]? =some v):w.cell? ⟨b,o+j,none⟩=some v:=by
 have hl:=(List.getElem?_eq_some_iff.1 hj).1
 rw[(Dt h).2 j hl,hj]
theorem Amq {w:World} {b o n:Nat} {vs:List Value} (h:Has w b o vs n) {j:Nat} (hj:j<n):(w.cell? ⟨b,o+j,none⟩).isSome=true:=by
 obtain⟨_,c,et,hb,h2,_,_⟩:=h
 unfold World.cell?
 simp only[hb]
 have:o+j<c.size:=by omega
 simp[this]
theorem Aaz {w:World} {b o n:Nat} {vs:List Value} (h:Has w b o vs n) (x:Nat):w.frozen? ⟨b,x,none⟩=false:=by
 obtain⟨_,c,et,hb,_⟩:=h
 unfold World.frozen?
 simp only[hb]
 simp
theorem Ai7 {w:World} {b o n:Nat} {vs:List Value} (h:Has w b o vs n):∃t k,w.shape? b=some (t,k)∧o+n≤k:=by
 obtain⟨_,c,et,hb,h2,_⟩:=h
 exact⟨et,c.size,by unfold World.shape?;simp only[hb],h2⟩
theorem alloc_at (w:World) (o:Obj):(w.alloc o).heap[w.heap.size]? =some o:=by
 show(w.heap.push o)[w.heap.size]? =some o
 rw[Array.getElem?_push,if_pos rfl]
theorem Ro (w:World) (o:Obj) {k:Nat} (h:k<w.heap.size):(w.alloc o).heap[k]? =w.heap[k]? :=by
 show(w.heap.push o)[k]? =w.heap[k]?
 rw[Array.getElem?_push,if_neg (by omega)]
theorem Mg (w:World) (o:Obj):(w.alloc o).heap.size=w.heap.size+1:=Array.size_push _
theorem AbY {l:List Int} {off i n:Nat} {v:Int} (hi:i≤l.length) (hn:l.length+1≤n) (c:Array Value) (hc:off+n≤c.size) (hl:∀j,j<i→c[off+j]? =(iv l)[j]?) (j:Nat) (hj:j<l.length+1):
 (Jf (off+i) (iv [v]) (Jf (off+(i+1)) ((iv l).drop i) c))[off+j]? =(iv (Ay1 l i v))[j]? :=by
 rw[AA6 hi]
 by_cases h1:j<i
 ·rw[if_pos h1,Gg _ _ _ _ (.inl (by omega)),Gg _ _ _ _ (.inl (by omega)),hl j h1]
 ·rw[if_neg h1]
  by_cases h2:j=i
  ·subst h2
   rw[if_pos rfl]
   have:=O0 (iv [v]) (off+j) 0 (Jf (off+(j+1)) ((iv l).drop j) c) (by simp) (by rw[E9];simp;omega)
   simp only[Nat.add_zero]at this
   rw[this];rfl
  ·rw[if_neg h2,Gg _ _ _ _ (.inr (by simp;omega))]
   have:=O0 ((iv l).drop i) (off+(i+1)) (j-(i+1)) c (by simp;omega) (by simp;omega)
   rw[show off+(i+1)+(j-(i+1))=off+j by omega]at this
   rw[this,List.getElem?_drop]
   congr 1;omega
end Go.Eng
namespace Go.Eng
open Go.Lib Go.RowKit Go.Sort
theorem Aq3 {F:Fr} {given:List O} {k e len:Nat} {cs:List V} {x:Value} (inv:Inv F F.β0 F.own0 (hp given) F.w0) (hk:hp given k= .arr e 0 len cs) (h:VR F F.β0 F.own0 (hp given) F.w0 (.arr k) x):
 ∃a cap vs,x= .slice a len cap∧(len≤cap∧cap≤9223372036854775807)∧vs.length=cs.length∧cs.length=len*e∧
  (cap*e=0∨∃b o,a=some ⟨b,o,none⟩∧F.own0 b=some (k,[])∧Has F.w0 b o vs (cap*e))∧
  ∀(i:Nat) (v:V) (x:Value),cs[i]? =some v→vs[i]? =some x→Ow F.Ae F.w0 F.own0 (F.S F.w0 F.own0) 0 k [i] v x:=by
 have ho:=inv.objs k
 rw[hk]at ho
 obtain⟨vs,h1,h2,h3,h4,h5⟩:=ho
 cases h with
 | @arr _ e' t len' cs' he=>
  rw[hk]at he
  simp only[Af,Option.some.injEq,Prod.mk.injEq]at he
  obtain⟨rfl,rfl,rfl,rfl⟩:=he
  exact⟨_,_,vs,rfl,h3,h1,h2,h4,h5⟩
 | goneA hd=>rw[hk]at hd;cases hd
def AA9 (P:Program) (k:Nat):Prop:=∀(a:Option Addr) (n cap i vb vo vc:Nat) (vs ds:List Value) (w:World),i≤n→n≤4194304→(n≤cap∧cap≤9223372036854775807)→vs.length=n*2→ds.length=2→
 (cap=0∨∃b o,a=some ⟨b,o,none⟩∧Has w b o vs (cap*2)∧b≠vb)→Has w vb vo ds (vc*2)→1≤vc→
 Calls P k #[.slice a n cap,.int .i64 i,.slice (some ⟨vb,vo,none⟩) 1 vc] w fun e w'=>∃b' o' cap',e= .returned (.slice (some ⟨b',o',none⟩) (n+1) cap')∧(n+1≤cap'∧cap'≤9223372036854775807)∧
  Has w' b' o' (vs.take (i*2)++ds++vs.drop (i*2)) (cap'*2)∧(w.heap.size≤b'∨∃o,a=some ⟨b',o,none⟩∧cap≠0)∧
  w.heap.size≤w'.heap.size∧w'.os=w.os∧w'.tape=w.tape∧w'.output=w.output∧∀b,b<w.heap.size→b≠b'→w'.heap[b]? =w.heap[b]?
def UG (own:Nat→Option (Nat×List Nat)) (b' i:Nat):Nat→Option (Nat×List Nat):=fun b=>
 if b=b' then some (2,[])else match own b with
 | some (0,j::q)=>some (2,(if j<i*2 then j else j+2)::q)
 | some (1,j::q)=>some (2,(i*2+j)::q)
 | _=>none
theorem Au0 {P:Program} {Ae:Nat→Option FuncId} {G:Gl} {g k:Nat} (hid:Ae g=some k) (hC:AA9 P k) {cs ds:List V} {n i:Nat} (hn:n≤4194304) (hi:i≤n) (hcs:cs.length=n*2) (hds:ds.length=2):
 Den P Ae G g [.arr 0,.sc (.int .i64 i),.arr 1] [.arr 2 0 n cs,.arr 2 0 1 ds] (.sl 0 2 (n+1) (cs.take (i*2)++ds++cs.drop (i*2))) [.dead,.dead]:=by
 intro id hid' F hF hG hb ht hgn inv xs hx
 rw[hid]at hid'
 cases hid'
 obtain⟨x0,r0,rfl,h1,h2⟩:=hx.Hw
 obtain⟨x1,r1,rfl,h3,h4⟩:=h2.Hw
 obtain⟨x2,r2,rfl,h5,h6⟩:=h4.Hw
 obtain rfl:=h6.Oj
 obtain⟨a,cap,vs,rfl,hcap,hv1,_,hm,hel⟩:=Aq3 (k:=0) inv rfl h1
 obtain⟨a2,cap2,ws,rfl,hcap2,hw1,_,hm2,hel2⟩:=Aq3 (k:=1) inv rfl h5
 cases h3
 obtain⟨vb,vo,rfl,hvown,hvhas⟩:∃vb vo,a2=some ⟨vb,vo,none⟩∧F.own0 vb=some (1,[])∧Has F.w0 vb vo ws (cap2*2):=by
  rcases hm2 with h | h
  ·omega
  ·exact h
 have hm':cap=0∨∃b o,a=some ⟨b,o,none⟩∧Has F.w0 b o vs (cap*2)∧b≠vb:=by
  rcases hm with h | ⟨b,o,e1,e2,e3⟩
  ·exact .inl (by omega)
  ·exact .inr ⟨b,o,e1,e3,fun e=>by rw[e,hvown]at e2;cases e2⟩
 refine(hC a n cap i vb vo cap2 vs ws F.w0 hi hn hcap (by omega) (by omega) hm' hvhas hcap2.1).mono fun e w' ⟨b',o',cap',he,hcap',hhas,hpl,hsz,hos,htp,hou,hkeep⟩=> ?_
 subst he
 have hb':b' <F.w0.heap.size→F.own0 b' =some (0,[]):=by
  intro hlt
  rcases hpl with h | ⟨o,e1,e0⟩
  ·omega
  ·rcases hm with h | ⟨b,o2,e2,e3,_⟩
   ·omega
   ·rw[e2]at e1;cases e1;exact e3
 have hne:∀b k j q,F.own0 b=some (k,j::q)→b≠b'∧b<F.w0.heap.size:=by
  intro b k j q h
  have hlt:=(inv.ownb b _ h).1
  refine⟨fun e=> ?_,hlt⟩
  subst e
  rw[hb' hlt]at h
  cases h
 refine⟨UG F.own0 b' i,⟨hsz,hos,htp,hou,fun b h1 h2=> ?_,fun b p h=> ?_,?_,by rw[hgn];rfl,fun j o hj=> ?_⟩⟩
 ·refine hkeep b h1 (fun e=> ?_)
  subst e
  rw[hb' h1]at h2;cases h2
 ·unfold UG at h
  split at h
  ·rename_i e;subst e
   exact⟨Rc hhas,fun hlt=>by rw[hb' hlt];simp⟩
  ·split at h
   ·rename_i j q e;exact⟨Nat.lt_of_lt_of_le (inv.ownb b _ e).1 hsz,fun _=>by rw[e];simp⟩
   ·rename_i j q e;exact⟨Nat.lt_of_lt_of_le (inv.ownb b _ e).1 hsz,fun _=>by rw[e];simp⟩
   ·cases h
 ·have hng:F.ngiven=2:=by rw[hgn];rfl
  rw[hng]
  refine .own hcap' ?_ ?_ (.inr ⟨b',o',rfl,by unfold UG;rw[if_pos rfl],hhas⟩) ?_
  ·simp[hcs,hds];omega
  ·simp[hcs,hds,hv1,hw1]
  ·intro j v x hv hx
   simp only[List.nil_append]
   have mv:∀(k j0:Nat),Ow F.Ae F.w0 F.own0 (F.S F.w0 F.own0) 0 k [j0] v x→(∀b q,F.own0 b=some (k,j0::q)→UG F.own0 b' i b=some (2,j::q))→
    Ow F.Ae w' (UG F.own0 b' i) (fun _ b=>F.G b) 0 2 [j] v x:=by
    intro k j0 h hl
    refine h.move (Nat.le_refl 0) (fun fl b h1 h2 h3=> ?_) (fun fl b h1 h2 h3=> ?_) (fun b q hb=> ?_)
    ·have:fl=3:=by
      match fl,h1,h2 with
      | 1,_,h2=>simp[lv]at h2
      | 2,_,h2=>simp[lv]at h2
      | 3,_,_=>rfl
      | m+4,_,h2=>simp[lv]at h2
     subst this
     exact h3
    ·have:fl=3:=by
      match fl,h1,h2 with
      | 1,_,h2=>simp[lv]at h2
      | 2,_,h2=>simp[lv]at h2
      | 3,_,_=>rfl
      | m+4,_,h2=>simp[lv]at h2
     subst this
     have hg:=inv.glob b h3
     refine hkeep b hg.1 (fun e=> ?_)
     subst e
     rw[hb' hg.1]at hg;cases hg.2.1
    ·have hb2:F.own0 b=some (k,j0::q):=hb
     have hn:=hne b k j0 q hb2
     exact⟨hl b q hb2,hkeep b hn.2 hn.1⟩
   have hlen1:(cs.take (i*2)).length=i*2:=by simp[hcs];omega
   have hlen2:(vs.take (i*2)).length=i*2:=by simp[hv1,hcs];omega
   by_cases g1:j<i*2
   ·rw[List.append_assoc,List.getElem?_append_left (by omega),List.getElem?_take,if_pos g1]at hv hx
    refine mv 0 j (hel j v x hv hx) (fun b q hb=> ?_)
    unfold UG
    rw[if_neg (hne b _ _ q hb).1,hb]
    simp[g1]
   ·by_cases g2:j<i*2+2
    ·rw[List.append_assoc,List.getElem?_append_right (by omega),List.getElem?_append_left (by omega)]at hv hx
     rw[hlen1]at hv
     rw[hlen2]at hx
     refine mv 1 (j-i*2) (hel2 _ v x hv hx) (fun b q hb=> ?_)
     unfold UG
     rw[if_neg (hne b _ _ q hb).1,hb]
     simp;omega
    ·rw[List.append_assoc,List.getElem?_append_right (by omega),List.getElem?_append_right (by omega),List.getElem?_drop]at hv hx
     rw[hlen1,hds]at hv
     rw[hlen2,hw1,hds]at hx
     have e:i*2+(j-i*2-2)=j-2:=by omega
     rw[e]at hv hx
     refine mv 0 (j-2) (hel _ v x hv hx) (fun b q hb=> ?_)
     unfold UG
     rw[if_neg (hne b _ _ q hb).1,hb]
     have:¬j-2<i*2:=by omega
     simp[this];omega
 ·match j,hj with
  | 0,hj=>simp only[List.getElem?_cons_zero,Option.some.injEq]at hj;subst hj;trivial
  | 1,hj=>simp only[List.getElem?_cons_succ,List.getElem?_cons_zero,Option.some.injEq]at hj;subst hj;trivial
  | j+2,hj=>simp at hj
end Go.Eng
namespace Go.Eng.T
open Go.Lib Go.RowKit Go.Sort
theorem Ans {P:Program} {Ae:Nat→Option FuncId} {G:Gl} {g k:Nat} (hid:Ae g=some k) (hC:AA9 P k):Ak0 (Den P Ae G g):=by
 intro l i x hl hi
 have h:=Au0 (G:=G) (g:=g) hid hC (cs:=l.flatMap Bg) (ds:=Bg x) (n:=l.length) (i:=i) hl hi (OO l) rfl
 have e1:l.flatMap Bg=(l.take i).flatMap Bg++(l.drop i).flatMap Bg:=by rw[←List.flatMap_append,List.take_append_drop]
 have h1:((l.take i).flatMap Bg).length=i*2:=by rw[OO];simp;omega
 have e2:(l.flatMap Bg).take (i*2)=(l.take i).flatMap Bg:=by rw[e1,List.take_left' h1]
 have e3:(l.flatMap Bg).drop (i*2)=(l.drop i).flatMap Bg:=by rw[e1,List.drop_left' h1]
 rw[e2,e3]at h
 have e4:(l.take i++x::l.drop i).flatMap Bg=(l.take i).flatMap Bg++Bg x++(l.drop i).flatMap Bg:=by simp
 rw[e4]
 exact h
theorem As4 {P:Program} {Ae:Nat→Option FuncId} {G:Gl} {g k:Nat} {t:TypeId} (hid:Ae g=some k)
 (h0:∀w,Calls P k #[.slice none 0 0,.int .i64 0] w fun e w'=>e= .returned (.slice none 0 0)∧w' =w)
 (h1:∀(n:Nat) (w:Go.World),0<n→n≤16777216→Calls P k #[.slice none 0 0,.int .i64 n] w fun e w'=>e= .returned (.slice (some ⟨w.heap.size,0,none⟩) 0 (grownCap w n 0 t))∧
  w' =w.drew.alloc (.cells (([]:List Value).toArray++Builtin.zeroCells #[.int .i64 0] n++Builtin.zeroCells #[.int .i64 0] (grownCap w n 0 t-n)) t)):Av5 (Den P Ae G g):=by
 intro n hn
 refine AbT (given:=[]) (l':=[]) fun id hi F hF inv xs hx=> ?_
 rw[hid]at hi
 cases hi
 obtain⟨x0,r0,rfl,g1,g2⟩:=hx.Hw
 obtain⟨x1,r1,rfl,g3,g4⟩:=g2.Hw
 obtain rfl:=g4.Oj
 cases g1
 cases g3
 by_cases hz:n=0
 ·subst hz
  refine(h0 F.w0).mono fun e w' ⟨he,hw⟩=>⟨none,0,he,⟨by simp,by omega⟩,.inl rfl,?_⟩
  rw[hw];exact Kept.refl F
 ·refine(h1 n F.w0 (by omega) hn).mono fun e w' ⟨he,hw⟩=> ?_
  have hgc:=UJ F.w0 n 0 t
  have hgb:=SX F.w0 n 0 t (by omega)
  subst hw
  refine⟨_,_,he,⟨by simp,hgb⟩,.inr ⟨_,_,rfl,⟨Ael [],_,t,alloc_at F.w0.drew _,?_,by simp,fun i hi=>by simp at hi⟩,fun h=>absurd h (by omega)⟩,?_⟩
  ·simp[Builtin.zeroCells];omega
  ·exact⟨by rw[Mg];simp,rfl,rfl,rfl,fun b hb _=>Ro F.w0.drew _ hb⟩
theorem Ahg {F:Fr} {w':Go.World} (h1:w'.heap.size=F.w0.heap.size+1) (h2:w'.os=F.w0.os) (h3:w'.tape=F.w0.tape) (h4:w'.output=F.w0.output) (h5:∀b,b<F.w0.heap.size→w'.heap[b]? =F.w0.heap[b]?):Kept F w':=
 ⟨by omega,h2,h3,h4,fun b hb _=>h5 b hb⟩
theorem Am2 {P:Program} {Ae:Nat→Option FuncId} {G:Gl} {g k:Nat} {t:TypeId} (hid:Ae g=some k)
 (h0:∀(b o cap:Nat) (w:Go.World),Calls P k #[.slice (some ⟨b,o,none⟩) 1 cap,.int .i64 0] w fun e w'=>e= .returned (.slice (some ⟨w.heap.size,0,none⟩) 0 0)∧w' =w.alloc (.cells #[] t))
 (h1:∀(b o cap:Nat) (v:Int) (w:Go.World),w.cell? ⟨b,o,none⟩=some (.int .i64 v)→Calls P k #[.slice (some ⟨b,o,none⟩) 1 cap,.int .i64 1] w fun e w'=>e= .returned (.slice (some ⟨w.heap.size,0,none⟩) 1 1)∧w' =(w.alloc (.cells #[.int .i64 0] t)).setCells w.heap.size 0 [.int .i64 v])
 (h2:∀(b o cap:Nat) (v:Int) (w:Go.World),w.cell? ⟨b,o,none⟩=some (.int .i64 v)→Calls P k #[.slice (some ⟨b,o,none⟩) 1 cap,.int .i64 2] w fun e w'=>e= .returned (.slice (some ⟨w.heap.size,0,none⟩) 2 2)∧
  w' =(((w.alloc (.cells #[.int .i64 0,.int .i64 0] t)).setCells w.heap.size 0 [.int .i64 v]).drew).setCells w.heap.size 1 [.int .i64 v]):Ako (Den P Ae G g):=by
 intro v n hn
 have hll:(List.replicate n v).length=n:=List.length_replicate
 have key:Den P Ae G g [.sl 1 1 1 (ints [v]),I n] [] (.sl 0 1 (List.replicate n v).length (ints (List.replicate n v))) []:=by
  refine AbT (given:=[]) (l':=List.replicate n v) fun id hi F hF inv xs hx=> ?_
  rw[hid]at hi
  cases hi
  obtain⟨x0,r0,rfl,g1,g2⟩:=hx.Hw
  obtain⟨x1,r1,rfl,g3,g4⟩:=g2.Hw
  obtain rfl:=g4.Oj
  cases g3
  cases g1 with
  | rd _ g1=>
  obtain⟨a,cap,rfl,hle,hm⟩:=AjX (l:=[v]) g1
  rcases hm with hm | ⟨b,o,rfl,hb,hcell⟩
  ·cases hm
  have hc:=hcell 0 (by simp)
  simp only[Nat.add_zero,List.getD_cons_zero]at hc
  have off:∀(f:Array Value→Array Value) (W:Go.World) (ob:Obj),W.heap=(F.w0.alloc ob).heap→∀b,b<F.w0.heap.size→(mapBlock W F.w0.heap.size f).heap[b]? =F.w0.heap[b]? :=fun f W ob hW b hb=>by rw[YM _ _ (by omega),hW];exact Ro F.w0 ob hb
  match n,hn with
  | 0,_=>
   refine(h0 b o cap F.w0).mono fun e w' ⟨he,hw⟩=>⟨_,0,he,⟨by simp,by omega⟩,.inl rfl,?_⟩
   rw[hw]
   exact Ahg (Mg _ _) rfl rfl rfl (fun b hb=>Ro _ _ hb)
  | 1,_=>
   refine(h1 b o cap v F.w0 hc).mono fun e w' ⟨he,hw⟩=>⟨_,1,he,⟨by simp,by omega⟩,.inr ⟨_,_,rfl,?_,fun h=>absurd h (by omega)⟩,?_⟩
   ·rw[hw,DR]
    refine⟨Ael _,Jf 0 [Value.int .i64 v] #[Value.int .i64 0],t,?_,?_,by simp,fun i hi=> ?_⟩
    ·rw[Xh,alloc_at];rfl
    ·rw[E9];simp
    ·simp at hi;subst hi;rfl
   ·rw[hw,DR]
    exact Ahg (by rw[Pv,Mg]) rfl rfl rfl (fun b hb=>off _ _ _ rfl b hb)
  | 2,_=>
   refine(h2 b o cap v F.w0 hc).mono fun e w' ⟨he,hw⟩=>⟨_,2,he,⟨by simp,by omega⟩,.inr ⟨_,_,rfl,?_,fun h=>absurd h (by omega)⟩,?_⟩
   ·rw[hw,DR,DR]
    refine⟨Ael _,Jf 1 [Value.int .i64 v] (Jf 0 [Value.int .i64 v] #[Value.int .i64 0,Value.int .i64 0]),t,?_,?_,by simp,fun i hi=> ?_⟩
    ·rw[Xh]
     simp only[World.drew]
     rw[Xh,alloc_at];rfl
    ·rw[E9,E9];simp
    ·simp at hi
     match i,hi with
     | 0,_=>rfl
     | 1,_=>rfl
   ·rw[hw,DR,DR]
    refine Ahg ?_ rfl rfl rfl (fun b hb=> ?_)
    ·rw[Pv];simp only[World.drew];rw[Pv,Mg]
    ·rw[YM _ _ (by omega)]
     simp only[World.drew]
     exact off _ _ _ rfl b hb
 rw[hll]at key
 exact key
end Go.Eng.T
namespace Go.Proofs
open Go.Shelf
def Tryz.Anr:Go.Shelf.Ren:=⟨fun | 113=>278 | n=>n,fun | 28=>24 | 3=>3 | 4=>4 | 9=>9 | 20=>20 | 0=>0 | n=>n,fun | n=>n⟩
theorem Tryz.Aye:Go.Proofs.Lays.n113 Tryz.prog Tryz.Anr:={
 mixed:=by kernel_rfl
 f113:=Tryz.func278.trans (congrArg some (by kernel_rfl))
 t0:=Tryz.underlying0
 a0:=Tryz.isAgg0
 z0:=Tryz.sizeOf0
 v0:=Tryz.zeroValue0
 t3:=Tryz.underlying3
 a3:=Tryz.isAgg3
 z3:=Tryz.sizeOf3
 v3:=Tryz.zeroValue3
 t4:=Tryz.underlying4
 a4:=Tryz.isAgg4
 z4:=Tryz.sizeOf4
 v4:=Tryz.zeroValue4
 t9:=Tryz.underlying9
 a9:=Tryz.isAgg9
 z9:=Tryz.sizeOf9
 v9:=Tryz.zeroValue9
 t20:=Tryz.underlying20
 a20:=Tryz.isAgg20
 z20:=Tryz.sizeOf20
 v20:=Tryz.zeroValue20
 t28:=Tryz.underlying24
 a28:=Tryz.isAgg24
 z28:=Tryz.sizeOf24
 v28:=Tryz.zeroValue24}
open Go.Lib in
theorem Tryz.slices_Max_int (b off n c:Nat) (zs:List Int) (w:World) (hn:0<n) (hz:n≤zs.length) (hbig:n≤9223372036854775807) (hc:∀j,j<zs.length→w.cell? ⟨b,off+j,none⟩=some (.int .i64 (zs.getD j 0))):
 Calls Tryz.prog 278 #[.slice (some ⟨b,off,none⟩) n c] w fun e w'=>e= .returned (.int .i64 (Lib.maxOf (zs.take n)))∧w' =w:=Any.slices_Max_int Tryz.Aye b off n c zs w hn hz hbig hc
def Tryz.AhZ:Go.Shelf.Ren:=⟨fun | 15=>234 | n=>n,fun | 22=>24 | 3=>3 | 4=>4 | n=>n,fun | n=>n⟩
theorem Tryz.Ab8:Go.Proofs.Lays2.n15 Tryz.prog Tryz.AhZ:={
 mixed:=by kernel_rfl
 f15:=Tryz.func234.trans (congrArg some (by kernel_rfl))
 t3:=Tryz.underlying3
 a3:=Tryz.isAgg3
 z3:=Tryz.sizeOf3
 v3:=Tryz.zeroValue3
 t4:=Tryz.underlying4
 a4:=Tryz.isAgg4
 z4:=Tryz.sizeOf4
 v4:=Tryz.zeroValue4
 t22:=Tryz.underlying24
 a22:=Tryz.isAgg24
 z22:=Tryz.sizeOf24
 v22:=Tryz.zeroValue24
 i3:=by kernel_rfl}
open Go.RowKit Go.Lib in
theorem Tryz.slices_Clone_int (b off n c:Nat) (zs:List Int) (w:World) (hz:n≤zs.length) (hbig:n*8≤140737488355328) (hc:∀j,j<zs.length→w.cell? ⟨b,off+j,none⟩=some (.int .i64 (zs.getD j 0))):
 Calls Tryz.prog 234 #[.slice (some ⟨b,off,none⟩) n c] w fun e w'=>∃v',e= .returned v'∧w'.ownsRow w.heap.size 3 1 v' n ((zs.take n).map (Value.int .i64))∧v'≠ .slice none 0 0∧Below w.heap.size w w':=Any.slices_Clone_int Tryz.Ab8 b off n c zs w hz hbig hc
open Go.RowKit Go.Lib in
theorem Tryz.slices_Clone_int_nil (n c:Nat) (w:World):
 Calls Tryz.prog 234 #[.slice none n c] w fun e w'=>e= .returned (.slice none 0 0)∧w' =w:=Any.slices_Clone_int_nil Tryz.Ab8 n c w
open Go.RowKit Go.Lib in
theorem Tryz.slices_Clone_int_zero (a:Addr) (c:Nat) (w:World):
 Calls Tryz.prog 234 #[.slice (some a) 0 c] w fun e w'=>∃v',e= .returned v'∧w'.ownsRow w.heap.size 3 1 v' 0 []∧v'≠ .slice none 0 0∧Below w.heap.size w w':=Any.slices_Clone_int_zero Tryz.Ab8 a c w
end Go.Proofs
namespace Go.Eng.Ins
open Go Go.Proofs Go.Shelf Go.RowKit Go.Lib Go.Sort Go.Eng
set_option maxRecDepth 100000
theorem inf:∃i:TypeInfo,Tryz.prog.info? 178=some i∧i.size=2∧i.bytes=32∧i.zero=some (.agg #[.int .i64 0,.slice none 0 0]):=by
 have h:(Tryz.prog.info? 178).isSome=true:=by kernel_rfl
 obtain⟨i,hi⟩:=Option.isSome_iff_exists.1 h
 have h1:(Tryz.prog.info? 178).map (·.size)=some 2:=by kernel_rfl
 have h2:(Tryz.prog.info? 178).map (·.bytes)=some 32:=by kernel_rfl
 have h3:(Tryz.prog.info? 178).bind (·.zero)=some (.agg #[.int .i64 0,.slice none 0 0]):=by kernel_rfl
 rw[hi]at h1 h2 h3
 simp only[Option.map_some,Option.some.injEq,Option.bind_some]at h1 h2 h3
 exact⟨i,hi,h1,h2,h3⟩
theorem Fv {P:Program} (w:World) (dT sT ty elem:TypeId) (s:Nat) (b o dLen dCap:Nat) (a:Addr) (sLen sCap:Nat) (cs:List Value)
 (hu:P.underlying dT=some (.slice elem)) (hs:(P.info? elem).map (·.size)=some s) (hn:cs.length=Nat.min sLen dLen*s)
 (hsrc:∀j v,cs[j]? =some v→w.cell? (a.add j)=some v) (hc:∀j,j<cs.length→(w.cell? ⟨b,o+j,none⟩).isSome=true) (hf:∀j,j<cs.length→w.frozen? ⟨b,o+j,none⟩=false) (h1:∀v∈cs,v.oneCell' =true):
 (Builtin.copy_ #[dT,sT] ty #[.slice (some ⟨b,o,none⟩) dLen dCap,.slice (some a) sLen sCap]).run P w= .ok (goInt (Nat.min sLen dLen)) (w.setCells b o cs):=by
 have hl:=run_loadCells_list (P:=P) w a cs hsrc
 have hst:=run_storeCells_cells (P:=P) b o cs 0 w (by simpa using hc) (by simpa using hf) h1
 cases hq:P.info? elem with
 | none=>simp[hq]at hs
 | some i=>
  have hi:i.size=s:=by simpa[hq]using hs
  rw[hn]at hl
  simp[Builtin.copy_,run_underlying hu,Builtin.lenOf,Builtin.firstCells,sizeOf,typeInfo,hq,hi,hl,hst]
set_option maxHeartbeats 4000000 in
theorem ArG (b off n c i vb voff vc:Nat) (cs vs:List Value) (w:World) (hi:i<n) (hroom:n+1≤c) (hc63:c≤9223372036854775807) (hvb:vb≠b)
 (hcl:cs.length=n*2) (hvl:vs.length=2)
 (hcs:∀j v,cs[j]? =some v→w.cell? ⟨b,off+j,none⟩=some v) (hsp:∀j,j<(n+1)*2→(w.cell? ⟨b,off+j,none⟩).isSome=true) (hfz:∀j,j<(n+1)*2→w.frozen? ⟨b,off+j,none⟩=false)
 (hvs:∀j v,vs[j]? =some v→w.cell? ⟨vb,voff+j,none⟩=some v) (h1c:∀v∈cs,v.oneCell' =true) (h1v:∀v∈vs,v.oneCell' =true)
 (tA tB:TypeId) (kA kB:Nat) (hsa:w.shape? vb=some (tA,kA)) (hsb:w.shape? b=some (tB,kB)) (hkB:kB≠0) (hfa:w.frozen? ⟨vb,voff,none⟩=false) (hfe:w.frozen? ⟨vb,kA,none⟩=false):
 Calls Tryz.prog 248 #[.slice (some ⟨b,off,none⟩) n c,.int .i64 i,.slice (some ⟨vb,voff,none⟩) 1 vc] w fun e w'=>
  e= .returned (.slice (some ⟨b,off,none⟩) (n+1) c)∧w' =(w.drew.setCells b (off+(i+1)*2) (cs.drop (i*2))).setCells b (off+i*2) vs:=by
 have hz1:¬((1:Int)=0):=by omega
 have hz2:¬((i:Int)=(n:Int)):=by omega
 obtain⟨i0,hi0,hs0,hb0,hz0⟩:=inf
 have hsz:(Tryz.prog.info? 178).map (·.size)=some 2:=by rw[hi0];simp[hs0]
 have hso:∀w,(Go.sizeOf 178).run Tryz.prog w= .ok 2 w:=fun w=>by simp[Go.sizeOf,typeInfo,hi0,hs0]
 have hov:∀lb cb,(callFunc 297 #[.slice (some ⟨vb,voff,none⟩) 1 vc,.slice (some ⟨b,off+(i+1)*2,none⟩) lb cb]).run Tryz.prog w= .ok (.value (.bool false)) w:=fun lb cb=>by
  rw[run_callFunc_extern Tryz.func297 (by kernel_rfl) (by kernel_rfl) (by kernel_rfl) (e:=Extern.SlicesOverlaps.overlaps #[142,142] #[4]) (by kernel_rfl),
   Lib.run_overlaps_apart w 142 4 178 Tryz.underlying142 2 hso ⟨vb,voff,none⟩ ⟨b,off+(i+1)*2,none⟩ 1 vc lb cb hvb tA tB kA kB hsa hsb hkB hfa hfe]
  rfl
 have hdl:(cs.drop (i*2)).length=(n-i)*2:=by rw[List.length_drop,hcl];omega
 have hw1:IntKind.i64.wrap ((i:Int)+1)=(i:Int)+1:=by rw[IntKind.wrap_i64];omega
 have hb1:(0:Int)≤(i:Int)+1:=by omega
 have hin:i≤n:=by omega
 have htn:((i:Int)+1).toNat=i+1:=by omega
 have hb2:¬(c=i+1):=by omega
 have hb3:(i:Int)≤(n:Int)+1:=by omega
 have hb4:¬(c=i):=by omega
 have hb5:(i:Int)≤((n+1:Nat):Int):=by omega
 have mixed:Tryz.prog.follows .mixedOrders=true:=by kernel_rfl
 have hcp1:∀ty dc sc,(Builtin.copy_ #[142,142] ty #[.slice (some ⟨b,off+(i+1)*2,none⟩) (n-i) dc,.slice (some ⟨b,off+i*2,none⟩) (n+1-i) sc]).run Tryz.prog w.drew= .ok (goInt ((n-i:Nat):Int)) (w.drew.setCells b (off+(i+1)*2) (cs.drop (i*2))):=fun ty dc sc=>by
  have hmin:Nat.min (n+1-i) (n-i)=n-i:=by simp only[Nat.min_def];split<;>omega
  have:=Fv (P:=Tryz.prog) w.drew 142 142 ty 178 2 b (off+(i+1)*2) (n-i) dc ⟨b,off+i*2,none⟩ (n+1-i) sc (cs.drop (i*2)) Tryz.underlying142 hsz (by rw[hdl,hmin])
   (fun j v hj=>by rw[Addr.add_lit,Nat.add_assoc];exact hcs (i*2+j) v (by rwa [List.getElem?_drop]at hj))
   (fun j hj=>by rw[Nat.add_assoc];exact hsp _ (by omega)) (fun j hj=>by rw[Nat.add_assoc];exact hfz _ (by omega)) (fun v hv=>h1c v (List.mem_of_mem_drop hv))
  rw[hmin]at this
  exact this
 obtain⟨W1,hW1⟩:∃W1,W1=w.drew.setCells b (off+(i+1)*2) (cs.drop (i*2)):=⟨_,rfl⟩
 have hsp1:∀k,k<(n+1)*2→(W1.cell? ⟨b,off+k,none⟩).isSome=true:=fun k hk=>by
  rw[hW1]
  exact isSome_setCells b _ _ _ (fun j hj=>by rw[Nat.add_assoc];exact hsp _ (by omega)) _ (hsp k hk)
 have hcp2:∀(W:World),(∀x,W.cell? x=W1.cell? x)→(∀x,W.frozen? x=W1.frozen? x)→∀ty dc,(Builtin.copy_ #[142,142] ty #[.slice (some ⟨b,off+i*2,none⟩) (n+1-i) dc,.slice (some ⟨vb,voff,none⟩) 1 vc]).run Tryz.prog W= .ok (goInt 1) (W.setCells b (off+i*2) vs):=fun W hWc hWf ty dc=>by
  have hmin:Nat.min 1 (n+1-i)=1:=by simp only[Nat.min_def];split<;>omega
  have:=Fv (P:=Tryz.prog) W 142 142 ty 178 2 b (off+i*2) (n+1-i) dc ⟨vb,voff,none⟩ 1 vc vs Tryz.underlying142 hsz (by rw[hvl,hmin])
   (fun j v hj=>by
    rw[Addr.add_lit,hWc,hW1,World.cell?_setCells_out b _ _ _ _ (fun h _=>absurd h hvb)]
    exact hvs j v hj)
   (fun j hj=>by rw[hWc,Nat.add_assoc];exact hsp1 _ (by omega)) (fun j hj=>by rw[hWf,hW1,World.frozen?_setCells,Nat.add_assoc];exact hfz _ (by omega)) h1v
  rw[hmin]at this
  exact this
 rw[←hW1]at hcp1
 go_enter Tryz.func248,Tryz.ntmps248
 go_wp2_with (simp only[hov])
 go_region_law_o (refine step_copy_runI rfl _ _ 142 142 rfl _ _ (by simp[Act.eval,Act.put]) (by simp[Act.eval,Act.put]) (hcp1 _ _ _) ?_)
 go_wp2_with (at_builtin;refine wpList_copy_runI _ rfl _ _ 142 142 rfl _ _ rfl rfl (hcp2 _ (fun _=>rfl) (fun _=>rfl) _ _) ?_)
 go_ret
 first | exact⟨rfl,rfl⟩ | exact⟨rfl,by rw[hW1]⟩
set_option maxHeartbeats 4000000 in
theorem Ak2 (b off n c vb voff vc:Nat) (vs:List Value) (w:World) (hroom:n+1≤c) (hc63:c≤9223372036854775807) (hvl:vs.length=2)
 (hsp:∀j,j<2→(w.cell? ⟨b,off+n*2+j,none⟩).isSome=true) (hfz:∀j,j<2→w.frozen? ⟨b,off+n*2+j,none⟩=false)
 (hvs:∀j v,vs[j]? =some v→w.cell? ⟨vb,voff+j,none⟩=some v) (h1v:∀v∈vs,v.oneCell' =true):
 Calls Tryz.prog 248 #[.slice (some ⟨b,off,none⟩) n c,.int .i64 n,.slice (some ⟨vb,voff,none⟩) 1 vc] w fun e w'=>
  e= .returned (.slice (some ⟨b,off,none⟩) (n+1) c)∧w' =w.setCells b (off+n*2) vs:=by
 have hz1:¬((1:Int)=0):=by omega
 obtain⟨i0,hi0,hs0,hb0,hz0⟩:=inf
 have mixed:Tryz.prog.follows .mixedOrders=true:=by kernel_rfl
 have hsrc:Go.Src Tryz.prog i0.size 142 (.slice (some ⟨vb,voff,none⟩) 1 vc) 1 vs w:=Go.Src.ofSlice w Tryz.underlying142 ⟨vb,voff,none⟩ 1 vc vs (by omega) (fun j u hj=>by rw[Addr.add_lit];exact hvs j u hj) h1v
 have hrun:∀ty,(Builtin.append_ #[142,142] ty #[.slice (some ⟨b,off,none⟩) n c,.slice (some ⟨vb,voff,none⟩) 1 vc]).run Tryz.prog w= .ok (.slice (some ⟨b,off,none⟩) (n+1) c) (w.setCells b (off+n*2) vs):=fun ty=>by
  have:=run_append_room_src w 142 142 ty 178 i0 Tryz.underlying142 hi0 b off n c (.slice (some ⟨vb,voff,none⟩) 1 vc) 1 vs hsrc hroom (fun j hj=>by rw[hs0];exact hsp j (by omega)) (fun j hj=>by rw[hs0];exact hfz j (by omega))
  rw[hs0]at this
  exact this
 go_enter Tryz.func248,Tryz.ntmps248
 go_wp2_with (at_builtin;refine Lib.wpList_append_run _ rfl _ _ _ _ rfl _ _ rfl rfl _ _ (hrun _) ?_)
 go_ret
 exact⟨rfl,rfl⟩
set_option maxHeartbeats 4000000 in
theorem Akg (base:Option Addr) (n c vb voff vc:Nat) (cs vs:List Value) (w:World) (hnc:n≤c) (hroom:c<n+1) (hbig:(n+1)*32≤140737488355328)
 (hcl:cs.length=n*2) (hvl:vs.length=2) (hnil:base=none→n=0)
 (hcs:∀a,base=some a→∀j v,cs[j]? =some v→w.cell? (a.add j)=some v)
 (hvs:∀j v,vs[j]? =some v→w.cell? ⟨vb,voff+j,none⟩=some v) (h1v:∀v∈vs,v.oneCell' =true):
 Calls Tryz.prog 248 #[.slice base n c,.int .i64 n,.slice (some ⟨vb,voff,none⟩) 1 vc] w fun e w'=>
  e= .returned (.slice (some ⟨w.heap.size,0,none⟩) (n+1) (grownCap w (n+1) c 178))∧
  w' =w.drew.alloc (.cells ((cs++vs).toArray++Builtin.zeroCells #[.int .i64 0,.slice none 0 0] (grownCap w (n+1) c 178-(n+1))) 178):=by
 have hz1:¬((1:Int)=0):=by omega
 obtain⟨i0,hi0,hs0,hb0,hz0⟩:=inf
 have mixed:Tryz.prog.follows .mixedOrders=true:=by kernel_rfl
 have hsrc:Go.Src Tryz.prog i0.size 142 (.slice (some ⟨vb,voff,none⟩) 1 vc) 1 vs w:=Go.Src.ofSlice w Tryz.underlying142 ⟨vb,voff,none⟩ 1 vc vs (by omega) (fun j u hj=>by rw[Addr.add_lit];exact hvs j u hj) h1v
 have hold:(Builtin.firstCells i0.size n (.slice base n c)).run Tryz.prog w.drew= .ok cs.toArray w.drew:=by
  rw[hs0]
  cases base with
  | none=>
   have h0:=hnil rfl
   subst h0
   have hc0:cs=[]:=List.length_eq_zero_iff.1 (by simpa using hcl)
   rw[hc0]
   exact run_firstCells_none w.drew 2 0 0 c
  | some a=>exact run_firstCells_some w.drew 2 n a n c cs (by omega) (fun j v hj=>hcs a rfl j v hj)
 have hrun:∀ty,(Builtin.append_ #[142,142] ty #[.slice base n c,.slice (some ⟨vb,voff,none⟩) 1 vc]).run Tryz.prog w=
  .ok (.slice (some ⟨w.heap.size,0,none⟩) (n+1) (grownCap w (n+1) c 178)) (w.drew.alloc (.cells ((cs++vs).toArray++Builtin.zeroCells #[.int .i64 0,.slice none 0 0] (grownCap w (n+1) c 178-(n+1))) 178)):=fun ty=>
  run_append_grow_src w 142 142 ty 178 i0 _ Tryz.underlying142 hi0 hz0 base n c cs hold _ 1 vs hsrc hroom (by omega) (by rw[hb0];exact growslice_fits hroom hbig)
 go_enter Tryz.func248,Tryz.ntmps248
 cases base with
 | none=>
  have h0:=hnil rfl
  subst h0
  go_wp2_with (at_builtin;refine Lib.wpList_append_run _ rfl _ _ _ _ rfl _ _ rfl rfl _ _ (hrun _) ?_)
  go_ret
  exact⟨rfl,rfl⟩
 | some a=>
  obtain⟨ab,ao,asp⟩:=a
  go_wp2_with (at_builtin;refine Lib.wpList_append_run _ rfl _ _ _ _ rfl _ _ rfl rfl _ _ (hrun _) ?_)
  all_goals (go_ret;exact⟨rfl,rfl⟩)
set_option maxHeartbeats 4000000 in
theorem AwS (b off n c i vb voff vc:Nat) (cs vs:List Value) (w:World) (hi:i<n) (hnc:n≤c) (hroom:c<n+1) (hbig:(n+1)*32≤140737488355328)
 (hcl:cs.length=n*2) (hvl:vs.length=2)
 (hcs:∀j v,cs[j]? =some v→w.cell? ⟨b,off+j,none⟩=some v)
 (hvs:∀j v,vs[j]? =some v→w.cell? ⟨vb,voff+j,none⟩=some v) (h1c:∀v∈cs,v.oneCell' =true) (h1v:∀v∈vs,v.oneCell' =true):
 Calls Tryz.prog 248 #[.slice (some ⟨b,off,none⟩) n c,.int .i64 i,.slice (some ⟨vb,voff,none⟩) 1 vc] w fun e w'=>
  e= .returned (.slice (some ⟨w.heap.size,0,none⟩) (n+1) (grownCap w (n+1) c 178))∧
  w' =(((w.alloc (.cells ((cs.take (i*2)).toArray++Builtin.zeroCells #[.int .i64 0,.slice none 0 0] (n+1-i)++Builtin.zeroCells #[.int .i64 0,.slice none 0 0] (grownCap w (n+1) c 178-(n+1))) 178)).drew.setCells w.heap.size (i*2) vs).drew).setCells w.heap.size ((i+1)*2) (cs.drop (i*2)):=by
 have hz1:¬((1:Int)=0):=by omega
 have hz2:¬((i:Int)=(n:Int)):=by omega
 have hz3:(c:Int)<(n:Int)+1:=by omega
 obtain⟨i0,hi0,hs0,hb0,hz0⟩:=inf
 have mixed:Tryz.prog.follows .mixedOrders=true:=by kernel_rfl
 have hsz:(Tryz.prog.info? 178).map (·.size)=some 2:=by rw[hi0];simp[hs0]
 have hbw:b<w.heap.size:=block_lt_of_cell (hcs 0 _ (List.getElem?_eq_getElem (by omega)))
 have hvw:vb<w.heap.size:=block_lt_of_cell (hvs 0 _ (List.getElem?_eq_getElem (by omega)))
 have hkk:(n:Int)+1-(i:Int)=((n+1-i:Nat):Int):=by omega
 have hik:i+(n+1-i)=n+1:=by omega
 have hold:(Builtin.firstCells i0.size i (.slice (some ⟨b,off,none⟩) i c)).run Tryz.prog w.drew= .ok (cs.take (i*2)).toArray w.drew:=by
  rw[hs0]
  exact run_firstCells_some w.drew 2 i ⟨b,off,none⟩ i c (cs.take (i*2)) (by rw[List.length_take];omega) (fun j v hj=>by
   rw[Addr.add_lit]
   rw[List.getElem?_take]at hj
   split at hj
   ·exact hcs j v hj
   ·cases hj)
 have hrz:∀ty,(Builtin.append_ #[142,3] ty #[.slice (some ⟨b,off,none⟩) i c,.int .i64 ((n:Int)+1-(i:Int))]).run Tryz.prog w=
  .ok (.slice (some ⟨w.heap.size,0,none⟩) (n+1) (grownCap w (n+1) c 178)) (w.drew.alloc (.cells ((cs.take (i*2)).toArray++Builtin.zeroCells #[.int .i64 0,.slice none 0 0] (n+1-i)++Builtin.zeroCells #[.int .i64 0,.slice none 0 0] (grownCap w (n+1) c 178-(n+1))) 178)):=fun ty=>by
  have h:=Lib.run_append_grow_zeros w 142 3 ty 178 i0 _ .i64 .i64 Tryz.underlying142 Tryz.underlying3 hi0 hz0 (some ⟨b,off,none⟩) i c (cs.take (i*2)) hold (n+1-i) (by omega) (by omega) (by omega) (by omega) (by rw[hb0];omega) (by rw[hb0,hik];exact growslice_fits hroom hbig)
  rw[hik]at h
  rw[hkk]
  exact h
 obtain⟨G,hG⟩:∃G,G=grownCap w (n+1) c 178:=⟨_,rfl⟩
 obtain⟨ROW,hROW⟩:∃ROW:Array Value,ROW=(cs.take (i*2)).toArray++Builtin.zeroCells #[.int .i64 0,.slice none 0 0] (n+1-i)++Builtin.zeroCells #[.int .i64 0,.slice none 0 0] (G-(n+1)):=⟨_,rfl⟩
 rw[←hG]at hrz⊢
 rw[←hROW]at hrz⊢
 have hRl:(n+1)*2≤ROW.size:=by
  rw[hROW]
  simp[Builtin.zeroCells]
  omega
 obtain⟨W1,hW1⟩:∃W1,W1=w.drew.alloc (.cells ROW 178):=⟨_,rfl⟩
 rw[←hW1]at hrz
 have hN:∀j,j<(n+1)*2→(W1.cell? ⟨w.heap.size,j,none⟩).isSome=true:=fun j hj=>by
  rw[hW1,World.cell?_alloc_at (w:=w.drew) ROW _ w.heap.size j rfl,Array.getElem?_eq_getElem (by omega)];rfl
 have hNf:∀j,W1.frozen? ⟨w.heap.size,j,none⟩=false:=fun j=>by rw[hW1];exact World.frozen?_alloc_at (w:=w.drew) ROW _ w.heap.size j rfl
 have hOb:∀j v,w.cell? ⟨b,j,none⟩=some v→W1.cell? ⟨b,j,none⟩=some v:=fun j v h=>by rw[hW1,World.cell?_alloc_past (w:=w.drew) _ b j hbw];exact h
 have hOv:∀j v,w.cell? ⟨vb,j,none⟩=some v→W1.cell? ⟨vb,j,none⟩=some v:=fun j v h=>by rw[hW1,World.cell?_alloc_past (w:=w.drew) _ vb j hvw];exact h
 have hcpA:∀(W:World),(∀x,W.cell? x=W1.cell? x)→(∀x,W.frozen? x=W1.frozen? x)→∀ty dc,(Builtin.copy_ #[142,142] ty #[.slice (some ⟨w.heap.size,i*2,none⟩) (n+1-i) dc,.slice (some ⟨vb,voff,none⟩) 1 vc]).run Tryz.prog W= .ok (goInt 1) (W.setCells w.heap.size (i*2) vs):=fun W hWc hWf ty dc=>by
  have hmin:Nat.min 1 (n+1-i)=1:=by simp only[Nat.min_def];split<;>omega
  have:=Fv (P:=Tryz.prog) W 142 142 ty 178 2 w.heap.size (i*2) (n+1-i) dc ⟨vb,voff,none⟩ 1 vc vs Tryz.underlying142 hsz (by rw[hvl,hmin])
   (fun j v hj=>by rw[Addr.add_lit,hWc];exact hOv _ v (hvs j v hj))
   (fun j hj=>by rw[hWc];exact hN _ (by omega)) (fun j hj=>by rw[hWf];exact hNf _) h1v
  rw[hmin]at this
  exact this
 have hGn:n+1≤G:=by rw[hG];exact grownCap_ge w _ _ _
 have hG63:G≤9223372036854775807:=by
  have:=grownCap_le_maxLen w (n+1) c 178 (by unfold maxLen;omega)
  rw[←hG]at this
  unfold maxLen at this
  omega
 have hGi:¬(G=i):=by omega
 have hGim:¬(G=i+1):=by omega
 have hci:¬(c=i):=by omega
 have hbN:b≠w.heap.size:=by omega
 have hdl:(cs.drop (i*2)).length=(n-i)*2:=by rw[List.length_drop,hcl];omega
 have hcpB:∀(W:World),(∀x,W.cell? x=(W1.setCells w.heap.size (i*2) vs).cell? x)→(∀x,W.frozen? x=(W1.setCells w.heap.size (i*2) vs).frozen? x)→∀ty dc sc,(Builtin.copy_ #[142,142] ty #[.slice (some ⟨w.heap.size,(i+1)*2,none⟩) (n-i) dc,.slice (some ⟨b,off+i*2,none⟩) (n-i) sc]).run Tryz.prog W= .ok (goInt ((n-i:Nat):Int)) (W.setCells w.heap.size ((i+1)*2) (cs.drop (i*2))):=fun W hWc hWf ty dc sc=>by
  have hmin:Nat.min (n-i) (n-i)=n-i:=by simp only[Nat.min_def];split<;>omega
  have:=Fv (P:=Tryz.prog) W 142 142 ty 178 2 w.heap.size ((i+1)*2) (n-i) dc ⟨b,off+i*2,none⟩ (n-i) sc (cs.drop (i*2)) Tryz.underlying142 hsz (by rw[hdl,hmin])
   (fun j v hj=>by
    rw[Addr.add_lit,hWc,World.cell?_setCells_out _ _ _ _ _ (fun h _=>absurd h hbN),Nat.add_assoc]
    exact hOb _ v (hcs (i*2+j) v (by rwa [List.getElem?_drop]at hj)))
   (fun j hj=>by rw[hWc];exact isSome_setCells _ _ _ _ (fun t ht=>hN _ (by omega)) _ (hN _ (by omega)))
   (fun j hj=>by rw[hWf,World.frozen?_setCells];exact hNf _) (fun v hv=>h1c v (List.mem_of_mem_drop hv))
  rw[hmin]at this
  exact this
 subst hW1
 have hE1:∀x,((w.alloc (.cells ROW 178)).drew).cell? x=(w.drew.alloc (.cells ROW 178)).cell? x:=fun x=>rfl
 have hE2:∀x,((w.alloc (.cells ROW 178)).drew).frozen? x=(w.drew.alloc (.cells ROW 178)).frozen? x:=fun x=>rfl
 have hF1:∀x,(((w.alloc (.cells ROW 178)).drew.setCells w.heap.size (i*2) vs).drew).cell? x=((w.drew.alloc (.cells ROW 178)).setCells w.heap.size (i*2) vs).cell? x:=fun x=>rfl
 have hF2:∀x,(((w.alloc (.cells ROW 178)).drew.setCells w.heap.size (i*2) vs).drew).frozen? x=((w.drew.alloc (.cells ROW 178)).setCells w.heap.size (i*2) vs).frozen? x:=fun x=>rfl
 have hw1:IntKind.i64.wrap ((i:Int)+1)=(i:Int)+1:=by rw[IntKind.wrap_i64];omega
 have hb1:(0:Int)≤(i:Int)+1:=by omega
 have hin:i≤n:=by omega
 have htn:((i:Int)+1).toNat=i+1:=by omega
 have hb3:(i:Int)≤(n:Int):=by omega
 clear hkk hik hold hROW hG hRl
 go_enter Tryz.func248,Tryz.ntmps248
 go_wp2_with (first
  | (at_builtin;refine Lib.wpList_append_run _ rfl _ _ _ _ rfl _ _ rfl rfl _ _ (hrz _) ?_)
  | (at_builtin;refine wpList_copy_runI _ rfl _ _ 142 142 rfl _ _ rfl rfl (hcpA _ hE1 hE2 _ _) ?_)
  | (at_builtin;refine wpList_copy_runI _ rfl _ _ 142 142 rfl _ _ rfl rfl (hcpB _ (fun _=>rfl) (fun _=>rfl) _ _ _) ?_))
 go_region_law_o (refine step_copy_runI rfl _ _ 142 142 rfl (.slice (some ⟨w.heap.size,(i+1)*2,none⟩) (n-i) (G-(i+1))) (.slice (some ⟨b,off+i*2,none⟩) (n-i) (c-i)) (by simp[Act.eval,Act.put]) (by simp[Act.eval,Act.put]) (hcpB _ hF1 hF2 3 (G-(i+1)) (c-i)) ?_)
 go_wp2
 go_ret
 exact⟨rfl,rfl⟩
theorem AbY {l d:List Value} {off i n:Nat} (hi:i≤l.length) (hn:l.length+d.length≤n) (c:Array Value) (hc:off+n≤c.size) (hl:∀j,j<i→c[off+j]? =l[j]?) (j:Nat) (hj:j<l.length+d.length):
 (Jf (off+i) d (Jf (off+i+d.length) (l.drop i) c))[off+j]? =(l.take i++d++l.drop i)[j]? :=by
 have ht:(l.take i).length=i:=by simp;omega
 by_cases h1:j<i
 ·rw[Gg _ _ _ _ (.inl (by omega)),Gg _ _ _ _ (.inl (by omega)),hl j h1,List.append_assoc,List.getElem?_append_left (by omega),List.getElem?_take,if_pos h1]
 ·by_cases h2:j<i+d.length
  ·have:=O0 d (off+i) (j-i) (Jf (off+i+d.length) (l.drop i) c) (by omega) (by rw[E9];omega)
   rw[show off+i+(j-i)=off+j by omega]at this
   rw[this,List.append_assoc,List.getElem?_append_right (by omega),List.getElem?_append_left (by omega),ht]
  ·rw[Gg _ _ _ _ (.inr (by omega))]
   have:=O0 (l.drop i) (off+i+d.length) (j-i-d.length) c (by simp;omega) (by simp;omega)
   rw[show off+i+d.length+(j-i-d.length)=off+j by omega]at this
   rw[this,List.append_assoc,List.getElem?_append_right (by omega),List.getElem?_append_right (by omega),ht]
theorem Aay {l d:List Value} {i:Nat} (h1:EH l) (h2:EH d):EH (l.take i++d++l.drop i):=by
 intro v hv
 rcases List.mem_append.1 hv with hv | hv
 ·rcases List.mem_append.1 hv with hv | hv
  ·exact h1 v (List.mem_of_mem_take hv)
  ·exact h2 v hv
 ·exact h1 v (List.mem_of_mem_drop hv)
theorem ACP:AA9 Tryz.prog 248:=by
 intro a n cap i vb vo vc vs ds w hi hn hcap hvl hdl hm hV hvc
 have hds:∀j x,ds[j]? =some x→w.cell? ⟨vb,vo+j,none⟩=some x:=fun j x hj=>Am5 hV hj
 have hdo:EH ds:=hV.1
 have hgc:=UJ w (n+1) cap 178
 have hgb:=SX w (n+1) cap 178 (by omega)
 have hlen:(vs.take (i*2)++ds++vs.drop (i*2)).length=(n+1)*2:=by simp[hvl,hdl];omega
 have zc:∀k,(Builtin.zeroCells #[Value.int .i64 0,.slice none 0 0] k).size=k*2:=fun k=>by simp[Builtin.zeroCells]
 have endGrow:cap<n+1→i=n→EH vs→(∀a0,a=some a0→∀j x,vs[j]? =some x→w.cell? (a0.add j)=some x)→(a=none→n=0)→_:=fun hc hin ho hcells hnil=>
  (Akg a n cap vb vo vc vs ds w hcap.1 hc (by omega) hvl hdl hnil hcells hds hdo).mono
   (R':=fun e w'=>∃b' o' cap',e= .returned (.slice (some ⟨b',o',none⟩) (n+1) cap')∧(n+1≤cap'∧cap'≤9223372036854775807)∧
    Has w' b' o' (vs.take (i*2)++ds++vs.drop (i*2)) (cap'*2)∧(w.heap.size≤b'∨∃o,a=some ⟨b',o,none⟩∧cap≠0)∧
    w.heap.size≤w'.heap.size∧w'.os=w.os∧w'.tape=w.tape∧w'.output=w.output∧∀b,b<w.heap.size→b≠b'→w'.heap[b]? =w.heap[b]?)
   fun e w' ⟨he,hw⟩=>by
    subst hw
    refine⟨_,_,_,he,⟨hgc,hgb⟩,⟨Aay ho hdo,_,178,alloc_at w.drew _,?_,by rw[hlen];exact Nat.mul_le_mul_right _ hgc,fun j hj=> ?_⟩,.inl (Nat.le_refl _),by rw[Mg];simp,rfl,rfl,rfl,fun b hb _=>Ro w.drew _ hb⟩
    ·simp[zc,hvl,hdl];omega
    ·rw[hlen]at hj
     have e1:vs.take (i*2)=vs:=List.take_of_length_le (by omega)
     have e2:vs.drop (i*2)=[]:=List.drop_eq_nil_of_le (by omega)
     rw[Nat.zero_add,e1,e2,List.append_nil,Array.getElem?_append,if_pos (by simp[hvl,hdl];omega)]
     simp
 rcases hm with hm | ⟨b,o,rfl,hhas,hbne⟩
 ·subst hm
  obtain rfl:n=0:=by omega
  obtain rfl:i=0:=by omega
  have hv0:vs=[]:=List.length_eq_zero_iff.1 (by omega)
  subst hv0
  exact endGrow (by omega) rfl (fun v hv=>by cases hv) (fun a0 _ j x hj=>by simp at hj) (fun _=>rfl)
 ·have ho:EH vs:=hhas.1
  have hcs:∀j x,vs[j]? =some x→w.cell? ⟨b,o+j,none⟩=some x:=fun j x hj=>Am5 hhas hj
  have hbl:=Rc hhas
  have keep:∀(f:Array Value→Array Value) (W:World),W.heap=w.heap→∀b2,b2<w.heap.size→b2≠b→(mapBlock W b f).heap[b2]? =w.heap[b2]? :=fun f W hW b2 _ h2=>by rw[YM _ _ h2,hW]
  by_cases hroom:n+1≤cap
  ·by_cases hin:i=n
   ·subst hin
    refine(Ak2 b o i cap vb vo vc ds w hroom hcap.2 hdl (fun j hj=> ?_) (fun j _=>Aaz hhas _) hds hdo).mono fun e w' ⟨he,hw⟩=> ?_
    ·have:=Amq hhas (j:=i*2+j) (by omega)
     rwa [←Nat.add_assoc]at this
    ·rw[DR]at hw
     subst hw
     refine⟨b,o,cap,he,⟨hroom,hcap.2⟩,?_,.inr ⟨o,rfl,by omega⟩,by rw[Pv];exact Nat.le_refl _,rfl,rfl,rfl,fun b2 h1 h2=>keep _ w rfl b2 h1 h2⟩
     refine Arq hhas (Xh _ _ _) (E9 _ _) (fun c h1 h2 j hj=> ?_) (Aay ho hdo) (by rw[hlen];omega)
     have:=AbY (l:=vs) (d:=ds) (off:=o) (i:=i*2) (n:=cap*2) (by omega) (by omega) c h1 (fun j hj=>h2 j (by omega)) j (by rw[hlen]at hj;omega)
     have e2:vs.drop (i*2)=[]:=List.drop_eq_nil_of_le (by omega)
     rw[e2]at this⊢
     exact this
   ·obtain⟨tA,kA,hsa,_⟩:=Ai7 hV
    obtain⟨tB,kB,hsb,hkB⟩:=Ai7 hhas
    refine(ArG b o n cap i vb vo vc vs ds w (by omega) hroom hcap.2 (Ne.symm hbne) hvl hdl hcs (fun j hj=>Amq hhas (by omega)) (fun j _=>Aaz hhas _) hds ho hdo tA tB kA kB hsa hsb (by omega) (Aaz hV _) (Aaz hV _)).mono fun e w' ⟨he,hw⟩=> ?_
    rw[DR,DR,mapBlock_mapBlock]at hw
    subst hw
    refine⟨b,o,cap,he,⟨hroom,hcap.2⟩,?_,.inr ⟨o,rfl,by omega⟩,by rw[Pv];exact Nat.le_refl _,rfl,rfl,rfl,fun b2 h1 h2=>keep _ w.drew rfl b2 h1 h2⟩
    refine Arq hhas (Xh _ _ _) (fun c=>by rw[E9,E9]) (fun c h1 h2 j hj=> ?_) (Aay ho hdo) (by rw[hlen];omega)
    have:=AbY (l:=vs) (d:=ds) (off:=o) (i:=i*2) (n:=cap*2) (by omega) (by omega) c h1 (fun j hj=>h2 j (by omega)) j (by rw[hlen]at hj;omega)
    rw[hdl,show o+i*2+2=o+(i+1)*2 by omega]at this
    exact this
  ·by_cases hin:i=n
   ·rw[hin]
    rw[hin]at endGrow
    refine endGrow (by omega) rfl ho (fun a0 ha j x hj=> ?_) (fun h=>by cases h)
    cases ha
    rw[Addr.add_lit]
    exact hcs j x hj
   ·refine(AwS b o n cap i vb vo vc vs ds w (by omega) hcap.1 (by omega) (by omega) hvl hdl hcs hds ho hdo).mono fun e w' ⟨he,hw⟩=> ?_
    rw[DR,DR]at hw
    have hsz:w'.heap.size=w.heap.size+1:=by
     rw[hw,Pv];simp only[World.drew];rw[Pv,Mg]
    have hoff:∀b',b' <w.heap.size→w'.heap[b']? =w.heap[b']? :=by
     intro b' hb'
     rw[hw,YM _ _ (by omega)]
     simp only[World.drew]
     rw[YM _ _ (by omega)]
     exact Ro w _ hb'
    refine⟨w.heap.size,0,_,he,⟨hgc,hgb⟩,?_,.inl (Nat.le_refl _),by omega,by rw[hw];rfl,by rw[hw];rfl,by rw[hw];rfl,fun b' hb' _=>hoff b' hb'⟩
    obtain⟨R0,hR0⟩:∃R0:Array Value,R0=(vs.take (i*2)).toArray++Builtin.zeroCells #[.int .i64 0,.slice none 0 0] (n+1-i)++Builtin.zeroCells #[.int .i64 0,.slice none 0 0] (grownCap w (n+1) cap 178-(n+1)):=⟨_,rfl⟩
    have hR0s:R0.size=grownCap w (n+1) cap 178*2:=by rw[hR0];simp[zc,hvl];omega
    have hat:w'.heap[w.heap.size]? =some (.cells (Jf ((i+1)*2) (vs.drop (i*2)) (Jf (i*2) ds R0)) 178 (0,0)):=by
     rw[hw,Xh]
     simp only[World.drew]
     rw[Xh]
     simp only[]
     rw[alloc_at,←hR0]
     rfl
    refine⟨Aay ho hdo,_,178,hat,?_,by rw[hlen];exact Nat.mul_le_mul_right _ hgc,fun j hj=> ?_⟩
    ·rw[E9,E9,hR0s];omega
    ·rw[hlen]at hj
     have hg2:(n+1)*2≤grownCap w (n+1) cap 178*2:=Nat.mul_le_mul_right _ hgc
     have ht:(vs.take (i*2)).length=i*2:=by simp;omega
     rw[Nat.zero_add]
     by_cases q1:j<i*2
     ·rw[Gg _ _ _ _ (.inl (by omega)),Gg _ _ _ _ (.inl q1),hR0,List.append_assoc,List.getElem?_append_left (by omega),Array.getElem?_append,if_pos (by simp[zc,hvl];omega),Array.getElem?_append,if_pos (by simp;omega)]
      simp
     ·by_cases q2:j<i*2+2
      ·rw[Gg _ _ _ _ (.inl (by omega))]
       have:=O0 ds (i*2) (j-i*2) R0 (by omega) (by omega)
       rw[show i*2+(j-i*2)=j by omega]at this
       rw[this,List.append_assoc,List.getElem?_append_right (by omega),List.getElem?_append_left (by omega),ht]
      ·have:=O0 (vs.drop (i*2)) ((i+1)*2) (j-(i+1)*2) (Jf (i*2) ds R0) (by simp;omega) (by rw[E9];simp;omega)
       rw[show(i+1)*2+(j-(i+1)*2)=j by omega]at this
       rw[this,List.append_assoc,List.getElem?_append_right (by omega),List.getElem?_append_right (by omega),ht,hdl]
       congr 1;omega
end Go.Eng.Ins
namespace Go.Eng.Ins
open Go Go.Proofs Go.Shelf Go.RowKit Go.Lib Go.Sort Go.Eng
set_option maxRecDepth 100000
theorem mk2 (w:World):(Instr.makeSlice 24 (.int .i64 2) (.int .i64 2)).run Tryz.prog w= .ok (.slice (some ⟨w.heap.size,0,none⟩) 2 2) (w.alloc (.cells #[.int .i64 0,.int .i64 0] 3)):=by kernel_rfl
theorem mk1 (w:World):(Instr.makeSlice 24 (.int .i64 1) (.int .i64 1)).run Tryz.prog w= .ok (.slice (some ⟨w.heap.size,0,none⟩) 1 1) (w.alloc (.cells #[.int .i64 0] 3)):=by kernel_rfl
theorem mk0 (w:World):(Instr.makeSlice 24 (.int .i64 0) (.int .i64 0)).run Tryz.prog w= .ok (.slice (some ⟨w.heap.size,0,none⟩) 0 0) (w.alloc (.cells #[] 3)):=by kernel_rfl
theorem siz:(Tryz.prog.info? 3).map (·.size)=some 1:=by kernel_rfl
set_option maxHeartbeats 4000000 in
theorem ACR (b o cap:Nat) (v:Int) (w:World) (hv:w.cell? ⟨b,o,none⟩=some (.int .i64 v)):
 Calls Tryz.prog 246 #[.slice (some ⟨b,o,none⟩) 1 cap,.int .i64 2] w fun e w'=>e= .returned (.slice (some ⟨w.heap.size,0,none⟩) 2 2)∧w' =(((w.alloc (.cells #[.int .i64 0,.int .i64 0] 3)).setCells w.heap.size 0 [.int .i64 v]).drew).setCells w.heap.size 1 [.int .i64 v]:=by
 have mixed:Tryz.prog.follows .mixedOrders=true:=by kernel_rfl
 have hbw:b<w.heap.size:=block_lt_of_cell hv
 obtain⟨W1,hW1⟩:∃W1,W1=w.alloc (.cells #[.int .i64 0,.int .i64 0] 3):=⟨_,rfl⟩
 have hN:∀j,j<2→(W1.cell? ⟨w.heap.size,j,none⟩).isSome=true:=fun j hj=>by
  rw[hW1,World.cell?_alloc_at (w:=w) _ _ w.heap.size j rfl,Array.getElem?_eq_getElem (by simpa using hj)];rfl
 have hNf:∀j,W1.frozen? ⟨w.heap.size,j,none⟩=false:=fun j=>by rw[hW1];exact World.frozen?_alloc_at (w:=w) _ _ w.heap.size j rfl
 have hOv:W1.cell? ⟨b,o,none⟩=some (.int .i64 v):=by rw[hW1,World.cell?_alloc_past (w:=w) _ b o hbw];exact hv
 have hcA:∀ty,(Builtin.copy_ #[24,24] ty #[.slice (some ⟨w.heap.size,0,none⟩) 2 2,.slice (some ⟨b,o,none⟩) 1 cap]).run Tryz.prog W1= .ok (goInt 1) (W1.setCells w.heap.size 0 [.int .i64 v]):=fun ty=>by
  have:=Fv (P:=Tryz.prog) W1 24 24 ty 3 1 w.heap.size 0 2 2 ⟨b,o,none⟩ 1 cap [.int .i64 v] Tryz.underlying24 siz rfl
   (fun j x hj=>by
    match j,hj with
    | 0,hj=>simp at hj;subst hj;rw[Addr.add_lit];exact hOv
    | j+1,hj=>simp at hj)
   (fun j hj=>by rw[Nat.zero_add];simp at hj;exact hN j (by omega)) (fun j hj=>by rw[Nat.zero_add];exact hNf j) (by simp[Value.oneCell'])
  exact this
 obtain⟨W2,hW2⟩:∃W2,W2=W1.setCells w.heap.size 0 [.int .i64 v]:=⟨_,rfl⟩
 rw[←hW2]at hcA
 have hcB:∀ty dc sc,(Builtin.copy_ #[24,24] ty #[.slice (some ⟨w.heap.size,1,none⟩) 1 dc,.slice (some ⟨w.heap.size,0,none⟩) 1 sc]).run Tryz.prog W2.drew= .ok (goInt 1) (W2.drew.setCells w.heap.size 1 [.int .i64 v]):=fun ty dc sc=>by
  have:=Fv (P:=Tryz.prog) W2.drew 24 24 ty 3 1 w.heap.size 1 1 dc ⟨w.heap.size,0,none⟩ 1 sc [.int .i64 v] Tryz.underlying24 siz rfl
   (fun j x hj=>by
    match j,hj with
    | 0,hj=>
     simp at hj;subst hj;rw[Addr.add_lit]
     have:=World.cell?_setCells_in w.heap.size [Value.int .i64 v] 0 W1 (fun j hj=>by rw[Nat.zero_add];simp at hj;exact hN j (by omega)) 0 (by simp)
     rw[←hW2]at this
     simpa using this
    | j+1,hj=>simp at hj)
   (fun j hj=>by
    simp at hj;subst hj
    show(W2.cell? _).isSome=true
    rw[hW2]
    exact isSome_setCells _ _ _ _ (fun j hj=>by rw[Nat.zero_add];simp at hj;exact hN j (by omega)) _ (hN 1 (by omega))) (fun j hj=>by
    show W2.frozen? _=false
    rw[hW2,World.frozen?_setCells];exact hNf _) (by simp[Value.oneCell'])
  exact this
 subst hW2
 subst hW1
 clear hN hNf hOv
 go_enter Tryz.func246,Tryz.ntmps246
 go_wp2_with (first
  | go_in
  | (simp only[mk2])
  | (at_builtin;refine wpList_copy_runI _ rfl _ _ 24 24 rfl _ _ rfl rfl (hcA _) ?_))
 refine wp_loop_rounds 2 ?_
 simp only[Code.rounds]
 go_wp2
 go_region_law_o (refine step_copy_runI rfl _ _ 24 24 rfl _ _ (by simp[Act.eval,Act.put]) (by simp[Act.eval,Act.put]) (hcB _ _ _) ?_)
 go_wp2
 go_ret
 exact⟨rfl,rfl⟩
set_option maxHeartbeats 4000000 in
theorem ACX (b o cap:Nat) (v:Int) (w:World) (hv:w.cell? ⟨b,o,none⟩=some (.int .i64 v)):
 Calls Tryz.prog 246 #[.slice (some ⟨b,o,none⟩) 1 cap,.int .i64 1] w fun e w'=>e= .returned (.slice (some ⟨w.heap.size,0,none⟩) 1 1)∧w' =(w.alloc (.cells #[.int .i64 0] 3)).setCells w.heap.size 0 [.int .i64 v]:=by
 have mixed:Tryz.prog.follows .mixedOrders=true:=by kernel_rfl
 have hbw:b<w.heap.size:=block_lt_of_cell hv
 have hcA:∀ty,(Builtin.copy_ #[24,24] ty #[.slice (some ⟨w.heap.size,0,none⟩) 1 1,.slice (some ⟨b,o,none⟩) 1 cap]).run Tryz.prog (w.alloc (.cells #[.int .i64 0] 3))= .ok (goInt 1) ((w.alloc (.cells #[.int .i64 0] 3)).setCells w.heap.size 0 [.int .i64 v]):=fun ty=>by
  have:=Fv (P:=Tryz.prog) (w.alloc (.cells #[.int .i64 0] 3)) 24 24 ty 3 1 w.heap.size 0 1 1 ⟨b,o,none⟩ 1 cap [.int .i64 v] Tryz.underlying24 siz rfl
   (fun j x hj=>by
    match j,hj with
    | 0,hj=>simp at hj;subst hj;rw[Addr.add_lit,World.cell?_alloc_past (w:=w) _ b _ hbw];exact hv
    | j+1,hj=>simp at hj)
   (fun j hj=>by rw[Nat.zero_add];simp at hj;subst hj;rw[World.cell?_alloc_at (w:=w) _ _ w.heap.size 0 rfl];rfl) (fun j hj=>by exact World.frozen?_alloc_at (w:=w) _ _ w.heap.size _ rfl) (by simp[Value.oneCell'])
  exact this
 go_enter Tryz.func246,Tryz.ntmps246
 go_wp2_with (first
  | go_in
  | (simp only[mk1])
  | (at_builtin;refine wpList_copy_runI _ rfl _ _ 24 24 rfl _ _ rfl rfl (hcA _) ?_))
 refine wp_loop_rounds 1 ?_
 simp only[Code.rounds]
 go_wp2
 go_ret
 exact⟨rfl,rfl⟩
set_option maxHeartbeats 4000000 in
theorem ACS (b o cap:Nat) (w:World):
 Calls Tryz.prog 246 #[.slice (some ⟨b,o,none⟩) 1 cap,.int .i64 0] w fun e w'=>e= .returned (.slice (some ⟨w.heap.size,0,none⟩) 0 0)∧w' =w.alloc (.cells #[] 3):=by
 have mixed:Tryz.prog.follows .mixedOrders=true:=by kernel_rfl
 have hcA:∀ty,(Builtin.copy_ #[24,24] ty #[.slice (some ⟨w.heap.size,0,none⟩) 0 0,.slice (some ⟨b,o,none⟩) 1 cap]).run Tryz.prog (w.alloc (.cells #[] 3))= .ok (goInt 0) (w.alloc (.cells #[] 3)):=fun ty=>by
  have:=Fv (P:=Tryz.prog) (w.alloc (.cells #[] 3)) 24 24 ty 3 1 w.heap.size 0 0 0 ⟨b,o,none⟩ 1 cap [] Tryz.underlying24 siz rfl
   (fun j x hj=>by simp at hj) (fun j hj=>by simp at hj) (fun j hj=>by simp at hj) (by simp)
  exact this
 go_enter Tryz.func246,Tryz.ntmps246
 go_wp2_with (first
  | go_in
  | (simp only[mk0])
  | (at_builtin;refine wpList_copy_runI _ rfl _ _ 24 24 rfl _ _ rfl rfl (hcA _) ?_))
 refine wp_loop_rounds 1 ?_
 simp only[Code.rounds]
 go_wp2
 go_ret
 exact⟨rfl,rfl⟩
theorem ACQ:∃i:TypeInfo,Tryz.prog.info? 3=some i∧i.size=1∧i.bytes=8∧i.zero=some (.int .i64 0):=by
 have h:(Tryz.prog.info? 3).isSome=true:=by kernel_rfl
 obtain⟨i,hi⟩:=Option.isSome_iff_exists.1 h
 have h1:(Tryz.prog.info? 3).map (·.size)=some 1:=by kernel_rfl
 have h2:(Tryz.prog.info? 3).map (·.bytes)=some 8:=by kernel_rfl
 have h3:(Tryz.prog.info? 3).bind (·.zero)=some (.int .i64 0):=by kernel_rfl
 rw[hi]at h1 h2 h3
 simp only[Option.map_some,Option.some.injEq,Option.bind_some]at h1 h2 h3
 exact⟨i,hi,h1,h2,h3⟩
set_option maxHeartbeats 4000000 in
theorem ACd (w:World):Calls Tryz.prog 341 #[.slice none 0 0,.int .i64 0] w fun e w'=>e= .returned (.slice none 0 0)∧w' =w:=by
 have mixed:Tryz.prog.follows .mixedOrders=true:=by kernel_rfl
 go_enter Tryz.func341,Tryz.ntmps341
 go_wp2
 go_ret
 exact⟨rfl,rfl⟩
set_option maxHeartbeats 4000000 in
theorem ACe (n:Nat) (w:World) (h0:0<n) (hn:n≤16777216):Calls Tryz.prog 341 #[.slice none 0 0,.int .i64 n] w fun e w'=>e= .returned (.slice (some ⟨w.heap.size,0,none⟩) 0 (grownCap w n 0 3))∧
 w' =w.drew.alloc (.cells (([]:List Value).toArray++Builtin.zeroCells #[.int .i64 0] n++Builtin.zeroCells #[.int .i64 0] (grownCap w n 0 3-n)) 3):=by
 have mixed:Tryz.prog.follows .mixedOrders=true:=by kernel_rfl
 obtain⟨i0,hi0,hs0,hb0,hz0⟩:=ACQ
 have h1:¬((n:Int)<0):=by omega
 have h3:wrap64 ((n:Int)-((0:Int)-(0:Int)))=(n:Int):=by unfold wrap64;omega
 have h3':wrap64 ((n:Int)-(0:Int))=(n:Int):=by unfold wrap64;omega
 have h4:(n:Int)>0:=by omega
 have hold:(Builtin.firstCells i0.size 0 (.slice none 0 0)).run Tryz.prog w.drew= .ok ([]:List Value).toArray w.drew:=run_firstCells_none w.drew i0.size 0 0 0
 have hrz:∀ty,(Builtin.append_ #[24,3] ty #[.slice none 0 0,.int .i64 (n:Int)]).run Tryz.prog w=
  .ok (.slice (some ⟨w.heap.size,0,none⟩) n (grownCap w n 0 3)) (w.drew.alloc (.cells (([]:List Value).toArray++Builtin.zeroCells #[.int .i64 0] n++Builtin.zeroCells #[.int .i64 0] (grownCap w n 0 3-n)) 3)):=fun ty=>by
  have h:=Lib.run_append_grow_zeros w 24 3 ty 3 i0 _ .i64 .i64 Tryz.underlying24 Tryz.underlying3 hi0 hz0 none 0 0 [] hold n (by omega) (by omega) (by omega) (by omega) (by rw[hb0];omega) (by rw[hb0];exact growslice_fits (by omega) (by omega))
  simp only[Nat.zero_add]at h
  exact h
 have hGn:n≤grownCap w n 0 3:=grownCap_ge w _ _ _
 obtain⟨G,hG⟩:∃G,G=grownCap w n 0 3:=⟨_,rfl⟩
 rw[←hG]at hrz hGn⊢
 have hG63:G≤9223372036854775807:=by
  have:=grownCap_le_maxLen w n 0 3 (by unfold maxLen;omega)
  rw[←hG]at this
  unfold maxLen at this
  omega
 clear hold hG
 go_enter Tryz.func341,Tryz.ntmps341
 go_wp2_with (at_builtin;refine Lib.wpList_append_run _ rfl _ _ _ _ rfl _ _ rfl rfl _ _ (hrz _) ?_)
 all_goals (go_ret;exact⟨rfl,rfl⟩)
end Go.Eng.Ins
