/- Own work: part 46 of the proof of FnEvents. -/
import Derived.Test.YtfdnolfnbmnafaaGreatP45
import Derived.Lib.SlicesCompact
set_option linter.unusedSimpArgs false
set_option linter.unusedVariables false
namespace Go.Eng.T
set_option maxRecDepth 20000
set_option maxHeartbeats 1000000
def leftOf (a b:List Int):List Int:=a.filter fun v=> !decide (v∈b)
abbrev ZH (R:Rel):Prop:=∀a b:List Int,a.length≤4194304→b.length≤4194304→R [.sl 1 1 a.length (ints a),.sl 1 1 b.length (ints b)] [] (.sl 0 1 (leftOf a b).length (ints (leftOf a b))) []
theorem AFT (D:Dn) (hH:PN (D Jj)):ZH (Body D WC):=by
 intro a b ha hb
 have hres:leftOf a b=a.filter (fun v=> !decide (v∈b)):=rfl
 rw[hres]
 simp -implicitDefEqProofs
 refine Af (fun k s=>∃j o1 o2,j+k=a.length∧s=⟨[.sl 1 1 a.length (ints a),.sl 1 1 b.length (ints b),.undef,.arr 3,I j,.undef,.undef],[.free,o1,o2,.arr 1 0 ((a.take j).filter (fun v=> !decide (v∈b))).length (ints ((a.take j).filter (fun v=> !decide (v∈b))))]⟩) ?_ (a.length) _ ⟨0,.free,.free,by simp,by simp⟩
 intro k s ⟨j,o1,o2,hj,hs⟩
 subst hs
 by_cases hjn:j<a.length
 ·have hw:IntKind.i64.wrap ((j:Int)+1)=(j+1:Nat):=by rw[Ab (by omega) (by omega)];simp
  have hst:=KD (p:=fun v=> !decide (v∈b)) hjn
  have hln:=M5 (p:=fun v=> !decide (v∈b)) (xs:=a) (j:=j)
  have hbd:(((a.take j).filter (fun v=> !decide (v∈b))).length+1)*8≤1099511627776:=by omega
  simp -implicitDefEqProofs [hjn]
  refine Aa (hH b _ (by unfold maxLen;omega)) ?_
  by_cases h1:a[j]∈b
  ·rw[if_neg (by simp[h1]),List.append_nil]at hst
   simp -implicitDefEqProofs [h1,hjn,hbd]
   exact⟨k-1,by omega,j+1,by omega,by simp[hw],by rw[hst],by rw[hst]⟩
  ·rw[if_pos (by simp[h1])]at hst
   simp -implicitDefEqProofs [h1,hjn,hbd]
   exact⟨k-1,by omega,j+1,by omega,by simp[hw],by rw[hst];simp,by rw[hst]⟩
 ·have hx:=K9 (p:=fun v=> !decide (v∈b)) (xs:=a) (j:=j) (by omega)
  simp -implicitDefEqProofs [hjn,hx]
theorem ABC (D:Dn) (hH:PN (D Bb)):ZH (Body D Q0):=by
 intro a b ha hb
 have hres:leftOf a b=a.filter (fun v=> !decide (v∈b)):=rfl
 rw[hres]
 simp -implicitDefEqProofs
 refine Af (fun k s=>∃j v4 o1 o2,j+k=a.length∧s=⟨[.undef,.sl 1 1 b.length (ints b),.undef,.arr 3,v4,.sl 1 1 a.length (ints a),I a.length,I j,.undef,.undef],[.free,o1,o2,.arr 1 0 ((a.take j).filter (fun v=> !decide (v∈b))).length (ints ((a.take j).filter (fun v=> !decide (v∈b))))]⟩) ?_ (a.length) _ ⟨0,.undef,.free,.free,by simp,by simp⟩
 intro k s ⟨j,v4,o1,o2,hj,hs⟩
 subst hs
 by_cases hjn:j<a.length
 ·have hw:IntKind.i64.wrap ((j:Int)+1)=(j+1:Nat):=by rw[Ab (by omega) (by omega)];simp
  have hst:=KD (p:=fun v=> !decide (v∈b)) hjn
  have hln:=M5 (p:=fun v=> !decide (v∈b)) (xs:=a) (j:=j)
  have hbd:(((a.take j).filter (fun v=> !decide (v∈b))).length+1)*8≤1099511627776:=by omega
  simp -implicitDefEqProofs [hjn]
  refine Aa (hH b _ (by unfold maxLen;omega)) ?_
  by_cases h1:a[j]∈b
  ·rw[if_neg (by simp[h1]),List.append_nil]at hst
   simp -implicitDefEqProofs [h1,hjn,hbd]
   exact⟨k-1,by omega,j+1,by omega,by simp[hw],by rw[hst],by rw[hst]⟩
  ·rw[if_pos (by simp[h1])]at hst
   simp -implicitDefEqProofs [h1,hjn,hbd]
   exact⟨k-1,by omega,j+1,by omega,by simp[hw],by rw[hst];simp,by rw[hst]⟩
 ·have hx:=K9 (p:=fun v=> !decide (v∈b)) (xs:=a) (j:=j) (by omega)
  simp -implicitDefEqProofs [hjn,hx]
def upTo (xs:List Int) (i:Nat):Bool:=decide (i=0)||decide (xs.getD (i-1) 0<xs.getD i 0)
def Pm (xs:List Int):Bool:=VJ (upTo xs) xs.length&&allIn xs 0 255
abbrev Ag6 (R:Rel):Prop:=∀xs:List Int,xs.length≤maxLen→R [.sl 1 1 xs.length (ints xs)] [] (B (Pm xs)) []
theorem AzQ {xs:List Int} {j:Nat} (h:j<xs.length) (hn:¬WO xs[j] 0 255):Pm xs=false:=by unfold Pm;rw[Azs h hn];simp
theorem Akg {xs:List Int} {j:Nat} (h:j<xs.length) (hn:upTo xs j=false):Pm xs=false:=by unfold Pm;rw[AxM h hn];simp
theorem Aud (xs:List Int):upTo xs 0=true:=by simp[upTo]
theorem AnI {xs:List Int} {j:Nat} (h0:¬j=0) (h:j<xs.length) (h':j-1<xs.length):upTo xs j=decide (xs[j-1]<xs[j]):=by
 unfold upTo
 rw[AaF h,AaF h']
 simp[h0]
theorem AUJ (D:Dn) (hI:TF (D Cw)):Ag6 (Body D AQD):=by
 intro xs hl
 unfold maxLen at hl
 simp -implicitDefEqProofs
 refine Af (fun k s=>∃j,j+k=xs.length∧allIn (xs.take j) 0 255=true∧VJ (upTo xs) j=true∧s=⟨[.sl 1 1 xs.length (ints xs),.undef,I j,.undef,.undef],[]⟩) ?_ (xs.length) _ ⟨0,by simp,by simp[allIn],by simp,by simp⟩
 intro k s ⟨j,hj,hp,hr,hs⟩
 subst hs
 by_cases hjn:j<xs.length
 ·have hw:IntKind.i64.wrap ((j:Int)+1)=(j+1:Nat):=by rw[Ab (by omega) (by omega)];simp
  have hst:=Qi (upTo xs) j
  rw[hr,Bool.true_and]at hst
  simp -implicitDefEqProofs [hjn]
  refine Aa (hI _ _ _) ?_
  by_cases h1:WO xs[j] 0 255
  rotate_left
  ·simp -implicitDefEqProofs [h1,AzQ hjn h1]
  by_cases h0:j=0
  ·subst h0
   simp -implicitDefEqProofs [h1]
   exact⟨k-1,by omega,1,by omega,by rw[AdG hjn,hp];simp[h1],by rw[hst,Aud],by simpa using hw⟩
  ·have hw2:IntKind.i64.wrap ((j:Int)-1)=((j-1:Nat):Int):=by rw[Ab (by omega) (by omega)];omega
   have h2:(0:Int)<j:=by omega
   have h2':0<j:=by omega
   have h3:j-1<xs.length:=by omega
   rw[AnI h0 hjn h3]at hst
   by_cases h4:xs[j-1]<xs[j]
   ·have h4':¬xs[j]≤xs[j-1]:=by omega
    simp -implicitDefEqProofs [h1,h2,h2',hw2,h3,hjn,h4']
    exact⟨k-1,by omega,j+1,by omega,by rw[AdG hjn,hp];simp[h1],by rw[hst];simp[h4],by simp[hw]⟩
   ·have e:=Akg hjn (by rw[AnI h0 hjn h3];simp[h4])
    have h4':xs[j]≤xs[j-1]:=by omega
    simp -implicitDefEqProofs [h1,h2,h2',hw2,h3,hjn,h4',e]
 ·obtain rfl:j=xs.length:=by omega
  have e:Pm xs=true:=by unfold Pm;rw[hr,AuN (by omega) hp];rfl
  simp -implicitDefEqProofs [e]
theorem ACO (D:Dn) (hN:J2 (D JM)):Ag6 (Body D Wy):=by
 intro xs hl
 have hl0:=hl
 unfold maxLen at hl
 simp -implicitDefEqProofs
 refine Af (fun k s=>∃j,j+k=xs.length∧VJ (upTo xs) j=true∧s=⟨[.sl 1 1 xs.length (ints xs),.undef,.undef,.undef,.sl 1 1 xs.length (ints xs),I xs.length,I j,.undef,.undef],[]⟩) ?_ (xs.length) _ ⟨0,by simp,by simp,by simp⟩
 intro k s ⟨j,hj,hr,hs⟩
 subst hs
 by_cases hjn:j<xs.length
 ·have hw:IntKind.i64.wrap ((j:Int)+1)=(j+1:Nat):=by rw[Ab (by omega) (by omega)];simp
  have hst:=Qi (upTo xs) j
  rw[hr,Bool.true_and]at hst
  by_cases h0:j=0
  ·subst h0
   simp -implicitDefEqProofs [hjn]
   exact⟨k-1,by omega,1,by omega,by rw[hst,Aud],by simpa using hw⟩
  ·have hw2:IntKind.i64.wrap ((j:Int)-1)=((j-1:Nat):Int):=by rw[Ab (by omega) (by omega)];omega
   have h2:(0:Int)<j:=by omega
   have h2':0<j:=by omega
   have h3:j-1<xs.length:=by omega
   rw[AnI h0 hjn h3]at hst
   by_cases h4:xs[j-1]<xs[j]
   ·have h4':¬xs[j]≤xs[j-1]:=by omega
    simp -implicitDefEqProofs [h2,h2',hw2,h3,hjn,h4']
    exact⟨k-1,by omega,j+1,by omega,by rw[hst];simp[h4],by simp[hw]⟩
   ·have e:=Akg hjn (by rw[AnI h0 hjn h3];simp[h4])
    have h4':xs[j]≤xs[j-1]:=by omega
    simp -implicitDefEqProofs [h2,h2',hw2,h3,hjn,h4',e]
 ·obtain rfl:j=xs.length:=by omega
  have e:Pm xs=allIn xs 0 255:=by unfold Pm;rw[hr];rfl
  simp -implicitDefEqProofs
  refine Aa (hN xs _ _ hl0) ?_
  simp -implicitDefEqProofs [e]
def BH (e:Az):Bool:=Bt e.versions&&(decide (e.tags.length≤5)&&(Pm e.tags&&(!e.tags.any A9&&(decide (e.path.length≤4)&&(e.path.all Ji&&decide (WO e.cls 0 5))))))
abbrev Iq (R:Rel):Prop:=∀e:Az,Ke e→R [arg (Ag e)] [] (B (BH e)) []
theorem AsG (D:Dn) (hI:TF (D Cw)) (hR:Ho (D PX)) (hX:Tx (D AaH)) (hA:Co (D F8)):Iq (Body D Ql):=by
 intro e hl
 obtain⟨hl1,hl2,hl3⟩:=hl
 have hl4:=hl3.1
 have hl2':=hl2
 unfold KN at hl2
 unfold maxLen at hl2 hl4
 simp -implicitDefEqProofs
 refine Af (fun k s=>∃j,j+k=e.tags.length∧allIn (e.tags.take j) 0 255=true∧VJ (upTo e.tags) j=true∧(e.tags.take j).any A9=false∧s=⟨[.undef,.ptr 0 0,.undef,I j,.undef,.undef,.undef,.undef,.undef],[.var ((Ag e).map (Be 1))]⟩) ?_ (e.tags.length) _ ⟨0,by simp,by simp[allIn],by simp,by simp,by simp⟩
 intro k s ⟨j,hj,hp,hr,hq,hs⟩
 subst hs
 by_cases hjn:j<e.tags.length
 ·have hw:IntKind.i64.wrap ((j:Int)+1)=(j+1:Nat):=by rw[Ab (by omega) (by omega)];simp
  have hst:=Qi (upTo e.tags) j
  rw[hr,Bool.true_and]at hst
  have hsq:=Apk (p:=A9) hjn
  rw[hq,Bool.false_or]at hsq
  simp -implicitDefEqProofs [hjn]
  refine Aa (hI _ _ _) ?_
  by_cases h1:WO e.tags[j] 0 255
  rotate_left
  ·have e0:BH e=false:=by unfold BH;rw[AzQ hjn h1];simp
   simp -implicitDefEqProofs [h1,e0]
  simp -implicitDefEqProofs [h1,hjn]
  refine Aa (hR _) ?_
  by_cases h5:A9 e.tags[j]=true
  ·have e0:BH e=false:=by unfold BH;rw[AaU hjn h5];simp
   simp -implicitDefEqProofs [h5,e0]
  have h5':A9 e.tags[j]=false:=by simpa using h5
  by_cases h0:j=0
  ·subst h0
   simp -implicitDefEqProofs [h1,h5']
   exact⟨k-1,by omega,1,by omega,by rw[AdG hjn,hp];simp[h1],by rw[hst,Aud],by simpa using hsq.trans h5',by simpa using hw⟩
  ·have hw2:IntKind.i64.wrap ((j:Int)-1)=((j-1:Nat):Int):=by rw[Ab (by omega) (by omega)];omega
   have h2:(0:Int)<j:=by omega
   have h2':0<j:=by omega
   have h3:j-1<e.tags.length:=by omega
   rw[AnI h0 hjn h3]at hst
   by_cases h4:e.tags[j-1]<e.tags[j]
   ·have h4':¬e.tags[j]≤e.tags[j-1]:=by omega
    simp -implicitDefEqProofs [h1,h5',h2,h2',hw2,h3,hjn,h4']
    exact⟨k-1,by omega,j+1,by omega,by rw[AdG hjn,hp];simp[h1],by rw[hst];simp[h4],by simpa using hsq.trans h5',by simp[hw]⟩
   ·have e0:BH e=false:=by unfold BH;rw[Akg hjn (by rw[AnI h0 hjn h3];simp[h4])];simp
    have h4':e.tags[j]≤e.tags[j-1]:=by omega
    simp -implicitDefEqProofs [h1,h5',h2,h2',hw2,h3,hjn,h4',e0]
 obtain rfl:j=e.tags.length:=by omega
 have et:Pm e.tags=true:=by unfold Pm;rw[hr,AuN (by omega) hp];rfl
 have er:e.tags.any A9=false:=any_none (by omega) hq
 simp -implicitDefEqProofs
 refine Af (fun k s=>∃j,j+k=e.path.length∧(e.path.take j).all Ji=true∧s=⟨[.undef,.ptr 0 0,.undef,.undef,I j,.undef,.undef,.undef,.undef],[.var ((Ag e).map (Be 1))]⟩) ?_ (e.path.length) _ ⟨0,by simp,by simp,by simp⟩
 intro k s ⟨j,hj,hb,hs⟩
 subst hs
 by_cases hjn:j<e.path.length
 ·have hw:IntKind.i64.wrap ((j:Int)+1)=(j+1:Nat):=by rw[Ab (by omega) (by omega)];simp
  have hst:=Aod (p:=Ji) hjn
  rw[hb,Bool.true_and]at hst
  simp -implicitDefEqProofs [hjn]
  refine Aa (hX _ (hl3.2 j hjn)) ?_
  by_cases h1:Ji e.path[j]=true
  ·simp -implicitDefEqProofs [h1]
   exact⟨k-1,by omega,j+1,by omega,by simpa using hst.trans h1,by simp[hw]⟩
  ·have e0:BH e=false:=by unfold BH;rw[Af1 hjn (by simpa using h1)];simp
   simp -implicitDefEqProofs [h1,e0]
 have eb:e.path.all Ji=true:=by rw[←AvT (j:=j) (by omega),hb]
 simp -implicitDefEqProofs [hjn]
 refine Aa (hA _ hl1) ?_
 by_cases g1:Bt e.versions=true
 rotate_left
 ·simp -implicitDefEqProofs [g1,BH]
 by_cases g2:e.tags.length≤5
 rotate_left
 ·have g2':¬(e.tags.length:Int)≤5:=by omega
  simp -implicitDefEqProofs [g1,g2,g2',BH]
 have g2':(e.tags.length:Int)≤5:=by omega
 by_cases g3:e.path.length≤4
 rotate_left
 ·have g3':¬(e.path.length:Int)≤4:=by omega
  simp -implicitDefEqProofs [g1,g2,g2',g3,g3',BH]
 have g3':(e.path.length:Int)≤4:=by omega
 simp -implicitDefEqProofs [g1,g2',g3']
 refine Aa (hI _ _ _) ?_
 have ee:BH e=decide (WO e.cls 0 5):=by unfold BH;rw[et,er,eb];simp[g1,g2,g3]
 simp -implicitDefEqProofs [ee]
abbrev TM (R:Rel):Prop:=∀b:H9,JG b→R [arg (CW b)] [] (B (!Ji b)) []
theorem Ati (D:Dn) (hX:Tx (D Aav)):TM (Body D Nz):=by
 intro b hb
 simp -implicitDefEqProofs
 refine Aa (hX b hb) ?_
 simp -implicitDefEqProofs
theorem ADH {α:Type} (p:α→Bool) (xs:List α):(xs.any fun x=> !p x)= !xs.all p:=by rw[List.all_eq_not_any_not];simp
theorem Ar6 (D:Dn) (hA:Co (D Gb)) (hT:Ag6 (D ArF)) (hH:Ru (D X8)) (h1:TM (D Uu)) (hC:Mg D (D Kl)) (hI:TF (D BP)):Iq (Body D QM):=by
 intro e hl
 obtain⟨hl1,hl2,hl3⟩:=hl
 simp -implicitDefEqProofs
 refine Aa (hA _ hl1) ?_
 by_cases g1:Bt e.versions=true
 rotate_left
 ·simp -implicitDefEqProofs [g1,BH]
 by_cases g2:e.tags.length≤5
 rotate_left
 ·have g2':¬(e.tags.length:Int)≤5:=by omega
  simp -implicitDefEqProofs [g1,g2,g2',BH]
 have g2':(e.tags.length:Int)≤5:=by omega
 simp -implicitDefEqProofs [g1,g2']
 refine Aa (hT _ hl2) ?_
 by_cases g4:Pm e.tags=true
 rotate_left
 ·simp -implicitDefEqProofs [g4,BH]
 simp -implicitDefEqProofs [g4]
 refine Aa (hH _ hl2) ?_
 by_cases g5:e.tags.any A9=true
 ·have e0:BH e=false:=by unfold BH;rw[g5];simp
  generalize e.tags.any A9=q at g5
  subst g5
  simp -implicitDefEqProofs [e0]
 have g5':e.tags.any A9=false:=by simpa using g5
 have ee:BH e=(decide (e.path.length≤4)&&(e.path.all Ji&&decide (WO e.cls 0 5))):=by unfold BH;rw[g5',g1,g4];simp[g2]
 rw[ee]
 generalize e.tags.any A9=q at g5'
 subst g5'
 by_cases g3:e.path.length≤4
 rotate_left
 ·have g3':¬(e.path.length:Int)≤4:=by omega
  simp -implicitDefEqProofs [g3,g3']
 have g3':(e.path.length:Int)≤4:=by omega
 simp -implicitDefEqProofs [g3,g3']
 refine Aa (hC e.path Uu [] (fun b=> !Ji b) hl3.1 I7 (fun j hj=>h1 e.path[j] (hl3.2 j hj))) ?_
 rw[ADH]
 generalize e.path.all Ji=q
 by_cases g6:q=true
 rotate_left
 ·simp -implicitDefEqProofs [g6]
 simp -implicitDefEqProofs [g6]
 refine Aa (hI _ _ _) ?_
 simp -implicitDefEqProofs
theorem AMZ {b:H9} (h:BD b≤4194304):JG b:=by
 unfold BD at h
 exact⟨by unfold KN maxLen;omega,by unfold KN maxLen;omega⟩
theorem AK5 {p:List H9} (h:AP BD p≤4194304):lnS JG p:=
 ⟨by have:=FL (f:=BD) (xs:=p);unfold maxLen;omega,fun j hj=>AMZ (by have:=size_at (f:=BD) hj;omega)⟩
theorem Axr {e:Az} (h:Ad e≤4194304):Ke e:=by
 unfold Ad at h
 exact⟨by unfold KN maxLen;omega,by unfold KN maxLen;omega,AK5 (by omega)⟩
theorem Auk {w:World} (h:Ai w≤4194304) {n:Nat} (hn:n<w.ends.length):Ad w.ends[n]≤4194304:=by
 have:=size_at (f:=Ad) hn
 have:=(QS h).2.2.1
 omega
theorem Ajb {e:Az} (h:Ad e≤4194304):e.versions.length≤4194304:=by unfold Ad at h;omega
theorem AAr (path:List H9) (vs:List Int):(BS path vs).length≤vs.length:=by
 unfold BS
 split
 ·exact List.length_filter_le _ _
 ·simp
end Go.Eng.T
namespace Go.Eng.T
set_option maxRecDepth 20000
set_option maxHeartbeats 2000000
abbrev Om (D:Dn) (R:Rel):Prop:=∀(xs:List (List Int)) (g:Nat) (caps:List V) (p:List Int→Bool),xs.length≤maxLen→PU caps→(∀(j:Nat) (h:j<xs.length),D g (.sl 1 1 xs[j].length (ints xs[j])::caps) [] (B (p xs[j])) [])→R [Jb xs,.fn g caps] [] (I (JS p xs 0)) []
theorem AlB (D:Dn):Om D (Body D F4):=by
 intro xs g caps p hl hc hp
 unfold maxLen at hl
 simp -implicitDefEqProofs
 refine Af (fun k s=>∃j,j+k=xs.length∧JS p xs 0=JS p (xs.drop j) j∧s=⟨[Jb xs,.fn g caps,.undef,.undef,I xs.length,I j,.undef,.undef],[]⟩) ?_ (xs.length) _ ⟨0,by simp,by simp,by simp⟩
 intro k s ⟨j,hj,hi,hs⟩
 subst hs
 by_cases hjn:j<xs.length
 ·have hw:IntKind.i64.wrap ((j:Int)+1)=(j+1:Nat):=by rw[Ab (by omega) (by omega)];simp
  rw[XL hjn]at hi
  simp -implicitDefEqProofs [hjn,hc.1,hc.2.1]
  refine Aa (hp j hjn) ?_
  by_cases he:p xs[j]=true
  ·rw[if_pos he]at hi
   simp -implicitDefEqProofs [he,hi]
  ·rw[if_neg he]at hi
   simp -implicitDefEqProofs [he]
   exact⟨k-1,by omega,j+1,by omega,by simpa using hi,by simp[hw]⟩
 ·rw[Aau (by omega)]at hi
  simp -implicitDefEqProofs [hjn,hi]
abbrev KT (D:Dn) (R:Rel):Prop:=∀(xs:List (List Int)) (g:Nat) (caps:List V) (p:List Int→Bool),xs.length≤maxLen→PU caps→(∀(j:Nat) (h:j<xs.length),D g (.sl 1 1 xs[j].length (ints xs[j])::caps) [] (B (p xs[j])) [])→R [Jb xs,.fn g caps] [] (B (xs.any p)) []
theorem AdK (D:Dn) (hI:Om D (D Pd)):KT D (Body D Fb):=by
 intro xs g caps p hl hc hp
 simp -implicitDefEqProofs [hc.2.2]
 refine Aa (hI xs g caps p hl hc hp) ?_
 have e:decide (0≤JS p xs 0)=xs.any p:=by rw[Bool.eq_iff_iff];simp only[decide_eq_true_eq];rw[Zt (by omega)]
 simp -implicitDefEqProofs [e]
def reach (s l:List Int):Bool:= !decide (BZ s l=0)
def AOW (s:List Int) (ls:List (List Int)):Bool:=Bt s&&ls.all (reach s)
abbrev APC (R:Rel):Prop:=∀(s:List Int) (ls:List (List Int)),s.length≤4194304→I4 ls≤4194304→R [.sl 1 1 s.length (ints s),Jb ls] [] (B (AOW s ls)) []
theorem AUB (D:Dn) (hB:EU (D Mf)) (hA:Co (D F8)):APC (Body D AQm):=by
 intro sv ls hs hl
 have hll:=JL (xs:=ls)
 simp -implicitDefEqProofs
 refine Af (fun k s=>∃j,j+k=ls.length∧(ls.take j).all (reach sv)=true∧s=⟨[.sl 1 1 sv.length (ints sv),Jb ls,.undef,I j,.undef,.undef],[]⟩) ?_ (ls.length) _ ⟨0,by simp,by simp,by simp⟩
 intro k s ⟨j,hj,hp,hs⟩
 subst hs
 by_cases hjn:j<ls.length
 ·have hw:IntKind.i64.wrap ((j:Int)+1)=(j+1:Nat):=by rw[Ab (by omega) (by omega)];simp
  have hst:=Aod (p:=reach sv) hjn
  rw[hp,Bool.true_and]at hst
  have hra:=V8 hjn
  simp -implicitDefEqProofs [hjn]
  refine Aa (hB sv _ hs (by omega)) ?_
  by_cases h1:BZ sv ls[j]=0
  ·have e:AOW sv ls=false:=by unfold AOW;rw[Af1 hjn (by simp[reach,h1])];simp
   simp -implicitDefEqProofs [h1,e,AEL]
  ·simp -implicitDefEqProofs [h1,AEL]
   exact⟨k-1,by omega,j+1,by omega,by simpa using hst.trans (show reach sv ls[j]=true by simp[reach,h1]),by simp[hw]⟩
 ·have e:AOW sv ls=Bt sv:=by unfold AOW;rw[←AvT (j:=j) (by omega),hp];simp
  simp -implicitDefEqProofs [hjn]
  refine Aa (hA sv (by unfold maxLen;omega)) ?_
  simp -implicitDefEqProofs [e]
abbrev AQI (R:Rel):Prop:=∀(s l:List Int),s.length≤4194304→l.length≤4194304→R [.sl 1 1 l.length (ints l),.rptr 1 [.sl 0 1 s.length (ints s)] 0] [] (B (!reach s l)) []
theorem AUs (D:Dn) (hB:EU (D LX)):AQI (Body D APQ):=by
 intro s l hs hl
 simp -implicitDefEqProofs
 refine Aa (hB s l hs hl) ?_
 simp -implicitDefEqProofs [reach,AEL]
theorem AUl (D:Dn) (hA:Co (D Gb)) (h1':AQI (D AEx)) (hC:KT D (D MP)):APC (Body D AQp):=by
 intro s ls hs hl
 have hll:=JL (xs:=ls)
 simp -implicitDefEqProofs
 refine Aa (hA s (by unfold maxLen;omega)) ?_
 by_cases h1:Bt s=true
 rotate_left
 ·simp -implicitDefEqProofs [h1,AOW]
 simp -implicitDefEqProofs [h1]
 refine Aa (hC ls AEx _ (fun l=> !reach s l) (by unfold maxLen;omega) (Ap8 I7) (fun j hj=>h1' s ls[j] hs (by have:=V8 hj;omega))) ?_
 rw[ADH]
 generalize hq:ls.all (reach s)=q
 simp -implicitDefEqProofs [AOW,h1,hq]
def Yk (k:Int):Bool:=decide (WO k 1 2147483646)
abbrev NN (R:Rel):Prop:=∀k:Int,R [I k] [] (B (Yk k)) []
theorem Ayn (D:Dn) (hI:TF (D Cw)):NN (Body D Qx):=by
 intro k
 simp -implicitDefEqProofs
 refine Aa (hI _ _ _) ?_
 simp -implicitDefEqProofs [Yk]
theorem AAc (D:Dn) (hI:TF (D BP)):NN (Body D QR):=by
 intro k
 simp -implicitDefEqProofs
 refine Aa (hI _ _ _) ?_
 simp -implicitDefEqProofs [Yk]
def APc (w:World):Bool:=AOW w.server (Ka w)&&(Pm w.tags&&Yk w.key)
def AOM (w:World):Bool:=BF w.rollout&&(decide (w.rollout.version∈w.server)&&(decide (WO w.least 1 100)&&decide (WO w.percent 0 100)))
def AIX (w:World):Bool:=decide (w.stage.length≤60)&&(decide (w.log.length≤60)&&(decide (WO w.now 0 10000)&&(decide (WO w.hurt 0 w.log.length)&&decide (WO w.reached 0 w.rollout.stages.length))))
def Arw (w:World):Bool:=APc w&&(decide (w.ends.length≤6)&&(w.ends.all BH&&(AOM w&&AIX w)))
abbrev AP4 (R:Rel):Prop:=∀w:World,Ai w≤4194304→R [arg (Cc w)] [] (B (Arw w)) []
abbrev ARh (R:Rel):Prop:=∀e:Az,Ad e≤4194304→R [arg (Ag e)] [] (B (!BH e)) []
theorem AUQ (D:Dn) (hE:Iq (D Xv)):ARh (Body D AQc):=by
 intro e h
 simp -implicitDefEqProofs
 refine Aa (hE e (Axr h)) ?_
 simp -implicitDefEqProofs
theorem AUW (D:Dn) (hL:Rs (D Atc)) (hA:APC (D AGO)) (hT:Ag6 (D ArF)) (hK:NN (D Aid)) (h1':ARh (D AGh)) (hC:AOY D (D Ul)) (hR:EP (D Ky)) (hH:PN (D Bb)) (hI:TF (D BP)):AP4 (Body D AQE):=by
 intro w hsz
 have hs:=QS hsz
 have he:=DU hsz
 simp -implicitDefEqProofs
 refine Aa (hL w hsz) ?_
 simp -implicitDefEqProofs
 refine Aa (hA w.server (Ka w) hs.1 (Ayp hsz)) ?_
 by_cases a1:AOW w.server (Ka w)=true
 rotate_left
 ·simp -implicitDefEqProofs [a1,Arw,APc]
 simp -implicitDefEqProofs [a1]
 refine Aa (hT w.tags (by unfold maxLen;omega)) ?_
 by_cases a2:Pm w.tags=true
 rotate_left
 ·simp -implicitDefEqProofs [a2,Arw,APc]
 simp -implicitDefEqProofs [a2]
 refine Aa (hK w.key) ?_
 by_cases a3:Yk w.key=true
 rotate_left
 ·simp -implicitDefEqProofs [a3,Arw,APc]
 by_cases e1:w.ends.length≤6
 rotate_left
 ·have e1':(6:Int)<w.ends.length:=by omega
  simp -implicitDefEqProofs [a3,e1',e1,Arw]
 have e1':¬(6:Int)<w.ends.length:=by omega
 simp -implicitDefEqProofs [a3,e1']
 refine Aa (hC w.ends AGh [] (fun e=> !BH e) (by unfold maxLen;omega) I7 (fun j hj=>h1' w.ends[j] (Auk hsz hj))) ?_
 rw[ADH]
 generalize hq:w.ends.all BH=q
 by_cases e2:q=true
 rotate_left
 ·have e:Arw w=false:=by unfold Arw;rw[hq];simp[e2]
  simp -implicitDefEqProofs [e2,e]
 have hq':=hq.trans e2
 simp -implicitDefEqProofs [e2]
 refine Aa (hR w.rollout (P5 hsz)) ?_
 by_cases b1:BF w.rollout=true
 rotate_left
 ·simp -implicitDefEqProofs [b1,Arw,AOM]
 simp -implicitDefEqProofs [b1]
 refine Aa (hH w.server _ (by unfold maxLen;omega)) ?_
 by_cases b2:w.rollout.version∈w.server
 rotate_left
 ·simp -implicitDefEqProofs [b2,Arw,AOM]
 simp -implicitDefEqProofs [b2]
 refine Aa (hI _ _ _) ?_
 by_cases b3:WO w.least 1 100
 rotate_left
 ·simp -implicitDefEqProofs [b3,Arw,AOM]
 simp -implicitDefEqProofs [b3]
 refine Aa (hI _ _ _) ?_
 by_cases b4:WO w.percent 0 100
 rotate_left
 ·simp -implicitDefEqProofs [b4,Arw,AOM]
 by_cases c1:w.stage.length≤60
 rotate_left
 ·have c1':¬(w.stage.length:Int)≤60:=by omega
  simp -implicitDefEqProofs [b4,c1',c1,Arw,AIX]
 have c1':(w.stage.length:Int)≤60:=by omega
 by_cases c2:w.log.length≤60
 rotate_left
 ·have c2':¬(w.log.length:Int)≤60:=by omega
  simp -implicitDefEqProofs [b4,c1',c2',c2,Arw,AIX]
 have c2':(w.log.length:Int)≤60:=by omega
 simp -implicitDefEqProofs [b4,c1',c2']
 refine Aa (hI _ _ _) ?_
 by_cases c3:WO w.now 0 10000
 rotate_left
 ·simp -implicitDefEqProofs [b4,c1',c2',c3,Arw,AIX]
 simp -implicitDefEqProofs [b4,c1',c2',c3]
 refine Aa (hI _ _ _) ?_
 by_cases c4:WO w.hurt 0 w.log.length
 rotate_left
 ·simp -implicitDefEqProofs [b4,c1',c2',c3,c4,Arw,AIX]
 simp -implicitDefEqProofs [b4,c1',c2',c3,c4]
 refine Aa (hI _ _ _) ?_
 have ec:AIX w=decide (WO w.reached 0 w.rollout.stages.length):=by unfold AIX;simp[c1,c2,c3,c4]
 have ee:Arw w=AIX w:=by unfold Arw APc AOM;rw[hq'];simp[a1,a2,a3,e1,b1,b2,b3,b4]
 simp -implicitDefEqProofs [ee,ec]
theorem AUS (D:Dn) (hE:Iq (D X6)) (hV:Co (D F8)) (hT:Ag6 (D AJv)) (hK:NN (D AjH)) (hR:EP (D Kr)) (hH:PN (D Jj)) (hL:Rs (D Ar7)) (hA:APC (D AHY)) (hI:TF (D Cw)):AP4 (Body D AQC):=by
 intro w hsz
 have hs:=QS hsz
 have he:=DU hsz
 simp -implicitDefEqProofs
 refine Af (fun k s=>∃j,j+k=w.ends.length∧(w.ends.take j).all BH=true∧s=⟨[.undef,.ptr 0 0,.undef,I j,.undef,.undef,.undef],[.var ((Cc w).map (Be 1)),.free]⟩) ?_ (w.ends.length) _ ⟨0,by simp,by simp,by simp⟩
 intro k s ⟨j,hj,hp,hs⟩
 subst hs
 by_cases hjn:j<w.ends.length
 ·have hw:IntKind.i64.wrap ((j:Int)+1)=(j+1:Nat):=by rw[Ab (by omega) (by omega)];simp
  have hst:=Aod (p:=BH) hjn
  rw[hp,Bool.true_and]at hst
  simp -implicitDefEqProofs [hjn]
  refine Aa (hE w.ends[j] (Axr (Auk hsz hjn))) ?_
  by_cases h1:BH w.ends[j]=true
  ·simp -implicitDefEqProofs [h1]
   exact⟨k-1,by omega,j+1,by omega,by simpa using hst.trans h1,by simp[hw]⟩
  ·have e:Arw w=false:=by unfold Arw;rw[Af1 hjn (by simpa using h1)];simp
   simp -implicitDefEqProofs [h1,e]
 have hq':w.ends.all BH=true:=by rw[←AvT (j:=j) (by omega),hp]
 simp -implicitDefEqProofs [hjn]
 refine Aa (hV w.server (by unfold maxLen;omega)) ?_
 by_cases v1:Bt w.server=true
 rotate_left
 ·simp -implicitDefEqProofs [v1,Arw,APc,AOW]
 simp -implicitDefEqProofs [v1]
 refine Aa (hT w.tags (by unfold maxLen;omega)) ?_
 by_cases a2:Pm w.tags=true
 rotate_left
 ·simp -implicitDefEqProofs [a2,Arw,APc]
 simp -implicitDefEqProofs [a2]
 refine Aa (hK w.key) ?_
 by_cases a3:Yk w.key=true
 rotate_left
 ·simp -implicitDefEqProofs [a3,Arw,APc]
 by_cases e1:w.ends.length≤6
 rotate_left
 ·have e1':(6:Int)<w.ends.length:=by omega
  simp -implicitDefEqProofs [a3,e1',e1,Arw]
 have e1':¬(6:Int)<w.ends.length:=by omega
 simp -implicitDefEqProofs [a3,e1']
 refine Aa (hR w.rollout (P5 hsz)) ?_
 by_cases b1:BF w.rollout=true
 rotate_left
 ·simp -implicitDefEqProofs [b1,Arw,AOM]
 simp -implicitDefEqProofs [b1]
 refine Aa (hH w.server _ (by unfold maxLen;omega)) ?_
 by_cases b2:w.rollout.version∈w.server
 rotate_left
 ·simp -implicitDefEqProofs [b2,Arw,AOM]
 simp -implicitDefEqProofs [b2]
 refine Aa (hL w hsz) ?_
 simp -implicitDefEqProofs [b2]
 refine Aa (hA w.server (Ka w) hs.1 (Ayp hsz)) ?_
 by_cases a1:AOW w.server (Ka w)=true
 rotate_left
 ·simp -implicitDefEqProofs [a1,Arw,APc]
 simp -implicitDefEqProofs [a1]
 refine Aa (hI _ _ _) ?_
 by_cases b3:WO w.least 1 100
 rotate_left
 ·simp -implicitDefEqProofs [b3,Arw,AOM]
 simp -implicitDefEqProofs [b3]
 refine Aa (hI _ _ _) ?_
 by_cases b4:WO w.percent 0 100
 rotate_left
 ·simp -implicitDefEqProofs [b4,Arw,AOM]
 by_cases c1:w.stage.length≤60
 rotate_left
 ·have c1':¬(w.stage.length:Int)≤60:=by omega
  simp -implicitDefEqProofs [b4,c1',c1,Arw,AIX]
 have c1':(w.stage.length:Int)≤60:=by omega
 by_cases c2:w.log.length≤60
 rotate_left
 ·have c2':¬(w.log.length:Int)≤60:=by omega
  simp -implicitDefEqProofs [b4,c1',c2',c2,Arw,AIX]
 have c2':(w.log.length:Int)≤60:=by omega
 simp -implicitDefEqProofs [b4,c1',c2']
 refine Aa (hI _ _ _) ?_
 by_cases c3:WO w.now 0 10000
 rotate_left
 ·simp -implicitDefEqProofs [b4,c1',c2',c3,Arw,AIX]
 simp -implicitDefEqProofs [b4,c1',c2',c3]
 refine Aa (hI _ _ _) ?_
 by_cases c4:WO w.hurt 0 w.log.length
 rotate_left
 ·simp -implicitDefEqProofs [b4,c1',c2',c3,c4,Arw,AIX]
 simp -implicitDefEqProofs [b4,c1',c2',c3,c4]
 refine Aa (hI _ _ _) ?_
 have ec:AIX w=decide (WO w.reached 0 w.rollout.stages.length):=by unfold AIX;simp[c1,c2,c3,c4]
 have ee:Arw w=AIX w:=by unfold Arw APc AOM;rw[hq'];simp[a1,a2,a3,e1,b1,b2,b3,b4]
 simp -implicitDefEqProofs [ee,ec]
def AR5:World:=⟨[],[],0,[],⟨0,[],0,false⟩,0,0,[],[],0,0,0⟩
def AM8 (s t:List Int) (es:List Az) (r:Cr):World:=⟨s,t,77,es,r,4,25,[],[],0,0,0⟩
def AP8 (s t:List Int) (es:List Az) (r:Cr):World×Bool:=if Arw (AM8 s t es r)=true then(AM8 s t es r,true)else(AR5,false)
abbrev ARg (R:Rel):Prop:=∀(s t:List Int) (es:List Az) (r:Cr),Ai (AM8 s t es r)≤4194304→R [.sl 1 1 s.length (ints s),.sl 1 1 t.length (ints t),.sl 1 4 es.length (es.flatMap Ag),arg (Gg r)] [] (.tup [.agg (Cc (AP8 s t es r).1),B (AP8 s t es r).2]) []
theorem AV2 (s t:List Int) (es:List Az) (r:Cr):Ai (AM8 s t es r)=s.length+t.length+AP Ad es+AU r:=by
 simp[Ai,AM8,AP]
theorem AUi (D:Dn) (hC:CV (D EB)) (hW:AP4 (D AJg)):ARg (Body D AQr):=by
 intro s t es r hsz
 simp -implicitDefEqProofs
 refine Aa (hC (AM8 s t es r) hsz) ?_
 simp -implicitDefEqProofs [AM8]
 refine Aa (hW (AM8 s t es r) hsz) ?_
 generalize hq:Arw (AM8 s t es r)=q
 by_cases h1:q=true
 ·have e:AP8 s t es r=(AM8 s t es r,true):=by unfold AP8;rw[if_pos (hq.trans h1)]
  simp -implicitDefEqProofs [h1,e,AM8]
 ·have e:AP8 s t es r=(AR5,false):=by unfold AP8;rw[if_neg (by rw[hq];exact h1)]
  simp -implicitDefEqProofs [h1,e,AR5]
end Go.Eng.T
namespace Go.Eng.T
set_option maxRecDepth 20000
set_option maxHeartbeats 1000000
def XR (p q:Int):Int:=if PL q 1 1000000000000 then(p.tmod q+q).tmod q else 0
abbrev AsZ (R:Rel):Prop:=∀p q:Int,R [I p,I q] [] (I (XR p q)) []
theorem Aw1 (p:Int) {q:Int} (h:1≤q):-q<p.tmod q∧p.tmod q<q:=by
 have h1:=Int.tmod_lt_of_pos p (show 0<q by omega)
 have h2:=Int.lt_tmod_of_pos p (show 0<q by omega)
 omega
theorem AMI (D:Dn) (hI:TF (D Cw)):AsZ (Body D Ah8):=by
 intro p q
 simp -implicitDefEqProofs
 refine Aa (hI _ _ _) ?_
 by_cases h:PL q 1 1000000000000
 rotate_left
 ·simp -implicitDefEqProofs [h,XR]
 have h0:¬q=0:=by omega
 have hb:=Aw1 p (q:=q) (by omega)
 have hw:IntKind.i64.wrap (p.tmod q+q)=p.tmod q+q:=Ab (by omega) (by omega)
 have e:XR p q=(p.tmod q+q).tmod q:=by unfold XR;rw[if_pos h]
 simp -implicitDefEqProofs [h,h0,hw,e]
theorem AM5 (D:Dn) (hI:TF (D BP)):AsZ (Body D Ais):=by
 intro p q
 simp -implicitDefEqProofs
 refine Aa (hI _ _ _) ?_
 by_cases h:PL q 1 1000000000000
 rotate_left
 ·simp -implicitDefEqProofs [h,XR]
 have h0:¬q=0:=by omega
 have hb:=Aw1 p (q:=q) (by omega)
 have hw:IntKind.i64.wrap (p.tmod q+q)=p.tmod q+q:=Ab (by omega) (by omega)
 have e:XR p q=(p.tmod q+q).tmod q:=by unfold XR;rw[if_pos h]
 simp -implicitDefEqProofs [h,h0,hw,e]
theorem AnL (p:Int) {q:Int} (h:PL q 1 1000000000000):0≤XR p q∧XR p q<q:=by
 unfold XR
 rw[if_pos h]
 have hb:=Aw1 p (q:=q) (by omega)
 have h1:=Int.tmod_nonneg q (show 0≤p.tmod q+q by omega)
 have h2:=Int.tmod_lt_of_pos (p.tmod q+q) (show 0<q by omega)
 exact⟨h1,h2⟩
def Si (s v:Int):Int:=(s*1000003+XR v 2147483647+13).tmod 2147483647
def hash (xs:List Int):Int:=xs.foldl Si 11
abbrev ZF (R:Rel):Prop:=∀xs:List Int,xs.length≤maxLen→R [.sl 1 1 xs.length (ints xs)] [] (I (hash xs)) []
theorem AFH {s v:Int} (h:0≤s):0≤Si s v∧Si s v<2147483647:=by
 have hm:=AnL v (q:=2147483647) ⟨by omega,by omega⟩
 unfold Si
 exact⟨Int.tmod_nonneg _ (by omega),Int.tmod_lt_of_pos _ (by omega)⟩
theorem Auz {α:Type} {f:α→Int→α} {xs:List Int} {j:Nat} {a:α} (h:j<xs.length):(xs.take (j+1)).foldl f a=f ((xs.take j).foldl f a) xs[j]:=by
 have e:xs.take (j+1)=xs.take j++ [xs[j]]:=by simp
 rw[e,List.foldl_append];rfl
theorem Av6:∀(xs:List Int) {a:Int},0≤a→a<2147483647→0≤xs.foldl Si a∧xs.foldl Si a<2147483647
 | [],a,h1,h2=>⟨h1,h2⟩
 | x::xs,a,h1,h2=>by
  have:=AFH (s:=a) (v:=x) h1
  exact Av6 xs this.1 this.2
theorem AKL (D:Dn) (hM:AsZ (D At5)):ZF (Body D AdZ):=by
 intro xs hl
 unfold maxLen at hl
 simp -implicitDefEqProofs
 refine Af (fun k s=>∃j,j+k=xs.length∧s=⟨[.sl 1 1 xs.length (ints xs),.undef,I ((xs.take j).foldl Si 11),I j,.undef],[]⟩) ?_ (xs.length) _ ⟨0,by simp,by simp⟩
 intro k s ⟨j,hj,hs⟩
 subst hs
 by_cases hjn:j<xs.length
 ·have hw:IntKind.i64.wrap ((j:Int)+1)=(j+1:Nat):=by rw[Ab (by omega) (by omega)];simp
  have hst:=Auz (f:=Si) (a:=(11:Int)) hjn
  have hb:=Av6 (xs.take j) (a:=11) (by omega) (by omega)
  generalize(xs.take j).foldl Si 11=s at hst hb
  have hm:=AnL xs[j] (q:=2147483647) ⟨by omega,by omega⟩
  have w1:IntKind.i64.wrap (s*1000003)=s*1000003:=Ab (by omega) (by omega)
  have w2:IntKind.i64.wrap (s*1000003+XR xs[j] 2147483647)=s*1000003+XR xs[j] 2147483647:=Ab (by omega) (by omega)
  have w3:IntKind.i64.wrap (s*1000003+XR xs[j] 2147483647+13)=s*1000003+XR xs[j] 2147483647+13:=Ab (by omega) (by omega)
  simp -implicitDefEqProofs [hjn,w1]
  refine Aa (hM _ _) ?_
  simp -implicitDefEqProofs [w1,w2,w3]
  exact⟨k-1,by omega,j+1,by omega,by rw[hst];rfl,by simp[hw]⟩
 ·have e:xs.take j=xs:=List.take_of_length_le (by omega)
  simp -implicitDefEqProofs [hjn,e,hash]
theorem AK4 (D:Dn) (hM:AsZ (D AuO)):ZF (Body D AdB):=by
 intro xs hl
 unfold maxLen at hl
 simp -implicitDefEqProofs
 refine Af (fun k s=>∃j,j+k=xs.length∧s=⟨[.undef,.undef,I ((xs.take j).foldl Si 11),.undef,.sl 1 1 xs.length (ints xs),I xs.length,I j,.undef],[]⟩) ?_ (xs.length) _ ⟨0,by simp,by simp⟩
 intro k s ⟨j,hj,hs⟩
 subst hs
 by_cases hjn:j<xs.length
 ·have hw:IntKind.i64.wrap ((j:Int)+1)=(j+1:Nat):=by rw[Ab (by omega) (by omega)];simp
  have hst:=Auz (f:=Si) (a:=(11:Int)) hjn
  have hb:=Av6 (xs.take j) (a:=11) (by omega) (by omega)
  generalize(xs.take j).foldl Si 11=s at hst hb
  have hm:=AnL xs[j] (q:=2147483647) ⟨by omega,by omega⟩
  have w1:IntKind.i64.wrap (s*1000003)=s*1000003:=Ab (by omega) (by omega)
  have w2:IntKind.i64.wrap (s*1000003+XR xs[j] 2147483647)=s*1000003+XR xs[j] 2147483647:=Ab (by omega) (by omega)
  have w3:IntKind.i64.wrap (s*1000003+XR xs[j] 2147483647+13)=s*1000003+XR xs[j] 2147483647+13:=Ab (by omega) (by omega)
  simp -implicitDefEqProofs [hjn,w1]
  refine Aa (hM _ _) ?_
  simp -implicitDefEqProofs [w1,w2,w3]
  exact⟨k-1,by omega,j+1,by omega,by rw[hst];rfl,by simp[hw]⟩
 ·have e:xs.take j=xs:=List.take_of_length_le (by omega)
  simp -implicitDefEqProofs [hjn,e,hash]
def keyed (k:Int) (xs:List Int):Int:=hash (k::xs++ [k])
abbrev Aa5 (R:Rel):Prop:=∀(k:Int) (xs:List Int),xs.length≤4194304→R [I k,.sl 1 1 xs.length (ints xs)] [] (I (keyed k xs)) []
theorem QL (a:Int) (xs:List Int):V.sc (.int .i64 a)::ints xs=ints (a::xs):=rfl
theorem AIw (D:Dn) (hH:ZF (D Adf)):Aa5 (Body D Tg):=by
 intro k xs hl
 have b1:(1+xs.length)*8≤1099511627776:=by omega
 have b2:(1+xs.length+1)*8≤1099511627776:=by omega
 have hlen:(k::xs++ [k]).length=1+xs.length+1:=by simp;omega
 simp -implicitDefEqProofs [b1,b2]
 have hh:=hH (k::xs++ [k]) (by unfold maxLen;omega)
 rw[hlen]at hh
 simp -implicitDefEqProofs [QL]at hh
 simp -implicitDefEqProofs [QL]
 refine Aa (hh) ?_
 simp -implicitDefEqProofs [keyed]
def pick (seed p n:Int):Int:=if n<1 then 0 else XR (hash [seed,p]) n
abbrev Ac5 (R:Rel):Prop:=∀seed p n:Int,R [I seed,I p,I n] [] (I (pick seed p n)) []
theorem ALo (D:Dn) (hH:ZF (D Adf)) (hM:AsZ (D At5)):Ac5 (Body D ZB):=by
 intro seed p n
 by_cases h:n<1
 ·simp -implicitDefEqProofs [h,pick]
 simp -implicitDefEqProofs [h]
 refine Aa (hH [seed,p] (by unfold maxLen;simp)) ?_
 simp -implicitDefEqProofs
 refine Aa (hM _ _) ?_
 simp -implicitDefEqProofs [pick,h]
theorem ALj (D:Dn) (hH:ZF (D AdC)) (hM:AsZ (D AuO)):Ac5 (Body D Yr):=by
 intro seed p n
 by_cases h:n<1
 ·simp -implicitDefEqProofs [h,pick]
 simp -implicitDefEqProofs [h]
 refine Aa (hH [seed,p] (by unfold maxLen;simp)) ?_
 simp -implicitDefEqProofs
 refine Aa (hM _ _) ?_
 simp -implicitDefEqProofs [pick,h]
theorem V4 (seed p:Int) {n:Int} (h:PL n 1 1000000000000):0≤pick seed p n∧pick seed p n<n:=by
 unfold pick
 rw[if_neg (by omega)]
 exact AnL _ h
def Qf (seed:Int):Int:=16*pick seed 0 16+10
abbrev Ld (R:Rel):Prop:=∀seed:Int,R [I seed] [] (I (Qf seed)) []
theorem AwZ (D:Dn) (hP:Ac5 (D Ahy)):Ld (Body D RN):=by
 intro seed
 simp -implicitDefEqProofs
 refine Aa (hP _ _ _) ?_
 have hb:=V4 seed 0 (n:=16) ⟨by omega,by omega⟩
 have w1:IntKind.i64.wrap (16*pick seed 0 16)=16*pick seed 0 16:=Ab (by omega) (by omega)
 have w2:IntKind.i64.wrap (16*pick seed 0 16+10)=16*pick seed 0 16+10:=Ab (by omega) (by omega)
 simp -implicitDefEqProofs [w1,w2,Qf]
theorem Awr (D:Dn) (hP:Ac5 (D Afe)):Ld (Body D R7):=by
 intro seed
 simp -implicitDefEqProofs
 refine Aa (hP _ _ _) ?_
 have hb:=V4 seed 0 (n:=16) ⟨by omega,by omega⟩
 have w1:IntKind.i64.wrap (16*pick seed 0 16)=16*pick seed 0 16:=Ab (by omega) (by omega)
 have w2:IntKind.i64.wrap (16*pick seed 0 16+10)=16*pick seed 0 16+10:=Ab (by omega) (by omega)
 simp -implicitDefEqProofs [w1,w2,Qf]
def LZ (ls:List (List Int)):Bool:=decide (ls.length≤12)&&ls.all fun l=>allIn l 0 255
abbrev M6 (R:Rel):Prop:=∀ls:List (List Int),I4 ls≤4194304→R [Jb ls] [] (B (LZ ls)) []
theorem ACX (D:Dn) (hB:AbL (D YH)):M6 (Body D NG):=by
 intro ls hl
 have hll:=JL (xs:=ls)
 simp -implicitDefEqProofs
 refine Af (fun k s=>∃j,j+k=ls.length∧(ls.take j).all (fun l=>allIn l 0 255)=true∧s=⟨[Jb ls,.undef,I j,.undef,.undef],[]⟩) ?_ (ls.length) _ ⟨0,by simp,by simp,by simp⟩
 intro k s ⟨j,hj,hp,hs⟩
 subst hs
 by_cases hjn:j<ls.length
 ·have hw:IntKind.i64.wrap ((j:Int)+1)=(j+1:Nat):=by rw[Ab (by omega) (by omega)];simp
  have hst:=Aod (p:=fun l=>allIn l 0 255) hjn
  rw[hp,Bool.true_and]at hst
  have hra:=V8 hjn
  simp -implicitDefEqProofs [hjn]
  refine Aa (hB _ (by unfold maxLen;omega)) ?_
  by_cases h1:allIn ls[j] 0 255=true
  ·simp -implicitDefEqProofs [h1]
   exact⟨k-1,by omega,j+1,by omega,by simpa using hst.trans h1,by simp[hw]⟩
  ·have e:LZ ls=false:=by unfold LZ;rw[Af1 hjn (by simpa using h1)];simp
   simp -implicitDefEqProofs [h1,e]
 ·have e:LZ ls=decide (ls.length≤12):=by unfold LZ;rw[←AvT (j:=j) (by omega),hp];simp
  by_cases h5:ls.length≤12
  ·have h5':(ls.length:Int)≤12:=by omega
   simp -implicitDefEqProofs [hjn,e,h5,h5']
  ·have h5':¬(ls.length:Int)≤12:=by omega
   simp -implicitDefEqProofs [hjn,e,h5,h5']
abbrev Abr (R:Rel):Prop:=∀l:List Int,l.length≤maxLen→R [.sl 1 1 l.length (ints l)] [] (B (!allIn l 0 255)) []
theorem ACV (D:Dn) (hN:J2 (D JM)):Abr (Body D APk):=by
 intro l hl
 simp -implicitDefEqProofs
 refine Aa (hN _ _ _ hl) ?_
 simp -implicitDefEqProofs
theorem AA6 (D:Dn) (h1':Abr (D Rp)) (hC:KT D (D MP)):M6 (Body D NA):=by
 intro ls hl
 have hll:=JL (xs:=ls)
 by_cases h5:ls.length≤12
 rotate_left
 ·have h5':¬(ls.length:Int)≤12:=by omega
  simp -implicitDefEqProofs [h5',h5,LZ]
 have h5':(ls.length:Int)≤12:=by omega
 simp -implicitDefEqProofs [h5']
 refine Aa (hC ls Rp [] (fun l=> !allIn l 0 255) (by unfold maxLen;omega) I7 (fun j hj=>h1' ls[j] (by have:=V8 hj;unfold maxLen;omega))) ?_
 rw[ADH]
 generalize hq:(ls.all fun l=>allIn l 0 255)=q
 simp -implicitDefEqProofs [LZ,h5,hq]
def TH (x:Int) (b:List Int):Int:=hash (x::(b.length:Int)::b)
def KC (ls:List (List Int)):Int:=if LZ ls=true then ls.foldl TH 1 else 0
abbrev Lf (R:Rel):Prop:=∀ls:List (List Int),I4 ls≤4194304→R [Jb ls] [] (I (KC ls)) []
theorem AnX {α β:Type} {f:α→β→α} {xs:List β} {j:Nat} {a:α} (h:j<xs.length):(xs.take (j+1)).foldl f a=f ((xs.take j).foldl f a) xs[j]:=by
 have e:xs.take (j+1)=xs.take j++ [xs[j]]:=by simp
 rw[e,List.foldl_append];rfl
theorem Avo (D:Dn) (hT:M6 (D UK)) (hH:ZF (D Adf)):Lf (Body D Ll):=by
 intro ls hl
 have hll:=JL (xs:=ls)
 simp -implicitDefEqProofs
 refine Aa (hT ls hl) ?_
 by_cases h1:LZ ls=true
 rotate_left
 ·simp -implicitDefEqProofs [h1,KC]
 simp -implicitDefEqProofs [h1]
 refine Af (fun k s=>∃j o0 o1,j+k=ls.length∧s=⟨[Jb ls,.undef,I ((ls.take j).foldl TH 1),I j,.undef,.undef],[o0,o1]⟩) ?_ (ls.length) _ ⟨0,.free,.free,by simp,by simp⟩
 intro k s ⟨j,o0,o1,hj,hs⟩
 subst hs
 by_cases hjn:j<ls.length
 ·have hw:IntKind.i64.wrap ((j:Int)+1)=(j+1:Nat):=by rw[Ab (by omega) (by omega)];simp
  have hst:=AnX (f:=TH) (a:=(1:Int)) hjn
  have hra:=V8 hjn
  have b1:(2+ls[j].length)*8≤1099511627776:=by omega
  generalize(ls.take j).foldl TH 1=x at hst
  have hh:=hH (x::(ls[j].length:Int)::ls[j]) (by unfold maxLen;simp;omega)
  have hlen:(x::(ls[j].length:Int)::ls[j]).length=2+ls[j].length:=by simp;omega
  rw[hlen]at hh
  simp only[←QL]at hh
  simp -implicitDefEqProofs [hjn,b1]
  refine Aa (hh) ?_
  simp -implicitDefEqProofs
  exact⟨k-1,by omega,j+1,by omega,by rw[hst];rfl,by simp[hw]⟩
 ·have e:ls.take j=ls:=List.take_of_length_le (by omega)
  have e2:KC ls=ls.foldl TH 1:=by unfold KC;rw[if_pos h1]
  simp -implicitDefEqProofs [hjn,e,e2]
theorem Axm (D:Dn) (hT:M6 (D UO)) (hH:ZF (D AdC)):Lf (Body D K3):=by
 intro ls hl
 have hll:=JL (xs:=ls)
 simp -implicitDefEqProofs
 refine Aa (hT ls hl) ?_
 by_cases h1:LZ ls=true
 rotate_left
 ·simp -implicitDefEqProofs [h1,KC]
 simp -implicitDefEqProofs [h1]
 refine Af (fun k s=>∃j o0 o1,j+k=ls.length∧s=⟨[.undef,.undef,I ((ls.take j).foldl TH 1),.undef,.undef,Jb ls,I ls.length,I j,.undef],[o0,o1]⟩) ?_ (ls.length) _ ⟨0,.free,.free,by simp,by simp⟩
 intro k s ⟨j,o0,o1,hj,hs⟩
 subst hs
 by_cases hjn:j<ls.length
 ·have hw:IntKind.i64.wrap ((j:Int)+1)=(j+1:Nat):=by rw[Ab (by omega) (by omega)];simp
  have hst:=AnX (f:=TH) (a:=(1:Int)) hjn
  have hra:=V8 hjn
  have b1:(2+ls[j].length)*8≤1099511627776:=by omega
  generalize(ls.take j).foldl TH 1=x at hst
  have hh:=hH (x::(ls[j].length:Int)::ls[j]) (by unfold maxLen;simp;omega)
  have hlen:(x::(ls[j].length:Int)::ls[j]).length=2+ls[j].length:=by simp;omega
  rw[hlen]at hh
  simp only[←QL]at hh
  simp -implicitDefEqProofs [hjn,b1]
  refine Aa (hh) ?_
  simp -implicitDefEqProofs
  exact⟨k-1,by omega,j+1,by omega,by rw[hst];rfl,by simp[hw]⟩
 ·have e:ls.take j=ls:=List.take_of_length_le (by omega)
  have e2:KC ls=ls.foldl TH 1:=by unfold KC;rw[if_pos h1]
  simp -implicitDefEqProofs [hjn,e,e2]
def Ei (k:Int) (ls:List (List Int)) (side:Int):Int:=if Yk k&&(LZ ls&&decide (PL side 0 1))then keyed k [side,KC ls]else 0
abbrev TV (R:Rel):Prop:=∀(k:Int) (ls:List (List Int)) (side:Int),I4 ls≤4194304→R [I k,Jb ls,I side] [] (I (Ei k ls side)) []
theorem AEo (D:Dn) (hV:NN (D AjH)) (hT:M6 (D UK)) (hI:TF (D Cw)) (hH:Lf (D Aa9)) (hK:Aa5 (D Anc)):TV (Body D Vv):=by
 intro k ls side hl
 simp -implicitDefEqProofs
 refine Aa (hV k) ?_
 by_cases h1:Yk k=true
 rotate_left
 ·simp -implicitDefEqProofs [h1,Ei]
 simp -implicitDefEqProofs [h1]
 refine Aa (hT ls hl) ?_
 by_cases h2:LZ ls=true
 rotate_left
 ·simp -implicitDefEqProofs [h2,Ei]
 simp -implicitDefEqProofs [h2]
 refine Aa (hI _ _ _) ?_
 by_cases h3:PL side 0 1
 rotate_left
 ·simp -implicitDefEqProofs [h3,Ei]
 simp -implicitDefEqProofs [h3]
 refine Aa (hH ls hl) ?_
 simp -implicitDefEqProofs
 refine Aa (hK k [side,KC ls] (by simp)) ?_
 simp -implicitDefEqProofs [Ei,h1,h2,h3]
theorem AFR (D:Dn) (hV:NN (D Aid)) (hT:M6 (D UO)) (hI:TF (D BP)) (hH:Lf (D AaL)) (hK:Aa5 (D Anp)):TV (Body D Uz):=by
 intro k ls side hl
 simp -implicitDefEqProofs
 refine Aa (hV k) ?_
 by_cases h1:Yk k=true
 rotate_left
 ·simp -implicitDefEqProofs [h1,Ei]
 simp -implicitDefEqProofs [h1]
 refine Aa (hT ls hl) ?_
 by_cases h2:LZ ls=true
 rotate_left
 ·simp -implicitDefEqProofs [h2,Ei]
 simp -implicitDefEqProofs [h2]
 refine Aa (hI _ _ _) ?_
 by_cases h3:PL side 0 1
 rotate_left
 ·simp -implicitDefEqProofs [h3,Ei]
 simp -implicitDefEqProofs [h3]
 refine Aa (hH ls hl) ?_
 simp -implicitDefEqProofs
 refine Aa (hK k [side,KC ls] (by simp)) ?_
 simp -implicitDefEqProofs [Ei,h1,h2,h3]
def Um (k:Int) (ls:List (List Int)) (side f:Int):Bool:= !decide (f=0)&&decide (f=Ei k ls side)
abbrev Yq (R:Rel):Prop:=∀(k:Int) (ls:List (List Int)) (side f:Int),I4 ls≤4194304→R [I k,Jb ls,I side,I f] [] (B (Um k ls side f)) []
theorem AwV (D:Dn) (hF:TV (D AaW)):Yq (Body D RQ):=by
 intro k ls side f hl
 by_cases h0:f=0
 ·simp -implicitDefEqProofs [h0,Um]
 simp -implicitDefEqProofs [h0]
 refine Aa (hF k ls side hl) ?_
 simp -implicitDefEqProofs [Um,h0,AEL]
end Go.Eng.T
namespace Go.Eng.T
set_option maxRecDepth 20000
set_option maxHeartbeats 1000000
theorem AbS {l:List Ext} (h:FU l=true):l.length≤6:=by
 unfold FU at h
 simp only[Bool.and_eq_true,decide_eq_true_eq]at h
 exact h.2
theorem AK1 {l:List Ext} (h:FU l=true) {j:Nat} (hj:j<l.length):Yz l j=true:=by
 unfold FU at h
 simp only[Bool.and_eq_true]at h
 exact AF3.1 h.1 j hj
theorem Adl {l:List Ext} (h:FU l=true) {j:Nat} (hj:j<l.length):l[j].body.length≤4:=by
 have:=AK1 h hj
 rw[Ajp hj]at this
 unfold AaZ at this
 simp only[Bool.and_eq_true,decide_eq_true_eq]at this
 exact this.1.2.1
def AN1 (x:Ext):List Int:=x.tag::(x.body.length:Int)::x.body
def PS (l:List Ext) (j:Nat):List Int:=(l.length:Int)::(l.take j).flatMap AN1
theorem Ad8 {l:List Ext} {j:Nat} (h:j<l.length):PS l (j+1)=PS l j++([l[j].tag,(l[j].body.length:Int)]++l[j].body):=by
 have e:l.take (j+1)=l.take j++ [l[j]]:=by simp
 unfold PS
 rw[e,List.flatMap_append]
 simp[AN1]
theorem Abz {l:List Ext} (h:FU l=true):∀j,j≤l.length→(PS l j).length≤1+6*j
 | 0,_=>by simp[PS]
 | j+1,hj=>by
  have ih:=Abz h j (by omega)
  have hb:=Adl h (j:=j) (by omega)
  rw[Ad8 (by omega)]
  simp only[List.length_append,List.length_cons,List.length_nil]
  omega
def Ga (l:List Ext):List Int×Bool:=if FU l=true then(PS l l.length,true)else([],false)
abbrev IB (R:Rel):Prop:=∀l:List Ext,WQ l→R [.sl 1 2 l.length (l.flatMap Ce)] [] (.tup [.sl 0 1 (Ga l).1.length (ints (Ga l).1),B (Ga l).2]) []
theorem Ar1 (D:Dn) (hA:Ia (D MU)):IB (Body D QC):=by
 intro l hl
 have hll:=hl.1
 simp -implicitDefEqProofs
 refine Aa (hA l hl) ?_
 by_cases h1:FU l=true
 rotate_left
 ·have e:Ga l=([],false):=by unfold Ga;rw[if_neg h1]
  simp -implicitDefEqProofs [h1,e]
 simp -implicitDefEqProofs [h1]
 refine Af (fun k s=>∃j o2 o3 o4,j+k=l.length∧s=⟨[.sl 1 2 l.length (l.flatMap Ce),.undef,.undef,.arr 5,I j,.undef,.undef],[.free,.free,o2,o3,o4,.arr 1 0 (PS l j).length (ints (PS l j))]⟩) ?_ (l.length) _ ⟨0,.free,.free,.free,by simp,by simp[PS,ints]⟩
 intro k s ⟨j,o2,o3,o4,hj,hs⟩
 subst hs
 by_cases hjn:j<l.length
 ·have hw:IntKind.i64.wrap ((j:Int)+1)=(j+1:Nat):=by rw[Ab (by omega) (by omega)];simp
  have hst:=Ad8 hjn
  have hle:=Abz h1 j (by omega)
  have h6:=AbS h1
  have hb4:=Adl h1 hjn
  have b1:((PS l j).length+2)*8≤1099511627776:=by omega
  have b2:((PS l j).length+2+l[j].body.length)*8≤1099511627776:=by omega
  simp -implicitDefEqProofs [hjn,b1,b2]
  exact⟨k-1,by omega,j+1,by omega,by simp[hw],by rw[hst];simp;omega,by rw[hst];simp[ints]⟩
 ·obtain rfl:j=l.length:=by omega
  have e:Ga l=(PS l l.length,true):=by unfold Ga;rw[if_pos h1]
  simp -implicitDefEqProofs [e]
theorem As3 (D:Dn) (hA:Ia (D MW)):IB (Body D QK):=by
 intro l hl
 have hll:=hl.1
 simp -implicitDefEqProofs
 refine Aa (hA l hl) ?_
 by_cases h1:FU l=true
 rotate_left
 ·have e:Ga l=([],false):=by unfold Ga;rw[if_neg h1]
  simp -implicitDefEqProofs [h1,e]
 simp -implicitDefEqProofs [h1]
 refine Af (fun k s=>∃j o1 o2 o3 o4,j+k=l.length∧s=⟨[.undef,.undef,.undef,.arr 5,.undef,.undef,.sl 1 2 l.length (l.flatMap Ce),I l.length,I j,.undef],[.free,o1,o2,o3,o4,.arr 1 0 (PS l j).length (ints (PS l j))]⟩) ?_ (l.length) _ ⟨0,.free,.free,.free,.free,by simp,by simp[PS,ints]⟩
 intro k s ⟨j,o1,o2,o3,o4,hj,hs⟩
 subst hs
 by_cases hjn:j<l.length
 ·have hw:IntKind.i64.wrap ((j:Int)+1)=(j+1:Nat):=by rw[Ab (by omega) (by omega)];simp
  have hst:=Ad8 hjn
  have hle:=Abz h1 j (by omega)
  have h6:=AbS h1
  have hb4:=Adl h1 hjn
  have b1:((PS l j).length+2)*8≤1099511627776:=by omega
  have b2:((PS l j).length+2+l[j].body.length)*8≤1099511627776:=by omega
  simp -implicitDefEqProofs [hjn,b1,b2]
  exact⟨k-1,by omega,j+1,by omega,by simp[hw],by rw[hst];simp;omega,by rw[hst];simp[ints]⟩
 ·obtain rfl:j=l.length:=by omega
  have e:Ga l=(PS l l.length,true):=by unfold Ga;rw[if_pos h1]
  simp -implicitDefEqProofs [e]
theorem Oa (l:List Ext):(Ga l).1.length≤37:=by
 unfold Ga
 split
 ·rename_i h
  have:=Abz h l.length (Nat.le_refl _)
  have:=AbS h
  dsimp only;omega
 ·simp
def Bz (h:Hello):List Int:=if Dw h=true then((h.versions.length:Int)::h.versions)++(Ga h.exts).1 else []
abbrev J3 (R:Rel):Prop:=∀h:Hello,hB h→R [arg (DJ h)] [] (.sl 0 1 (Bz h).length (ints (Bz h))) []
theorem AFa {h:Hello} (hh:Dw h=true):Bt h.versions=true:=by unfold Dw at hh;simp only[Bool.and_eq_true]at hh;exact hh.1
theorem AsN (D:Dn) (hI:Fe (D Iz)) (hE:IB (D Yn)):J3 (Body D Qj):=by
 intro h hh
 have hv:=hh.1
 simp -implicitDefEqProofs
 refine Aa (hI h hh) ?_
 by_cases h1:Dw h=true
 rotate_left
 ·simp -implicitDefEqProofs [h1,Bz]
 have hl:=Oa h.exts
 have e:Bz h=((h.versions.length:Int)::h.versions)++(Ga h.exts).1:=by unfold Bz;rw[if_pos h1]
 rw[e]
 simp -implicitDefEqProofs [h1]
 refine Aa (hE h.exts hh.2) ?_
 generalize(Ga h.exts).1=r at hl
 have b1:(1+h.versions.length)*8≤1099511627776:=by omega
 have b2:(1+h.versions.length+r.length)*8≤1099511627776:=by omega
 have el:h.versions.length+r.length+1=1+h.versions.length+r.length:=by omega
 simp -implicitDefEqProofs [b1,b2,QL,Apa,el]
def KZ (a:Vu):Bool:=decide (InV a.version 1 9)&&FU a.exts
def Ba (a:Vu):List Int:=if KZ a=true then a.version::(Ga a.exts).1 else []
abbrev KH (R:Rel):Prop:=∀a:Vu,WQ a.exts→R [arg (AbF a)] [] (B (KZ a)) []
theorem Ayc (D:Dn) (hI:TF (D Cw)) (hE:Ia (D MU)):KH (Body D UL):=by
 intro a ha
 simp -implicitDefEqProofs
 refine Aa (hI _ _ _) ?_
 by_cases h1:InV a.version 1 9
 rotate_left
 ·simp -implicitDefEqProofs [h1,KZ]
 simp -implicitDefEqProofs [h1]
 refine Aa (hE _ ha) ?_
 simp -implicitDefEqProofs [KZ,h1]
theorem Azb (D:Dn) (hI:TF (D BP)) (hE:Ia (D MW)):KH (Body D UY):=by
 intro a ha
 simp -implicitDefEqProofs
 refine Aa (hI _ _ _) ?_
 by_cases h1:InV a.version 1 9
 rotate_left
 ·simp -implicitDefEqProofs [h1,KZ]
 simp -implicitDefEqProofs [h1]
 refine Aa (hE _ ha) ?_
 simp -implicitDefEqProofs [KZ,h1]
abbrev Jd (R:Rel):Prop:=∀a:Vu,WQ a.exts→R [arg (AbF a)] [] (.sl 0 1 (Ba a).length (ints (Ba a))) []
theorem Alg (a:Vu):(Ba a).length≤38:=by
 unfold Ba
 have:=Oa a.exts
 split
 ·simp only[List.length_cons];omega
 ·simp
theorem An8 (D:Dn) (hI:KH (D Abb)) (hE:IB (D Yn)):Jd (Body D OD):=by
 intro a ha
 simp -implicitDefEqProofs
 refine Aa (hI a ha) ?_
 by_cases h1:KZ a=true
 rotate_left
 ·have e:Ba a=[]:=by unfold Ba;rw[if_neg h1]
  simp -implicitDefEqProofs [h1,e]
 have hl:=Oa a.exts
 have e:Ba a=a.version::(Ga a.exts).1:=by unfold Ba;rw[if_pos h1]
 rw[e]
 simp -implicitDefEqProofs [h1]
 refine Aa (hE a.exts ha) ?_
 generalize(Ga a.exts).1=r at hl
 have b2:(1+r.length)*8≤1099511627776:=by omega
 have el:r.length+1=1+r.length:=by omega
 simp -implicitDefEqProofs [b2,QL,el]
theorem AqS (D:Dn) (hI:KH (D Aap)) (hE:IB (D XJ)):Jd (Body D Pg):=by
 intro a ha
 simp -implicitDefEqProofs
 refine Aa (hI a ha) ?_
 by_cases h1:KZ a=true
 rotate_left
 ·have e:Ba a=[]:=by unfold Ba;rw[if_neg h1]
  simp -implicitDefEqProofs [h1,e]
 have hl:=Oa a.exts
 have e:Ba a=a.version::(Ga a.exts).1:=by unfold Ba;rw[if_pos h1]
 rw[e]
 simp -implicitDefEqProofs [h1]
 refine Aa (hE a.exts ha) ?_
 generalize(Ga a.exts).1=r at hl
 have b2:(1+r.length)*8≤1099511627776:=by omega
 have el:r.length+1=1+r.length:=by omega
 simp -implicitDefEqProofs [b2,QL,el]
def Atg (h:Hello) (x:Ext):Bool:=decide (x.tag∈Av h.exts)&& !A9 x.tag
def FQ (h:Hello) (a:Vu):Bool:=Dw h&&(KZ a&&(decide (a.version∈h.versions)&&a.exts.all (Atg h)))
abbrev K6 (R:Rel):Prop:=∀(h:Hello) (a:Vu),hB h→WQ a.exts→R [arg (DJ h),arg (AbF a)] [] (B (FQ h a)) []
theorem AHG {α:Type} {p:α→Bool} {xs:List α} {i:Int} (h:0≤i):(JS p xs i<0)=¬(xs.any p=true):=by
 have:=Zt (p:=p) (xs:=xs) h
 rw[←this]
 exact propext ⟨fun h=>by omega,fun h=>by omega⟩
theorem AKZ (l:List Ext) (t:Int):l.any (I5 t)=decide (t∈Av l):=by
 rw[Bool.eq_iff_iff]
 simp only[List.any_eq_true,decide_eq_true_eq,Av,List.mem_map,I5]
theorem N7 (l:List Ext) (t:Int):(LJ l t<0)=¬(t∈Av l):=by
 unfold LJ
 rw[AHG (by omega),AKZ]
 simp
theorem Axs (D:Dn) (hX:Tf (D VS)) (hR:Ho (D PX)) (hI:Fe (D Iz)) (hA:KH (D Abb)) (hH:PN (D Jj)):K6 (Body D Tk):=by
 intro h a hh ha
 have hal:=ha.1
 have hxl:=hh.2.1
 have hvl:=hh.1
 simp -implicitDefEqProofs
 refine Af (fun k s=>∃j,j+k=a.exts.length∧(a.exts.take j).all (Atg h)=true∧s=⟨[.undef,.undef,.ptr 0 0,.ptr 1 0,.undef,I j,.undef,.undef],[.var ((DJ h).map (Be 1)),.var ((AbF a).map (Be 1))]⟩) ?_ (a.exts.length) _ ⟨0,by simp,by simp,by simp⟩
 intro k s ⟨j,hj,hp,hs⟩
 subst hs
 by_cases hjn:j<a.exts.length
 ·have hw:IntKind.i64.wrap ((j:Int)+1)=(j+1:Nat):=by rw[Ab (by omega) (by omega)];simp
  have hst:=Aod (p:=Atg h) hjn
  rw[hp,Bool.true_and]at hst
  simp -implicitDefEqProofs [hjn]
  refine Aa (hX h.exts _ (by unfold maxLen;omega)) ?_
  by_cases h1:a.exts[j].tag∈Av h.exts
  rotate_left
  ·have e:FQ h a=false:=by unfold FQ;rw[Af1 hjn (by simp[Atg,h1])];simp
   have h1':LJ h.exts a.exts[j].tag<0:=by rw[N7];exact h1
   simp -implicitDefEqProofs [h1',e]
  have h1':¬LJ h.exts a.exts[j].tag<0:=by rw[N7];simpa using h1
  simp -implicitDefEqProofs [h1',hjn]
  refine Aa (hR _) ?_
  by_cases h2:A9 a.exts[j].tag=true
  ·have e:FQ h a=false:=by unfold FQ;rw[Af1 hjn (by simp[Atg,h2])];simp
   simp -implicitDefEqProofs [h2,e]
  ·simp -implicitDefEqProofs [h2]
   exact⟨k-1,by omega,j+1,by omega,by simpa using hst.trans (show Atg h a.exts[j]=true by simp[Atg,h1,h2]),by simp[hw]⟩
 ·have e:a.exts.all (Atg h)=true:=by rw[←AvT (j:=j) (by omega),hp]
  simp -implicitDefEqProofs [hjn]
  refine Aa (hI h hh) ?_
  by_cases g1:Dw h=true
  rotate_left
  ·simp -implicitDefEqProofs [g1,FQ]
  simp -implicitDefEqProofs [g1]
  refine Aa (hA a ha) ?_
  by_cases g2:KZ a=true
  rotate_left
  ·simp -implicitDefEqProofs [g2,FQ]
  simp -implicitDefEqProofs [g2]
  refine Aa (hH _ _ (by unfold maxLen;omega)) ?_
  have e2:FQ h a=decide (a.version∈h.versions):=by unfold FQ;rw[e,g1,g2];simp
  simp -implicitDefEqProofs [e2]
abbrev Yw (R:Rel):Prop:=∀l:List Ext,l.length≤4194304→R [.sl 1 2 l.length (l.flatMap Ce)] [] (B ((Av l).any A9)) []
theorem AwQ (D:Dn) (hT:Nb (D Ui)) (hH:Ru (D X8)):Yw (Body D Tv):=by
 intro l hl
 simp -implicitDefEqProofs
 refine Aa (hT l hl) ?_
 simp -implicitDefEqProofs
 refine Aa (hH (Av l) (by rw[Pk];unfold maxLen;omega)) ?_
 generalize(Av l).any A9=q
 simp -implicitDefEqProofs
theorem AJZ (h:Hello) (a:Vu):a.exts.all (Atg h)=(decide (leftOf (Av a.exts) (Av h.exts)=[])&& !(Av a.exts).any A9):=by
 have h1:decide (leftOf (Av a.exts) (Av h.exts)=[])=a.exts.all fun x=>decide (x.tag∈Av h.exts):=by
  rw[Bool.eq_iff_iff,decide_eq_true_eq,List.all_eq_true]
  unfold leftOf
  rw[List.filter_eq_nil_iff]
  constructor
  ·intro hp x hx
   have:=hp x.tag (List.mem_map.2 ⟨x,hx,rfl⟩)
   simpa using this
  ·intro hp v hv
   obtain⟨x,hx,rfl⟩:=List.mem_map.1 hv
   simpa using hp x hx
 have h2:(!(Av a.exts).any A9)=a.exts.all fun x=> !A9 x.tag:=by
  unfold Av
  rw[List.any_map,List.all_eq_not_any_not]
  simp[Function.comp_def]
 rw[h1,h2]
 generalize a.exts=l
 induction l with
 | nil=>rfl
 | cons x r ih=>
  simp only[List.all_cons,ih,Atg]
  generalize decide (x.tag∈Av h.exts)=p1
  generalize A9 x.tag=p2
  cases p1<;>cases p2<;>simp
theorem Awl (D:Dn) (hI:Fe (D Jq)) (hA:KH (D Aap)) (hH:PN (D Bb)) (hT:Nb (D Ui)) (hL:ZH (D Jt)) (hG:Yw (D Ak8)):K6 (Body D SV):=by
 intro h a hh ha
 have hal:=ha.1
 have hxl:=hh.2.1
 have hvl:=hh.1
 simp -implicitDefEqProofs
 refine Aa (hI h hh) ?_
 by_cases g1:Dw h=true
 rotate_left
 ·simp -implicitDefEqProofs [g1,FQ]
 simp -implicitDefEqProofs [g1]
 refine Aa (hA a ha) ?_
 by_cases g2:KZ a=true
 rotate_left
 ·simp -implicitDefEqProofs [g2,FQ]
 simp -implicitDefEqProofs [g2]
 refine Aa (hH _ _ (by unfold maxLen;omega)) ?_
 by_cases g3:a.version∈h.versions
 rotate_left
 ·simp -implicitDefEqProofs [g3,FQ]
 have e2:FQ h a=(decide (leftOf (Av a.exts) (Av h.exts)=[])&& !(Av a.exts).any A9):=by unfold FQ;rw[AJZ,g1,g2];simp[g3]
 rw[e2]
 simp -implicitDefEqProofs [g3]
 refine Aa (hT a.exts hal) ?_
 simp -implicitDefEqProofs
 refine Aa (hT h.exts hxl) ?_
 simp -implicitDefEqProofs
 refine Aa (hL (Av a.exts) (Av h.exts) (by rw[Pk];exact hal) (by rw[Pk];exact hxl)) ?_
 by_cases g4:leftOf (Av a.exts) (Av h.exts)=[]
 rotate_left
 ·simp -implicitDefEqProofs [g4,AEL]
 simp -implicitDefEqProofs [g4,AEL]
 refine Aa (hG a.exts hal) ?_
 generalize(Av a.exts).any A9=q
 simp -implicitDefEqProofs
def BI (vs tags:List Int) (h:Hello):Vu×Bool:=if Dw h&& !decide (BZ vs h.versions=0)then(⟨BZ vs h.versions,AdI (M9 h.exts tags)⟩,true)else(⟨0,[]⟩,false)
abbrev VZ (R:Rel):Prop:=∀(vs tags:List Int) (h:Hello),vs.length≤4194304→tags.length≤4194304→hB h→R [.sl 1 1 vs.length (ints vs),.sl 1 1 tags.length (ints tags),arg (DJ h)] [] (.tup [.agg (AbF (BI vs tags h).1),B (BI vs tags h).2]) []
theorem AEY (D:Dn) (hB':EU (D Mf)) (hI:Fe (D Iz)) (hK:Pp (D Ac4)) (hS:Je (D AgO)):VZ (Body D Nn):=by
 intro vs tags h hv ht hh
 simp -implicitDefEqProofs
 refine Aa (hB' vs h.versions hv hh.1) ?_
 simp -implicitDefEqProofs
 refine Aa (hI h hh) ?_
 by_cases h1:Dw h=true
 rotate_left
 ·simp -implicitDefEqProofs [h1,BI]
 by_cases h2:BZ vs h.versions=0
 ·simp -implicitDefEqProofs [h1,h2,BI]
 have e:BI vs tags h=(⟨BZ vs h.versions,AdI (M9 h.exts tags)⟩,true):=by unfold BI;rw[if_pos (by simp[h1,h2])]
 simp -implicitDefEqProofs [h1,h2]
 refine Aa (hK h.exts tags hh.2 (by unfold maxLen;omega)) ?_
 simp -implicitDefEqProofs
 refine Aa (hS (M9 h.exts tags) (XG hh.2 _)) ?_
 simp -implicitDefEqProofs [e]
theorem AFQ (D:Dn) (hB':EU (D LX)) (hI:Fe (D Jq)) (hK:Pp (D ArG)) (hS:Je (D Afi)):VZ (Body D Nr):=by
 intro vs tags h hv ht hh
 simp -implicitDefEqProofs
 refine Aa (hB' vs h.versions hv hh.1) ?_
 simp -implicitDefEqProofs
 refine Aa (hI h hh) ?_
 by_cases h1:Dw h=true
 rotate_left
 ·simp -implicitDefEqProofs [h1,BI]
 by_cases h2:BZ vs h.versions=0
 ·simp -implicitDefEqProofs [h1,h2,BI]
 have e:BI vs tags h=(⟨BZ vs h.versions,AdI (M9 h.exts tags)⟩,true):=by unfold BI;rw[if_pos (by simp[h1,h2])]
 simp -implicitDefEqProofs [h1,h2]
 refine Aa (hK h.exts tags hh.2 (by unfold maxLen;omega)) ?_
 simp -implicitDefEqProofs
 refine Aa (hS (M9 h.exts tags) (XG hh.2 _)) ?_
 simp -implicitDefEqProofs [e]
end Go.Eng.T
namespace Go.Eng.T
open Go.Eng.X
def AQ3:Nat→Bl
 |0=>R 0 [m f] [] [1]
 |_=>R 1 [m (s 0),e (l 0),y .gtr (l 1) (i 1048576),m (l 2)] [(1,3)] [0]
def ASj:Bp:=⟨2,0,[0],0,false,[],j (d (AQ3 0)) (j (d (AQ3 1)) (.ret)),[.slot 1]⟩
def AUj:List Tmp:=[0,2]
def Acm:Nat→Bl
 |0=>R 0 [m f] [] [3]
 |1=>R 1 [m (s 0),e (l 0),m (s 1),e (l 2),y .neq (l 1) (l 3)] [(7,4)] []
 |2=>R 2 [m f] [(3,0)] [0,1,2]
 |3=>R 3 [m (s 0),e (l 0),m (i 0)] [(8,0),(9,1),(10,2)] [0]
 |4=>R 4 [y .lss (s 10) (s 9)] [(11,0)] []
 |5=>Q 5 [m (s 10),A 4 (s 8) (s 10),P 4 (l 1),a 0 zE,m (l 0),W 4 (l 3) (l 2)] [(4,4),(5,3)] [] [0] []
 |6=>Q 6 [m (s 1),m (s 4),A 4 (l 0) (l 1),P 4 (l 2),a 1 zE,W 4 (l 4) (l 3)] [(6,4)] [4] [1] []
 |7=>R 7 [m (s 2),P 4 (s 5),P 4 (s 6),JQ.callv (l 0) [r (l 1),r (l 2)] [],n (l 3)] [(12,4)] [5,6]
 |8=>R 8 [m f] [(3,0)] [1,2,8,9,10]
 |9=>R 9 [y .add (s 10) (i 1),m (l 0)] [(10,1)] []
 |_=>R 10 [m t] [(3,0)] [1,2,8,9,10]
def AtA:Bp:=⟨13,2,[0,1,2],0,false,[],j (d (Acm 0)) (j (j (d (Acm 1)) (h 7 (j (d (Acm 2)) (.ret)) (.skip))) (j (j (d (Acm 3)) (.block 0 (.loop (j (d (Acm 4)) (j (h 11 (.skip) (.exit 0)) (j (.block 1 (j (d (Acm 5)) (j (d (Acm 6)) (j (d (Acm 7)) (h 12 (j (d (Acm 8)) (.ret)) (.skip)))))) (d (Acm 9)))))))) (j (d (Acm 10)) (.ret)))),[.slot 3]⟩
def AJo:List Tmp:=[0,1,2,6,7,8,9,14,15,16,17,18,30]
def APa:Nat→Bl
 |0=>R 0 [x 0 (s 0),x 1 (s 1),m f] [(2,0),(3,1)] [0,1,4]
 |_=>R 1 [F (s 2) 0,L (l 0),F (s 3) 0,L (l 2),C 357 [r (l 1),r (l 3)] [],m (l 4),J 5 (F (s 2) 1),J 5 (L (l 6)),J 5 (F (s 3) 1),J 5 (L (l 8)),J 5 (C 357 [r (l 7),r (l 9)] []),k (l 5) (l 10) f,m (l 11),J 12 (F (s 2) 2),J 12 (L (l 13)),J 12 (F (s 3) 2),J 12 (L (l 15)),J 12 (C 504 [r (l 14),r (l 16),r (g 503)] []),k (l 12) (l 17) f,m (l 18),J 19 (F (s 2) 3),J 19 (L (l 20)),J 19 (F (s 3) 3),J 19 (L (l 22)),J 19 (y .eql (l 21) (l 23)),k (l 19) (l 24) f,m (l 25)] [(4,26)] [2,3]
def APj:Bp:=⟨5,2,[0,1],0,false,[],j (d (APa 0)) (j (d (APa 1)) (.ret)),[.slot 4]⟩
def AQQ:List Tmp:=[0,1,2,3,4]
def APe:Nat→Bl
 |0=>R 0 [x 0 (s 0),x 1 (s 1),m f] [(2,0),(3,1)] [0,1,4]
 |_=>R 1 [F (s 2) 0,L (l 0),F (s 3) 0,L (l 2),y .eql (l 1) (l 3),m (l 4),J 5 (F (s 2) 1),J 5 (L (l 6)),J 5 (F (s 3) 1),J 5 (L (l 8)),J 5 (C 357 [r (l 7),r (l 9)] []),k (l 5) (l 10) f,m (l 11),J 12 (F (s 2) 2),J 12 (L (l 13)),J 12 (F (s 3) 2),J 12 (L (l 15)),J 12 (y .eql (l 14) (l 16)),k (l 12) (l 17) f,m (l 18),J 19 (F (s 2) 3),J 19 (L (l 20)),J 19 (F (s 3) 3),J 19 (L (l 22)),J 19 (.beq false (l 21) (l 23)),k (l 19) (l 24) f,m (l 25)] [(4,26)] [2,3]
def APm:Bp:=⟨5,2,[0,1],0,false,[],j (d (APe 0)) (j (d (APe 1)) (.ret)),[.slot 4]⟩
def AQV:List Tmp:=[0,1,2,3,4]
def AhB:Nat→Bl
 |0=>R 0 [m f] [] [3]
 |1=>R 1 [m (s 0),e (l 0),m (s 1),e (l 2),y .neq (l 1) (l 3)] [(7,4)] []
 |2=>R 2 [m f] [(3,0)] [0,1,2]
 |3=>R 3 [m (s 0),e (l 0),m (i 0)] [(8,0),(9,1),(10,2)] [0]
 |4=>R 4 [y .lss (s 10) (s 9)] [(11,0)] []
 |5=>Q 5 [m (s 10),A 5 (s 8) (s 10),P 5 (l 1),a 0 zD,m (l 0),W 5 (l 3) (l 2)] [(4,4),(5,3)] [] [0] []
 |6=>Q 6 [m (s 1),m (s 4),A 5 (l 0) (l 1),P 5 (l 2),a 1 zD,W 5 (l 4) (l 3)] [(6,4)] [4] [1] []
 |7=>R 7 [m (s 2),P 5 (s 5),P 5 (s 6),JQ.callv (l 0) [r (l 1),r (l 2)] [],n (l 3)] [(12,4)] [5,6]
 |8=>R 8 [m f] [(3,0)] [1,2,8,9,10]
 |9=>R 9 [y .add (s 10) (i 1),m (l 0)] [(10,1)] []
 |_=>R 10 [m t] [(3,0)] [1,2,8,9,10]
def Awe:Bp:=⟨13,2,[0,1,2],0,false,[],j (d (AhB 0)) (j (j (d (AhB 1)) (h 7 (j (d (AhB 2)) (.ret)) (.skip))) (j (j (d (AhB 3)) (.block 0 (.loop (j (d (AhB 4)) (j (h 11 (.skip) (.exit 0)) (j (.block 1 (j (d (AhB 5)) (j (d (AhB 6)) (j (d (AhB 7)) (h 12 (j (d (AhB 8)) (.ret)) (.skip)))))) (d (AhB 9)))))))) (j (d (AhB 10)) (.ret)))),[.slot 3]⟩
def AN5:List Tmp:=[0,1,2,6,7,8,9,14,15,16,17,18,30]
def APo:Nat→Bl
 |0=>R 0 [x 0 (s 0),x 1 (s 1),m f] [(2,0),(3,1)] [0,1,4]
 |_=>R 1 [F (s 2) 0,P 3 (l 0),F (s 3) 0,P 3 (l 2),C 508 [r (l 1),r (l 3)] [],m (l 4),J 5 (F (s 2) 3),J 5 (L (l 6)),J 5 (F (s 3) 3),J 5 (L (l 8)),J 5 (y .eql (l 7) (l 9)),k (l 5) (l 10) f,m (l 11),J 12 (F (s 2) 4),J 12 (L (l 13)),J 12 (F (s 3) 4),J 12 (L (l 15)),J 12 (C 357 [r (l 14),r (l 16)] []),k (l 12) (l 17) f,m (l 18)] [(4,19)] [2,3]
def APL:Bp:=⟨5,2,[0,1],0,false,[],j (d (APo 0)) (j (d (APo 1)) (.ret)),[.slot 4]⟩
def ARo:List Tmp:=[0,1,2,3,4]
def Aki:Nat→Bl
 |0=>R 0 [m f] [] [3]
 |1=>R 1 [m (s 0),e (l 0),m (s 1),e (l 2),y .neq (l 1) (l 3)] [(7,4)] []
 |2=>R 2 [m f] [(3,0)] [0,1,2]
 |3=>R 3 [m (s 0),e (l 0),m (i 0)] [(8,0),(9,1),(10,2)] [0]
 |4=>R 4 [y .lss (s 10) (s 9)] [(11,0)] []
 |5=>Q 5 [m (s 10),A 8 (s 8) (s 10),P 8 (l 1),a 0 zL,m (l 0),W 8 (l 3) (l 2)] [(4,4),(5,3)] [] [0] []
 |6=>Q 6 [m (s 1),m (s 4),A 8 (l 0) (l 1),P 8 (l 2),a 1 zL,W 8 (l 4) (l 3)] [(6,4)] [4] [1] []
 |7=>R 7 [m (s 2),P 8 (s 5),P 8 (s 6),JQ.callv (l 0) [r (l 1),r (l 2)] [],n (l 3)] [(12,4)] [5,6]
 |8=>R 8 [m f] [(3,0)] [1,2,8,9,10]
 |9=>R 9 [y .add (s 10) (i 1),m (l 0)] [(10,1)] []
 |_=>R 10 [m t] [(3,0)] [1,2,8,9,10]
def At3:Bp:=⟨13,2,[0,1,2],0,false,[],j (d (Aki 0)) (j (j (d (Aki 1)) (h 7 (j (d (Aki 2)) (.ret)) (.skip))) (j (j (d (Aki 3)) (.block 0 (.loop (j (d (Aki 4)) (j (h 11 (.skip) (.exit 0)) (j (.block 1 (j (d (Aki 5)) (j (d (Aki 6)) (j (d (Aki 7)) (h 12 (j (d (Aki 8)) (.ret)) (.skip)))))) (d (Aki 9)))))))) (j (d (Aki 10)) (.ret)))),[.slot 3]⟩
def ANK:List Tmp:=[0,1,2,6,7,8,9,14,15,16,17,18,30]
def APq:Nat→Bl
 |0=>R 0 [x 0 (s 0),x 1 (s 1),m f] [(2,0),(3,1)] [0,1,4]
 |_=>R 1 [F (s 2) 0,L (l 0),F (s 3) 0,L (l 2),y .eql (l 1) (l 3),m (l 4),J 5 (F (s 2) 1),J 5 (L (l 6)),J 5 (F (s 3) 1),J 5 (L (l 8)),J 5 (y .eql (l 7) (l 9)),k (l 5) (l 10) f,m (l 11),J 12 (F (s 2) 2),J 12 (L (l 13)),J 12 (F (s 3) 2),J 12 (L (l 15)),J 12 (.beq false (l 14) (l 16)),k (l 12) (l 17) f,m (l 18),J 19 (F (s 2) 3),J 19 (P 5 (l 20)),J 19 (F (s 3) 3),J 19 (P 5 (l 22)),J 19 (C 507 [r (l 21),r (l 23)] []),k (l 19) (l 24) f,m (l 25)] [(4,26)] [2,3]
def APM:Bp:=⟨5,2,[0,1],0,false,[],j (d (APq 0)) (j (d (APq 1)) (.ret)),[.slot 4]⟩
def ARp:List Tmp:=[0,1,2,3,4]
def AkL:Nat→Bl
 |0=>R 0 [m f] [] [3]
 |1=>R 1 [m (s 0),e (l 0),m (s 1),e (l 2),y .neq (l 1) (l 3)] [(7,4)] []
 |2=>R 2 [m f] [(3,0)] [0,1,2]
 |3=>R 3 [m (s 0),e (l 0),m (i 0)] [(8,0),(9,1),(10,2)] [0]
 |4=>R 4 [y .lss (s 10) (s 9)] [(11,0)] []
 |5=>Q 5 [m (s 10),A 4 (s 8) (s 10),P 4 (l 1),a 0 [o,N 1,N 1,c],m (l 0),W 4 (l 3) (l 2)] [(4,4),(5,3)] [] [0] []
 |6=>Q 6 [m (s 1),m (s 4),A 4 (l 0) (l 1),P 4 (l 2),a 1 [o,N 1,N 1,c],W 4 (l 4) (l 3)] [(6,4)] [4] [1] []
 |7=>R 7 [m (s 2),P 4 (s 5),P 4 (s 6),JQ.callv (l 0) [r (l 1),r (l 2)] [],n (l 3)] [(12,4)] [5,6]
 |8=>R 8 [m f] [(3,0)] [1,2,8,9,10]
 |9=>R 9 [y .add (s 10) (i 1),m (l 0)] [(10,1)] []
 |_=>R 10 [m t] [(3,0)] [1,2,8,9,10]
def ABp:Bp:=⟨13,2,[0,1,2],0,false,[],j (d (AkL 0)) (j (j (d (AkL 1)) (h 7 (j (d (AkL 2)) (.ret)) (.skip))) (j (j (d (AkL 3)) (.block 0 (.loop (j (d (AkL 4)) (j (h 11 (.skip) (.exit 0)) (j (.block 1 (j (d (AkL 5)) (j (d (AkL 6)) (j (d (AkL 7)) (h 12 (j (d (AkL 8)) (.ret)) (.skip)))))) (d (AkL 9)))))))) (j (d (AkL 10)) (.ret)))),[.slot 3]⟩
def AOK:List Tmp:=[0,1,2,6,7,8,9,14,15,16,17,18,30]
def APu:Nat→Bl
 |0=>R 0 [x 0 (s 0),x 1 (s 1),m f] [(2,0),(3,1)] [0,1,4]
 |_=>R 1 [F (s 2) 0,L (l 0),F (s 3) 0,L (l 2),y .eql (l 1) (l 3),m (l 4),J 5 (F (s 2) 1),J 5 (L (l 6)),J 5 (F (s 3) 1),J 5 (L (l 8)),J 5 (C 357 [r (l 7),r (l 9)] []),k (l 5) (l 10) f,m (l 11),J 12 (F (s 2) 2),J 12 (L (l 13)),J 12 (F (s 3) 2),J 12 (L (l 15)),J 12 (C 357 [r (l 14),r (l 16)] []),k (l 12) (l 17) f,m (l 18),J 19 (F (s 2) 3),J 19 (L (l 20)),J 19 (F (s 3) 3),J 19 (L (l 22)),J 19 (.beq false (l 21) (l 23)),k (l 19) (l 24) f,m (l 25)] [(4,26)] [2,3]
def APR:Bp:=⟨5,2,[0,1],0,false,[],j (d (APu 0)) (j (d (APu 1)) (.ret)),[.slot 4]⟩
def ARJ:List Tmp:=[0,1,2,3,4]
def APx:Nat→Bl
 |0=>R 0 [x 0 (s 0),x 1 (s 1),m f] [(2,0),(3,1)] [0,1,4]
 |_=>R 1 [F (s 2) 0,L (l 0),F (s 3) 0,L (l 2),JQ.beq false (l 1) (l 3),m (l 4),J 5 (F (s 2) 1),J 5 (L (l 6)),J 5 (F (s 3) 1),J 5 (L (l 8)),J 5 (y .eql (l 7) (l 9)),k (l 5) (l 10) f,m (l 11),J 12 (F (s 2) 2),J 12 (L (l 13)),J 12 (F (s 3) 2),J 12 (L (l 15)),J 12 (C 357 [r (l 14),r (l 16)] []),k (l 12) (l 17) f,m (l 18)] [(4,19)] [2,3]
def APP:Bp:=⟨5,2,[0,1],0,false,[],j (d (APx 0)) (j (d (APx 1)) (.ret)),[.slot 4]⟩
def ARG:List Tmp:=[0,1,2,3,4]
attribute [simp] AQ3 ASj Acm AtA APa APj APe APm AhB Awe APo APL Aki At3 APq APM AkL ABp APu APR APx APP
end Go.Eng.T
namespace Go.Eng.T
open Go.Eng.X
def AOT:Nat→Bl
 |0=>R 0 [m u] [] [1]
 |1=>R 1 [m (s 0),e (l 0),y .add (i 193017) (l 1),m (l 2)] [(2,3)] []
 |2=>R 2 [m (i 0)] [(3,0)] []
 |3=>R 3 [m (s 3),m (s 0),e (l 1),y .lss (l 0) (l 2),m (l 3),J 4 (m (s 3)),J 4 (y .lss (l 5) (i 4000)),k (l 4) (l 6) f] [(4,7)] []
 |4=>R 5 [m (s 2),y .mul (l 0) (i 137),m (s 0),m (s 3),A 1 (l 2) (l 3),L (l 4),JQ.conv .i64 (l 5),y .add (l 1) (l 6),y .add (l 7) (i 11),y .and (l 8) (i 1073741823),m (l 9)] [(2,10)] []
 |5=>R 4 [m (s 3),y .add (l 0) (i 1),m (l 1)] [(3,2)] []
 |_=>R 6 [m (s 0),m (s 2),b [N 1,o,o] [(0,1,l 0),(2,1,l 1)],x 0 (l 2),m (l 3)] [(1,4)] [0,2,3]
def AP5:Bp:=⟨5,1,[0],0,false,[],j (d (AOT 0)) (j (d (AOT 1)) (j (j (d (AOT 2)) (.block 0 (.loop (j (j (d (AOT 3)) (h 4 (.skip) (.exit 0))) (j (.block 1 (d (AOT 4))) (d (AOT 5))))))) (j (d (AOT 6)) (.ret)))),[.slot 1]⟩
def ATI:List Tmp:=[0,2,3,4,15]
def AOI:Nat→Bl
 |0=>R 0 [m (z 1)] [] [1]
 |1=>Q 1 [m (s 0),C 478 [v (l 0),r (i 4)] [],y .add (i 1) (l 1),M 1 1 1 [l 2],m (l 3)] [(2,4)] [] [] [w 1 3]
 |2=>R 2 [m (s 0),C 478 [v (l 0),r (i 4)] [],m (l 1)] [(3,2)] []
 |3=>R 3 [m (s 3),y .gtr (l 0) (i 0)] [(4,1)] []
 |4=>Q 5 [m (s 2),m (s 0),C 478 [v (l 1),r (i 6)] [],y .add (i 1) (l 2),C 159 [r (l 0),r (l 3)] [2],m (l 4)] [(2,5)] [] [2] [w 2 3]
 |5=>R 4 [m (s 3),y .sub (l 0) (i 1),m (l 1)] [(3,2)] []
 |_=>R 6 [m (s 2),m (l 0)] [(1,1)] [0,2,3]
def APU:Bp:=⟨5,4,[0],1,false,[],j (d (AOI 0)) (j (d (AOI 1)) (j (j (d (AOI 2)) (.block 0 (.loop (j (j (d (AOI 3)) (h 4 (.skip) (.exit 0))) (j (.block 1 (d (AOI 4))) (d (AOI 5))))))) (j (d (AOI 6)) (.ret)))),[.slot 1]⟩
def ASN:List Tmp:=[0,2,3,4,12]
def ANC:Nat→Bl
 |0=>R 0 [m (i 0)] [] [2]
 |1=>R 1 [m (s 1),y .leq (l 0) (i 0)] [(6,1)] []
 |2=>R 2 [m (i 0)] [(2,0)] [0,1]
 |3=>R 3 [m (s 1),y .leq (l 0) (i 256)] [(7,1)] []
 |4=>R 4 [m (s 0),C 486 [v (l 0)] [],m (s 1),y .rem (l 1) (l 2),m (l 3)] [(2,4)] [0,1]
 |5=>R 5 [m (s 0),C 486 [v (l 0)] [],m (l 1)] [(3,2)] []
 |6=>R 6 [m (s 0),C 486 [v (l 0)] [],m (l 1)] [(4,2)] []
 |7=>R 7 [m (s 0),C 486 [v (l 0)] [],m (l 1)] [(5,2)] [0]
 |_=>R 8 [m (s 3),y .mul (l 0) (i 65536),m (s 4),y .mul (l 2) (i 256),y .add (l 1) (l 3),m (s 5),y .add (l 4) (l 5),m (s 1),y .rem (l 6) (l 7),m (l 8)] [(2,9)] [1,3,4,5]
def AP3:Bp:=⟨8,1,[0,1],1,false,[],j (d (ANC 0)) (j (j (d (ANC 1)) (h 6 (j (d (ANC 2)) (.ret)) (.skip))) (j (j (d (ANC 3)) (h 7 (j (d (ANC 4)) (.ret)) (.skip))) (j (d (ANC 5)) (j (d (ANC 6)) (j (d (ANC 7)) (j (d (ANC 8)) (.ret))))))),[.slot 2]⟩
def ASD:List Tmp:=[0,1,4,5,6,7,9,11]
def AOG:Nat→Bl
 |0=>R 0 [a 1 zE] [(1,0)] []
 |1=>Q 1 [m (s 0),C 490 [v (l 0)] [2],m (s 0),C 493 [v (l 2)] [3],m (s 0),C 478 [v (l 4),r (i 6)] [],b zE [(0,1,l 1),(2,1,l 3),(3,1,l 5)],a 4 zE,W 4 (l 7) (l 6)] [(2,7)] [] [] [.ownc 4 1 7]
 |2=>R 2 [m (s 0),C 478 [v (l 0),r (i 4)] [],m (l 1)] [(3,2)] []
 |3=>R 3 [m (s 3),y .gtr (l 0) (i 0)] [(4,1)] []
 |4=>Y 5 [D (F (s 2) 1) [] [],D (L (l 0)) [4] [],D (m (s 0)) [] [],D (M 5 1 5 [i 1,i 2,i 3,i 40,i 200]) [5] [5],D (C 481 [v (l 2),r (l 3)] []) [0,5] [0],D (C 159 [r (l 1),r (l 4)] [6]) [6,7] [6],D (F (s 2) 1) [] [],D (W 1 (l 6) (l 5)) [4] [4]] [] [] [5,6] [w 6 7]
 |5=>R 4 [m (s 3),y .sub (l 0) (i 1),m (l 1)] [(3,2)] []
 |_=>R 6 [P 4 (s 2),W 4 (s 1) (l 0)] [] [0,2,3]
def APW:Bp:=⟨5,8,[0],1,false,[],j (d (AOG 0)) (j (d (AOG 1)) (j (j (d (AOG 2)) (.block 0 (.loop (j (j (d (AOG 3)) (h 4 (.skip) (.exit 0))) (j (.block 1 (d (AOG 4))) (d (AOG 5))))))) (j (d (AOG 6)) (.ret)))),[.cell 1 (some 4)]⟩
def ASI:List Tmp:=[0,2,3,4,15]
def AQs:Nat→Bl
 |0=>R 0 [m f] [] [2]
 |_=>R 1 [m (s 0),m (s 1),C 478 [v (l 0),r (l 1)] [],y .eql (l 2) (i 0),m (l 3)] [(2,4)] [0,1]
def AQh:Bp:=⟨3,1,[0,1],1,false,[],j (d (AQs 0)) (j (d (AQs 1)) (.ret)),[.slot 2]⟩
def ATr:List Tmp:=[0,1,4]
def ANc:Nat→Bl
 |0=>R 0 [a 1 zR] [(1,0)] []
 |1=>Q 1 [m (s 0),C 478 [v (l 0),r (i 6)] [],y .add (i 1) (l 1),b zR [(0,1,l 2)],a 2 zR,W 4 (l 4) (l 3)] [(2,4)] [] [] [.ownc 2 1 6]
 |2=>R 2 [m (s 0),C 478 [v (l 0),r (i 3)] [],m (l 1)] [(3,2)] []
 |3=>R 3 [m (s 3),y .gtr (l 0) (i 0)] [(4,1)] []
 |4=>Y 5 [D (F (s 2) 1) [] [],D (L (l 0)) [2] [],D (m (s 0)) [] [],D (C 478 [v (l 2),r (i 90)] []) [0] [0],D (y .add (i 1) (l 3)) [] [],D (C 159 [r (l 1),r (l 4)] [3]) [3,6] [3],D (F (s 2) 1) [] [],D (W 1 (l 6) (l 5)) [2] [2]] [] [] [3] [w 3 6]
 |5=>R 4 [m (s 3),y .sub (l 0) (i 1),m (l 1)] [(3,2)] []
 |6=>Q 6 [F (s 2) 1,L (l 0),M 4 1 1 [i 100],q 5 1 8 (l 1) (l 2),F (s 2) 1,W 1 (l 4) (l 3)] [] [3] [] [w 5 6]
 |7=>R 7 [m (s 0),F (s 2) 1,L (l 1),e (l 2),C 478 [v (l 0),r (l 3)] [],F (s 2) 2,W 1 (l 5) (l 4)] [] [0]
 |_=>R 8 [P 4 (s 2),W 4 (s 1) (l 0)] [] [2]
def AP0:Bp:=⟨5,7,[0],1,false,[],j (d (ANc 0)) (j (d (ANc 1)) (j (j (d (ANc 2)) (.block 0 (.loop (j (j (d (ANc 3)) (h 4 (.skip) (.exit 0))) (j (.block 1 (d (ANc 4))) (d (ANc 5))))))) (j (d (ANc 6)) (j (d (ANc 7)) (j (d (ANc 8)) (.ret)))))),[.cell 1 (some 4)]⟩
def ASC:List Tmp:=[0,2,3,4,12]
def AOH:Nat→Bl
 |0=>R 0 [m (z 1)] [] [1]
 |1=>Q 1 [M 1 1 0 [],m (l 0)] [(2,1)] [] [] [w 1 4]
 |2=>R 2 [m (s 0),C 478 [v (l 0),r (i 5)] [],m (l 1)] [(3,2)] []
 |3=>R 3 [m (s 3),y .gtr (l 0) (i 0)] [(4,1)] []
 |4=>Q 5 [m (s 2),m (s 0),M 2 1 6 [i 1,i 2,i 3,i 10,i 40,i 200],C 481 [v (l 1),r (l 2)] [],C 159 [r (l 0),r (l 3)] [3],m (l 4)] [(2,5)] [] [2,3] [w 3 4]
 |5=>R 4 [m (s 3),y .sub (l 0) (i 1),m (l 1)] [(3,2)] []
 |_=>R 6 [m (s 2),m (l 0)] [(1,1)] [0,2,3]
def AP1:Bp:=⟨5,5,[0],1,false,[],j (d (AOH 0)) (j (d (AOH 1)) (j (j (d (AOH 2)) (.block 0 (.loop (j (j (d (AOH 3)) (h 4 (.skip) (.exit 0))) (j (.block 1 (d (AOH 4))) (d (AOH 5))))))) (j (d (AOH 6)) (.ret)))),[.slot 1]⟩
def ASr:List Tmp:=[0,2,3,4,9]
def AOO:Nat→Bl
 |0=>R 0 [m (i 0)] [] [1]
 |1=>R 1 [m (s 0),m (s 0),F (l 1) 0,F (l 2) 2,L (l 3),y .mul (l 4) (i 6364136223846793005),y .add (l 5) (i 1442695040888963407),F (l 0) 0,F (l 7) 2,W 1 (l 8) (l 6)] [] []
 |2=>T 2 [D (m (s 0)) [] [],D (F (l 0) 0) [] [],D (F (l 1) 2) [] [],D (L (l 2)) [0] [],D (y .shr (l 3) (.con (.sc (.int .u64 33)))) [] [],D (m (s 0)) [] [],D (F (l 5) 0) [] [],D (F (l 6) 2) [] [],D (L (l 7)) [0] [],D (y .shr (l 8) (.con (.sc (.int .u64 47)))) [] [],D (y .xor (l 4) (l 9)) [] [],D (y .and (l 10) (i 255)) [] [],D (m (l 11)) [] []] [(2,12)] []
 |3=>T 3 [D (m (s 0)) [] [],D (F (l 0) 0) [] [],D (F (l 1) 1) [] [],D (L (l 2)) [0] [],D (m (s 0)) [] [],D (F (l 4) 0) [] [],D (F (l 5) 0) [] [],D (L (l 6)) [0] [],D (e (l 7)) [] [],D (y .lss (l 3) (l 8)) [] []] [(3,9)] []
 |4=>T 4 [D (m (s 2)) [] [],D (m (s 0)) [] [],D (F (l 1) 0) [] [],D (F (l 2) 0) [] [],D (L (l 3)) [0] [],D (m (s 0)) [] [],D (F (l 5) 0) [] [],D (F (l 6) 1) [] [],D (L (l 7)) [0] [],D (A 1 (l 4) (l 8)) [] [],D (L (l 9)) [] [],D (.conv .i64 (l 10)) [] [],D (y .add (l 0) (l 11)) [] [],D (y .and (l 12) (i 255)) [] [],D (m (l 13)) [] []] [(2,14)] []
 |5=>R 5 [m (s 0),m (s 0),F (l 1) 0,F (l 2) 1,L (l 3),y .add (l 4) (i 1),F (l 0) 0,F (l 6) 1,W 1 (l 7) (l 5)] [] [0]
 |_=>R 6 [m (s 2),m (l 0)] [(1,1)] [2]
def AQg:Bp:=⟨4,1,[0],1,false,[],j (d (AOO 0)) (j (d (AOO 1)) (j (d (AOO 2)) (j (j (d (AOO 3)) (h 3 (j (d (AOO 4)) (d (AOO 5))) (.skip))) (j (d (AOO 6)) (.ret))))),[.slot 1]⟩
def ATt:List Tmp:=[0,2,3,34]
def AOF:Nat→Bl
 |0=>R 0 [m (z 4)] [] [1]
 |1=>Q 1 [M 1 4 0 [],m (l 0)] [(2,1)] [] [] [w 1 6]
 |2=>R 2 [m (s 0),C 478 [v (l 0),r (i 4)] [],m (l 1)] [(3,2)] []
 |3=>R 3 [m (s 3),y .gtr (l 0) (i 0)] [(4,1)] []
 |4=>Q 5 [m (s 2),m (s 0),C 494 [v (l 1)] [2,3],M 4 4 1 [l 2],p 5 4 64 (l 0) (l 3),m (l 4)] [(2,5)] [] [2,3,4,5] [w 5 6]
 |5=>R 4 [m (s 3),y .sub (l 0) (i 1),m (l 1)] [(3,2)] []
 |_=>R 6 [m (s 2),m (l 0)] [(1,1)] [0,2,3]
def AP2:Bp:=⟨5,7,[0],1,false,[],j (d (AOF 0)) (j (d (AOF 1)) (j (j (d (AOF 2)) (.block 0 (.loop (j (j (d (AOF 3)) (h 4 (.skip) (.exit 0))) (j (.block 1 (d (AOF 4))) (d (AOF 5))))))) (j (d (AOF 6)) (.ret)))),[.slot 1]⟩
def ASR:List Tmp:=[0,2,3,4,9]
def AQz:Nat→Bl
 |0=>R 0 [m (i 0)] [] [2]
 |_=>R 1 [m (s 1),m (s 0),m (s 1),e (l 2),C 478 [v (l 1),r (l 3)] [],A 1 (l 0) (l 4),L (l 5),m (l 6)] [(2,7)] [0,1]
def AQy:Bp:=⟨3,1,[0,1],1,false,[],j (d (AQz 0)) (j (d (AQz 1)) (.ret)),[.slot 2]⟩
def ATW:List Tmp:=[0,1,4]
def AAJ:Nat→Bl
 |0=>R 0 [a 1 zW] [(1,0)] []
 |1=>R 1 [M 2 1 1 [i 1],m (s 0),C 478 [v (l 1),r (i 2)] [],y .add (i 2) (l 2),C 159 [r (l 0),r (l 3)] [3],m (s 0),C 478 [v (l 5),r (i 2)] [],y .add (i 4) (l 6),C 159 [r (l 4),r (l 7)] [4],m (l 8)] [(2,9)] []
 |2=>R 2 [m (s 0),C 487 [v (l 0)] [5],a 6 zR,W 4 (l 2) (l 1)] [(3,2)] []
 |3=>R 3 [m (s 2),m (s 2),e (l 1),y .sub (l 2) (i 1),A 1 (l 0) (l 3),L (l 4),F (s 3) 0,W 1 (l 6) (l 5)] [] []
 |4=>R 4 [F (s 3) 2,W 1 (l 0) (i 0)] [] []
 |5=>Q 5 [M 7 4 0 [],m (l 0)] [(4,1)] [] [] [w 7 24]
 |6=>R 6 [m (s 0),C 478 [v (l 0),r (i 4)] [],y .add (i 2) (l 1),m (l 2)] [(5,3)] []
 |7=>R 7 [m (s 5),y .gtr (l 0) (i 0)] [(8,1)] []
 |8=>Q 9 [m (s 0),C 488 [v (l 0)] [8,9,10],a 11 zE,W 4 (l 2) (l 1)] [(6,2)] [] [8,9,10,11] []
 |9=>Q 10 [M 12 1 1 [i 1],m (s 0),C 478 [v (l 1),r (i 2)] [],y .add (i 2) (l 2),C 159 [r (l 0),r (l 3)] [13],F (s 6) 0,W 1 (l 5) (l 4)] [] [] [12,13] []
 |10=>Q 11 [m (s 4),P 4 (s 6),M 14 4 1 [l 1],p 15 4 80 (l 0) (l 2),m (l 3)] [(4,4)] [6] [14,15] [w 15 24]
 |11=>R 8 [m (s 5),y .sub (l 0) (i 1),m (l 1)] [(5,2)] []
 |12=>T 12 [D (m (s 2)) [] [],D (m (s 0)) [] [],D (C 489 [v (l 1)] [16]) [0,16] [0,16],D (m (s 4)) [] [],D (P 4 (s 3)) [6] [],D (C 70 [r (l 0),r (l 2),r (l 3),r (l 4)] [17,18,19,20,21,22]) [4,5,16,17,18,19,20,21,22,24] [17,18,19,20,21,22],D (m (l 5)) [] [],D (X (l 6) 0) [] [],D (X (l 6) 1) [] [],D (a 23 zW) [23] [23],D (W 15 (l 9) (l 7)) [23] [23],D (m (l 8)) [] []] [(7,9)] [0,2,3,4,5]
 |_=>R 13 [P 15 (s 7),W 15 (s 1) (l 0)] [] [7]
def APH:Bp:=⟨9,25,[0],1,false,[],j (d (AAJ 0)) (j (d (AAJ 1)) (j (d (AAJ 2)) (j (d (AAJ 3)) (j (d (AAJ 4)) (j (d (AAJ 5)) (j (j (d (AAJ 6)) (.block 0 (.loop (j (j (d (AAJ 7)) (h 8 (.skip) (.exit 0))) (j (.block 1 (j (d (AAJ 8)) (j (d (AAJ 9)) (d (AAJ 10))))) (d (AAJ 11))))))) (j (d (AAJ 12)) (j (d (AAJ 13)) (.ret))))))))),[.cell 1 (some 15)]⟩
def AR9:List Tmp:=[0,2,3,4,5,6,7,8,34]
def AGM:Nat→Bl
 |0=>R 0 [a 1 [o,N 1,N 1,c]] [(1,0)] []
 |1=>Q 1 [b [o,N 1,N 1,c] [],a 2 [o,N 1,N 1,c],W 4 (l 1) (l 0)] [(2,1)] [] [] [.ownc 2 1 6,.ownc 2 2 5]
 |2=>R 2 [m (s 0),C 478 [v (l 0),r (i 7)] []] [(3,1)] []
 |3=>R 3 [y .eql (s 3) (i 0),m (l 0)] [(4,1)] []
 |4=>R 4 [m (s 0),C 478 [v (l 0),r (i 6)] [],y .add (i 1) (l 1),F (s 2) 0,W 1 (l 3) (l 2)] [] [0,3]
 |5=>R 5 [y .eql (s 3) (i 1),m (l 0)] [(5,1)] []
 |6=>Q 6 [m (s 0),C 489 [v (l 0)] [3],F (s 2) 1,W 1 (l 2) (l 1)] [] [0,3] [] [w 3 6]
 |7=>R 7 [y .eql (s 3) (i 2),m (l 0)] [(6,1)] []
 |8=>Q 8 [m (s 0),C 489 [v (l 0)] [4],F (s 2) 2,W 1 (l 2) (l 1)] [] [0,3] [] [w 4 5]
 |9=>R 9 [y .eql (s 3) (i 3),m (l 0)] [(7,1)] [0,3]
 |10=>R 10 [F (s 2) 3,W 1 (l 0) t] [] []
 |_=>R 11 [P 4 (s 2),W 4 (s 1) (l 0)] [] [2]
def APX:Bp:=⟨8,7,[0],1,false,[],j (d (AGM 0)) (j (d (AGM 1)) (j (j (d (AGM 2)) (.block 0 (j (d (AGM 3)) (h 4 (d (AGM 4)) (j (d (AGM 5)) (h 5 (d (AGM 6)) (j (d (AGM 7)) (h 6 (d (AGM 8)) (j (d (AGM 9)) (h 7 (d (AGM 10)) (.skip))))))))))) (j (d (AGM 11)) (.ret)))),[.cell 1 (some 4)]⟩
def ASA:List Tmp:=[0,2,3,6,7,13,18,23]
def ATC:Nat→Bl
 |0=>R 0 [m (z 6)] [] [2]
 |1=>Q 1 [b [o,o,o,N 1,N 1,c] [(0,1,i 2)],M 1 6 1 [l 0],m (l 1)] [(3,2)] [] [] [w 1 6]
 |2=>R 2 [m (s 0),m (s 1),C 478 [v (l 0),r (l 1)] [],m (l 2)] [(4,3)] [1]
 |3=>R 3 [m (s 4),y .gtr (l 0) (i 0)] [(5,1)] []
 |4=>Q 5 [m (s 3),m (s 0),C 492 [v (l 1)] [2,3],M 4 6 1 [l 2],p 5 6 80 (l 0) (l 3),m (l 4)] [(3,5)] [] [2,3,4,5] [w 5 6]
 |5=>R 4 [m (s 4),y .sub (l 0) (i 1),m (l 1)] [(4,2)] []
 |_=>R 6 [m (s 3),m (l 0)] [(2,1)] [0,3,4]
def AU5:Bp:=⟨6,7,[0,1],1,false,[],j (d (ATC 0)) (j (d (ATC 1)) (j (j (d (ATC 2)) (.block 0 (.loop (j (j (d (ATC 3)) (h 5 (.skip) (.exit 0))) (j (.block 1 (d (ATC 4))) (d (ATC 5))))))) (j (d (ATC 6)) (.ret)))),[.slot 2]⟩
def AXi:List Tmp:=[0,1,4,5,6,13]
def ASm:Nat→Bl
 |0=>R 0 [a 1 [o,o,o,N 1,N 1,c]] [(1,0)] []
 |1=>R 1 [m (s 0),C 478 [v (l 0),r (i 12)] []] [(2,1)] []
 |2=>R 2 [y .eql (s 2) (i 0),m (l 0)] [(3,1)] []
 |3=>R 3 [b [o,o,o,N 1,N 1,c] [(0,1,i 2)],W 6 (s 1) (l 0)] [] [0,2]
 |4=>R 4 [y .eql (s 2) (i 1),m (l 0)] [(4,1),(10,1)] []
 |5=>R 5 [y .eql (s 2) (i 2),m (l 0)] [(4,1),(10,1)] []
 |6=>R 6 [b [o,o,o,N 1,N 1,c] [(0,1,i 3)],W 6 (s 1) (l 0)] [] [0,2]
 |7=>R 7 [y .eql (s 2) (i 3),m (l 0)] [(5,1)] []
 |8=>R 8 [m (s 0),C 478 [v (l 0),r (i 5)] [],y .add (i 1) (l 1),b [o,o,o,N 1,N 1,c] [(0,1,i 4),(1,1,l 2)],W 6 (s 1) (l 3)] [] [0,2]
 |9=>R 9 [y .eql (s 2) (i 4),m (l 0)] [(6,1)] []
 |10=>R 10 [m (s 0),C 478 [v (l 0),r (i 6)] [],y .add (i 1) (l 1),b [o,o,o,N 1,N 1,c] [(0,1,i 5),(1,1,l 2)],W 6 (s 1) (l 3)] [] [0,2]
 |11=>R 11 [y .eql (s 2) (i 5),m (l 0)] [(7,1)] []
 |12=>R 12 [m (s 0),C 478 [v (l 0),r (i 5)] [],m (s 0),C 494 [v (l 2)] [2,3],b [o,o,o,N 1,N 1,c] [(0,1,i 6),(1,1,l 1),(2,4,l 3)],W 6 (s 1) (l 4)] [] [0,2]
 |13=>R 13 [y .eql (s 2) (i 6),m (l 0)] [(8,1)] []
 |14=>R 14 [m (s 0),C 478 [v (l 0),r (i 5)] [],b [o,o,o,N 1,N 1,c] [(0,1,i 7),(1,1,l 1)],W 6 (s 1) (l 2)] [] [0,2]
 |15=>R 15 [y .eql (s 2) (i 7),m (l 0)] [(9,1)] [2]
 |16=>R 16 [m (s 0),C 478 [v (l 0),r (i 3)] [],y .add (i 1) (l 1),b [o,o,o,N 1,N 1,c] [(0,1,i 8),(1,1,l 2)],W 6 (s 1) (l 3)] [] [0]
 |_=>R 17 [m (s 0),C 478 [v (l 0),r (i 5)] [],b [o,o,o,N 1,N 1,c] [(0,1,i 1),(1,1,l 1)],W 6 (s 1) (l 2)] [] [0]
def AVF:Bp:=⟨11,4,[0],1,false,[],j (d (ASm 0)) (j (j (d (ASm 1)) (.block 0 (j (d (ASm 2)) (h 3 (j (d (ASm 3)) (.ret)) (j (j (d (ASm 4)) (h 4 (.skip) (d (ASm 5)))) (h 10 (j (d (ASm 6)) (.ret)) (j (d (ASm 7)) (h 5 (j (d (ASm 8)) (.ret)) (j (d (ASm 9)) (h 6 (j (d (ASm 10)) (.ret)) (j (d (ASm 11)) (h 7 (j (d (ASm 12)) (.ret)) (j (d (ASm 13)) (h 8 (j (d (ASm 14)) (.ret)) (j (d (ASm 15)) (h 9 (j (d (ASm 16)) (.ret)) (.skip))))))))))))))))) (j (d (ASm 17)) (.ret))),[.cell 1 (some 6)]⟩
def AXm:List Tmp:=[0,2,4,5,8,12,18,24,31,36,8]
def DZ:Nat→Bl
 |0=>R 0 [x 0 (s 0),x 1 (s 1),a 2 [c,o,N 1]] [(6,0),(7,1),(8,2)] [0,1]
 |1=>R 1 [m (s 2),m (s 3),P 2 (s 7),C 343 [r (l 0),r (l 1),r (l 2)] [3],m (l 3),X (l 4) 0,X (l 4) 1,a 4 [o,N 2],W 2 (l 7) (l 5),m (l 6)] [(9,7),(10,9)] [2,3]
 |2=>R 2 [m (s 10),n (l 0)] [(13,1)] [10]
 |3=>R 3 [b [c,o,N 1] [],W 3 (s 8) (l 0)] [] [4,5,6,7,9]
 |4=>R 4 [P 2 (s 9),a 5 [o,N 2],W 2 (l 1) (l 0)] [(11,1)] []
 |5=>R 5 [m (s 5),e (l 0),m (i 0)] [(14,1),(15,2)] [5]
 |6=>R 6 [y .lss (s 15) (s 14)] [(16,0)] [14,15]
 |7=>T 10 [D (m (s 4)) [] [],D (P 2 (s 7)) [1] [],D (C 345 [r (l 1)] [6]) [6] [6],D (P 2 (s 9)) [4] [],D (C 346 [r (l 3)] [7]) [3,7] [7],D (M 8 1 2 [l 2,l 4]) [6,7,8] [6,7,8],D (C 347 [r (l 0),r (l 5),r (i 1)] []) [8] [],D (m (l 6)) [] []] [(12,7)] [7,9]
 |8=>T 11 [D (P 2 (s 6)) [0] [],D (P 2 (s 11)) [5] [],D (C 348 [r (l 0),r (l 1)] []) [3] [],D (n (l 2)) [] [],D (m (l 3)) [] [],H 4 (m (s 4)) [] [],H 4 (P 2 (s 6)) [0] [],H 4 (C 345 [r (l 6)] [9]) [9] [9],H 4 (P 2 (s 11)) [5] [],H 4 (C 346 [r (l 8)] [10]) [3,10] [10],H 4 (M 11 1 2 [l 7,l 9]) [9,10,11] [9,10,11],H 4 (m (s 12)) [] [],H 4 (C 349 [r (l 5),r (l 10),r (i 1),r (l 11)] []) [11] [],H 4 (n (l 12)) [] [],D (k (l 4) t (l 13)) [] []] [(17,14)] [4,6,12]
 |9=>R 12 [b [c,o,N 1] [],W 3 (s 8) (l 0)] [] [11]
 |_=>T 13 [D (F (s 11) 0) [] [],D (L (l 0)) [5] [],D (F (s 11) 1) [] [],D (L (l 2)) [5] [],D (C 317 [r (l 3)] [12]) [3,12] [12],D (b [c,o,N 1] [(0,1,t),(1,1,l 1),(2,1,l 4)]) [] [],D (W 3 (s 8) (l 5)) [2] [2]] [] [11]
def Zo:Bp:=⟨18,13,[0,1,2,3,4,5],0,false,[],j (d (DZ 0)) (j (d (DZ 1)) (j (j (d (DZ 2)) (h 13 (j (d (DZ 3)) (.ret)) (.skip))) (j (d (DZ 4)) (j (j (d (DZ 5)) (.block 0 (.loop (j (d (DZ 6)) (j (h 16 (.skip) (.exit 0)) (j (.block 1 (j (.stuck) (.stuck))) (.stuck))))))) (j (d (DZ 7)) (j (j (d (DZ 8)) (h 17 (j (d (DZ 9)) (.ret)) (.skip))) (j (d (DZ 10)) (.ret)))))))),[.cell 8 (some 3)]⟩
def An7:List Tmp:=[0,1,2,3,4,5,6,7,12,13,14,15,18,27,31,32,33,61]
def APh:Nat→Bl
 |0=>R 0 [x 0 (s 0),x 1 (s 1),m f] [(2,0),(3,1)] [0,1,4]
 |_=>R 1 (.append [F (s 2) 0,L (l 0),F (s 3) 0,L (l 2),C 357 [r (l 1),r (l 3)] [],m (l 4),J 5 (F (s 2) 1),J 5 (L (l 6)),J 5 (F (s 3) 1),J 5 (L (l 8)),J 5 (C 357 [r (l 7),r (l 9)] []),k (l 5) (l 10) f,m (l 11),J 12 (F (s 2) 2),J 12 (L (l 13)),J 12 (F (s 3) 2),J 12 (L (l 15)),J 12 (y .eql (l 14) (l 16)),k (l 12) (l 17) f,m (l 18),J 19 (F (s 2) 3),J 19 (L (l 20)),J 19 (F (s 3) 3),J 19 (L (l 22)),J 19 (C 501 [r (l 21),r (l 23),r (g 502)] []),k (l 19) (l 24) f,m (l 25),J 26 (F (s 2) 4),J 26 (P 4 (l 27)),J 26 (F (s 3) 4)] (.append [J 26 (P 4 (l 29)),J 26 (C 505 [r (l 28),r (l 30)] []),k (l 26) (l 31) f,m (l 32),J 33 (F (s 2) 8),J 33 (L (l 34)),J 33 (F (s 3) 8),J 33 (L (l 36)),J 33 (y .eql (l 35) (l 37)),k (l 33) (l 38) f,m (l 39),J 40 (F (s 2) 9),J 40 (L (l 41)),J 40 (F (s 3) 9),J 40 (L (l 43)),J 40 (y .eql (l 42) (l 44)),k (l 40) (l 45) f,m (l 46),J 47 (F (s 2) 10),J 47 (L (l 48)),J 47 (F (s 3) 10),J 47 (L (l 50)),J 47 (C 506 [r (l 49),r (l 51),r (g 507)] []),k (l 47) (l 52) f,m (l 53),J 54 (F (s 2) 11),J 54 (L (l 55)),J 54 (F (s 3) 11),J 54 (L (l 57)),J 54 (C 509 [r (l 56),r (l 58),r (g 510)] [])] [k (l 54) (l 59) f,m (l 60),J 61 (F (s 2) 12),J 61 (L (l 62)),J 61 (F (s 3) 12),J 61 (L (l 64)),J 61 (y .eql (l 63) (l 65)),k (l 61) (l 66) f,m (l 67),J 68 (F (s 2) 13),J 68 (L (l 69)),J 68 (F (s 3) 13),J 68 (L (l 71)),J 68 (y .eql (l 70) (l 72)),k (l 68) (l 73) f,m (l 74),J 75 (F (s 2) 14),J 75 (L (l 76)),J 75 (F (s 3) 14),J 75 (L (l 78)),J 75 (y .eql (l 77) (l 79)),k (l 75) (l 80) f,m (l 81)])) [(4,82)] [2,3]
def APv:Bp:=⟨5,2,[0,1],0,false,[],j (d (APh 0)) (j (d (APh 1)) (.ret)),[.slot 4]⟩
def AQ0:List Tmp:=[0,1,2,3,4]
def Cn:Nat→Bl
 |0=>R 0 [m (z 2)] [] [2]
 |1=>R 1 [m (s 1),C 310 [r (l 0)] [],m (l 1)] [(3,2)] []
 |2=>R 2 [m (s 0),C 311 [r (l 0)] [0],m (l 1)] [(4,2)] []
 |3=>R 3 [m (s 0),C 312 [r (l 0)] [],n (l 1),m (l 2),G 3 (m (s 0)),G 3 (e (l 4)),G 3 (y .geq (l 5) (i 6)),k (l 3) t (l 6),m (l 7),G 8 (m (s 0)),G 8 (m (s 3)),G 8 (C 309 [r (l 9),r (l 10)] []),G 8 (y .geq (l 11) (i 0)),k (l 8) t (l 12)] [(8,13)] []
 |4=>R 4 [m (s 4),m (l 0)] [(2,1)] [0,1,3,4]
 |5=>Q 5 [m (s 3),b [o,N 1] [(0,1,l 0)],a 1 [o,N 1],W 2 (l 2) (l 1)] [(5,2)] [3] [] [.ownc 1 1 9]
 |6=>R 6 [m (s 1),C 313 [r (l 0),r (i 2),r (i 3)] [],m (l 1)] [(6,2)] []
 |7=>R 7 [m (s 6),y .gtr (l 0) (i 0)] [(9,1)] []
 |8=>Y 9 [D (F (s 5) 1) [] [],D (L (l 0)) [1] [],D (m (s 1)) [] [],D (C 313 [r (l 2),r (i 3),r (i 256)] []) [] [],D (M 2 1 1 [l 3]) [2] [2],D (q 3 1 8 (l 1) (l 4)) [2,3,9] [3,9],D (F (s 5) 1) [] [],D (W 1 (l 6) (l 5)) [1] [1]] [] [] [2,3] [w 3 9]
 |9=>R 8 [m (s 6),y .sub (l 0) (i 1),m (l 1)] [(6,2)] []
 |10=>R 10 [m (s 1),m (s 0),e (l 1),y .add (l 2) (i 1),C 313 [r (l 0),r (i 1),r (l 3)] [],m (l 4)] [(7,5)] [0,1,6]
 |_=>T 11 [D (M 4 2 0 []) [4] [4],D (m (s 4)) [] [],D (m (s 7)) [] [],D (.slice 2 (l 1) none (some (l 2))) [0] [],D (p 5 2 32 (l 0) (l 3)) [0,4,5,100000] [0,4,5,100000],D (P 2 (s 5)) [1] [],D (M 6 2 1 [l 5]) [6,9] [6,9],D (p 7 2 32 (l 4) (l 6)) [5,6,7] [5,6,7],D (m (s 4)) [] [],D (m (s 7)) [] [],D (.slice 2 (l 8) (some (l 9)) none) [0] [],D (p 8 2 32 (l 7) (l 10)) [0,7,8,100000] [0,7,8,100000],D (m (l 11)) [] []] [(2,12)] [4,5,7]
def Sn:Bp:=⟨10,10,[0,1],0,false,[],j (d (Cn 0)) (j (d (Cn 1)) (j (d (Cn 2)) (j (j (d (Cn 3)) (h 8 (j (d (Cn 4)) (.ret)) (.skip))) (j (d (Cn 5)) (j (j (d (Cn 6)) (.block 0 (.loop (j (j (d (Cn 7)) (h 9 (.skip) (.exit 0))) (j (.block 1 (d (Cn 8))) (d (Cn 9))))))) (j (d (Cn 10)) (j (d (Cn 11)) (.ret)))))))),[.slot 2]⟩
def Ae8:List Tmp:=[0,1,4,5,6,7,8,9,27,34]
attribute [simp] AOT AP5 AOI APU ANC AP3 AOG APW AQs AQh ANc AP0 AOH AP1 AOO AQg AOF AP2 AQz AQy AAJ APH AGM APX ATC AU5 ASm AVF DZ Zo APh APv Cn Sn
end Go.Eng.T
namespace Go.Eng.T
set_option maxRecDepth 20000
set_option maxHeartbeats 1000000
theorem Avu (D:Dn):Ih (Body D SQ):=by
 intro xs ys h1 h2
 unfold maxLen at h1 h2
 by_cases hl:xs.length=ys.length
 rotate_left
 ·have hl':¬(xs.length:Int)=ys.length:=by omega
  have:xs≠ys:=fun h=>hl (by rw[h])
  simp -implicitDefEqProofs [hl',this]
 have hl':(xs.length:Int)=ys.length:=by omega
 simp -implicitDefEqProofs [hl']
 refine Af (fun k s=>∃j,j+k=xs.length∧xs.take j=ys.take j∧s=⟨[.sl 1 1 xs.length (ints xs),.sl 1 1 ys.length (ints ys),.undef,I j,.undef,.undef,.undef],[]⟩) ?_ (xs.length) _ ⟨0,by simp,by simp,by simp⟩
 intro k s ⟨j,hj,hp,hs⟩
 subst hs
 by_cases hjn:j<xs.length
 ·have hw:IntKind.i64.wrap ((j:Int)+1)=(j+1:Nat):=by rw[Ab (by omega) (by omega)];simp
  have hy:j<ys.length:=by omega
  by_cases he:xs[j]=ys[j]
  ·simp -implicitDefEqProofs [hjn,hy,he]
   exact⟨k-1,by omega,j+1,by omega,KL hjn hy hp he,by simp[hw]⟩
  ·have hne:xs≠ys:=fun h=>he (by simp[h])
   simp -implicitDefEqProofs [hjn,hy,he,hne]
 ·obtain rfl:xs=ys:=M4 (by omega) hl hp
  simp -implicitDefEqProofs [hjn]
theorem AG1 (D:Dn):Ih (Body D Jv):=by
 intro xs ys h1 h2
 unfold maxLen at h1 h2
 by_cases hl:xs.length=ys.length
 rotate_left
 ·have hl':¬(xs.length:Int)=ys.length:=by omega
  have:xs≠ys:=fun h=>hl (by rw[h])
  simp -implicitDefEqProofs [hl',this]
 have hl':(xs.length:Int)=ys.length:=by omega
 simp -implicitDefEqProofs [hl']
 refine Af (fun k s=>∃j,j+k=xs.length∧xs.take j=ys.take j∧s=⟨[.sl 1 1 xs.length (ints xs),.sl 1 1 ys.length (ints ys),.undef,.undef,.undef,I ys.length,I j,.undef,.undef],[]⟩) ?_ (xs.length) _ ⟨0,by simp,by simp,by simp⟩
 intro k s ⟨j,hj,hp,hs⟩
 subst hs
 by_cases hjn:j<xs.length
 ·have hw:IntKind.i64.wrap ((j:Int)+1)=(j+1:Nat):=by rw[Ab (by omega) (by omega)];simp
  have hy:j<ys.length:=by omega
  by_cases he:xs[j]=ys[j]
  ·simp -implicitDefEqProofs [hjn,hy,he]
   exact⟨k-1,by omega,j+1,by omega,KL hjn hy hp he,by simp[hw]⟩
  ·have hne:xs≠ys:=fun h=>he (by simp[h])
   simp -implicitDefEqProofs [hjn,hy,he,hne]
 ·obtain rfl:xs=ys:=M4 (by omega) hl hp
  simp -implicitDefEqProofs [hjn]
abbrev TI (R:Rel):Prop:=∀a b:List Ext,WQ a→WQ b→R [.sl 1 2 a.length (a.flatMap Ce),.sl 1 2 b.length (b.flatMap Ce)] [] (B (decide (a=b))) []
abbrev Xp (R:Rel):Prop:=∀a b:Ext,a.body.length≤4194304→b.body.length≤4194304→R [arg (Ce a),arg (Ce b)] [] (B (decide (a=b))) []
theorem ext_eq {a b:Ext} (h1:a.tag=b.tag) (h2:a.body=b.body):a=b:=by cases a;cases b;simp_all
theorem AvW (D:Dn) (hE:Ih (D ZJ)):TI (Body D SS):=by
 intro a b ha hb
 have h1:=ha.1
 have h2:=hb.1
 by_cases hl:a.length=b.length
 rotate_left
 ·have hl':¬(a.length:Int)=b.length:=by omega
  have:a≠b:=fun h=>hl (by rw[h])
  simp -implicitDefEqProofs [hl',this]
 have hl':(a.length:Int)=b.length:=by omega
 simp -implicitDefEqProofs [hl']
 refine Af (fun k s=>∃j,j+k=a.length∧a.take j=b.take j∧s=⟨[.sl 1 2 a.length (a.flatMap Ce),.sl 1 2 b.length (b.flatMap Ce),.undef,I j,.undef,.undef,.undef],[]⟩) ?_ (a.length) _ ⟨0,by simp,by simp,by simp⟩
 intro k s ⟨j,hj,hp,hs⟩
 subst hs
 by_cases hjn:j<a.length
 ·have hw:IntKind.i64.wrap ((j:Int)+1)=(j+1:Nat):=by rw[Ab (by omega) (by omega)];simp
  have hy:j<b.length:=by omega
  by_cases g1:a[j].tag=b[j].tag
  rotate_left
  ·have hne:a≠b:=fun h=>g1 (by simp[h])
   simp -implicitDefEqProofs [hjn,hy,g1,hne]
  simp -implicitDefEqProofs [hjn,hy,g1]
  refine Aa (hE a[j].body b[j].body (by have:=OV ha hjn;unfold maxLen;omega) (by have:=OV hb hy;unfold maxLen;omega)) ?_
  by_cases g2:a[j].body=b[j].body
  ·simp -implicitDefEqProofs [g2]
   exact⟨k-1,by omega,j+1,by omega,KL hjn hy hp (ext_eq g1 g2),by simp[hw]⟩
  ·have hne:a≠b:=fun h=>g2 (by simp[h])
   simp -implicitDefEqProofs [g2,hne]
 ·obtain rfl:a=b:=M4 (by omega) hl hp
  simp -implicitDefEqProofs [hjn]
theorem ACl (D:Dn) (hE:Ih (D MO)):Xp (Body D UI):=by
 intro a b ha hb
 by_cases g1:a.tag=b.tag
 rotate_left
 ·have hne:a≠b:=fun h=>g1 (by simp[h])
  simp -implicitDefEqProofs [g1,hne]
 simp -implicitDefEqProofs [g1]
 refine Aa (hE a.body b.body (by unfold maxLen;omega) (by unfold maxLen;omega)) ?_
 by_cases g2:a.body=b.body
 ·have e:=ext_eq g1 g2
  simp -implicitDefEqProofs [g2,e]
 ·have hne:a≠b:=fun h=>g2 (by simp[h])
  simp -implicitDefEqProofs [g2,hne]
abbrev Y4 (D:Dn) (R:Rel):Prop:=∀(a b:List Ext) (g:Nat),WQ a→WQ b→Xp (D g)→R [.sl 1 2 a.length (a.flatMap Ce),.sl 1 2 b.length (b.flatMap Ce),.fn g []] [] (B (decide (a=b))) []
theorem AzD (D:Dn):Y4 D (Body D BV):=by
 intro a b g ha hb hg
 have h1:=ha.1
 have h2:=hb.1
 by_cases hl:a.length=b.length
 rotate_left
 ·have hl':¬(a.length:Int)=b.length:=by omega
  have:a≠b:=fun h=>hl (by rw[h])
  simp -implicitDefEqProofs [hl',this]
 have hl':(a.length:Int)=b.length:=by omega
 simp -implicitDefEqProofs [hl']
 refine Af (fun k s=>∃j o0 o1,j+k=a.length∧a.take j=b.take j∧s=⟨[.undef,.sl 1 2 b.length (b.flatMap Ce),.fn g [],.undef,.undef,.undef,.undef,.undef,.sl 1 2 a.length (a.flatMap Ce),I b.length,I j,.undef,.undef],[o0,o1]⟩) ?_ (a.length) _ ⟨0,.free,.free,by simp,by simp,by simp⟩
 intro k s ⟨j,o0,o1,hj,hp,hs⟩
 subst hs
 by_cases hjn:j<a.length
 ·have hw:IntKind.i64.wrap ((j:Int)+1)=(j+1:Nat):=by rw[Ab (by omega) (by omega)];simp
  have hy:j<b.length:=by omega
  simp -implicitDefEqProofs [hjn,hy,↓Un Us]
  refine Aa (hg a[j] b[j] (OV ha hjn) (OV hb hy)) ?_
  by_cases g2:a[j]=b[j]
  ·simp -implicitDefEqProofs [g2]
   exact⟨k-1,by omega,j+1,by omega,KL hjn hy hp g2,by simp[hw]⟩
  ·have hne:a≠b:=fun h=>g2 (by simp[h])
   simp -implicitDefEqProofs [g2,hne]
 ·obtain rfl:a=b:=M4 (by omega) hl hp
  simp -implicitDefEqProofs [hjn]
theorem AwL (D:Dn) (h1:Xp (D Aov)) (hE:Y4 D (D GU)):TI (Body D SB):=by
 intro a b ha hb
 simp -implicitDefEqProofs
 refine Aa (hE a b _ ha hb h1) ?_
 simp -implicitDefEqProofs
abbrev N8 (R:Rel):Prop:=∀a b:Hello,hB a→hB b→R [arg (DJ a),arg (DJ b)] [] (B (decide (a=b))) []
theorem Ap3 {a b:Hello} (h1:a.versions=b.versions) (h2:a.exts=b.exts):a=b:=by cases a;cases b;simp_all
theorem Ao1 (D:Dn) (hE:Ih (D ZJ)) (hX:TI (D ZN)):N8 (Body D O1):=by
 intro a b ha hb
 simp -implicitDefEqProofs
 refine Aa (hE a.versions b.versions (by have:=ha.1;unfold maxLen;omega) (by have:=hb.1;unfold maxLen;omega)) ?_
 by_cases g1:a.versions=b.versions
 rotate_left
 ·have hne:a≠b:=fun h=>g1 (by simp[h])
  simp -implicitDefEqProofs [g1,hne]
 simp -implicitDefEqProofs [g1]
 refine Aa (hX a.exts b.exts ha.2 hb.2) ?_
 by_cases g2:a.exts=b.exts
 ·have e:=Ap3 g1 g2
  simp -implicitDefEqProofs [g2,e]
 ·have hne:a≠b:=fun h=>g2 (by simp[h])
  simp -implicitDefEqProofs [g2,hne]
theorem AoH (D:Dn) (hE:Ih (D MO)) (hX:TI (D Am0)):N8 (Body D PD):=by
 intro a b ha hb
 simp -implicitDefEqProofs
 refine Aa (hE a.versions b.versions (by have:=ha.1;unfold maxLen;omega) (by have:=hb.1;unfold maxLen;omega)) ?_
 by_cases g1:a.versions=b.versions
 rotate_left
 ·have hne:a≠b:=fun h=>g1 (by simp[h])
  simp -implicitDefEqProofs [g1,hne]
 simp -implicitDefEqProofs [g1]
 refine Aa (hX a.exts b.exts ha.2 hb.2) ?_
 by_cases g2:a.exts=b.exts
 ·have e:=Ap3 g1 g2
  simp -implicitDefEqProofs [g2,e]
 ·have hne:a≠b:=fun h=>g2 (by simp[h])
  simp -implicitDefEqProofs [g2,hne]
theorem At6:∀ {path:List H9} {h:Hello},hB h→hB (Kg path h).1
 | [],h,hh=>hh
 | b::r,h,hh=>by
  unfold Kg
  split
  ·exact At6 (AvF hh)
  ·exact Apj
theorem Ra {path:List H9} {h:Hello} (hh:hB h):hB (Bw path h).1:=by
 unfold Bw
 split
 ·exact At6 hh
 ·exact Apj
theorem Akd:∀ {path:List H9} {h:Hello},(Kg path h).2=true→(Kg path h).1.versions=h.versions
 | [],h,_=>rfl
 | b::r,h,hk=>by
  unfold Kg at hk⊢
  split at hk
  ·rename_i hb
   rw[if_pos hb,Akd hk]
   unfold CO at hb⊢
   split at hb
   ·rename_i hc;rw[if_pos hc]
   ·cases hb
  ·cases hk
theorem Asr {path:List H9} {h:Hello} (hk:(Bw path h).2=true):(Bw path h).1.versions=h.versions:=by
 unfold Bw at hk⊢
 split at hk
 ·rename_i hc;rw[if_pos hc];exact Akd hk
 ·cases hk
def Es (h:Hello) (path:List H9):Bool:=(Bw path h).2&&decide ((Bw path h).1=h)
abbrev Ii (R:Rel):Prop:=∀(h:Hello) (path:List H9),hB h→lnS JG path→R [arg (DJ h),.sl 1 4 path.length (path.flatMap CW)] [] (B (Es h path)) []
theorem Aom (D:Dn) (hP:Hy (D PK)) (hQ:N8 (D AeR)):Ii (Body D O7):=by
 intro h path hh hb
 simp -implicitDefEqProofs
 refine Aa (hP path h hb hh) ?_
 have hr:=Ra (path:=path) hh
 have e:Es h path=((Bw path h).2&&decide ((Bw path h).1=h)):=rfl
 generalize Bw path h=r at hr e
 by_cases g1:r.2=true
 rotate_left
 ·simp -implicitDefEqProofs [g1,e]
 simp -implicitDefEqProofs [g1]
 refine Aa (hQ r.1 h hr hh) ?_
 simp -implicitDefEqProofs [e,g1]
theorem ApV (D:Dn) (hP:Hy (D Pe)) (hQ:N8 (D Ahk)):Ii (Body D Pv):=by
 intro h path hh hb
 simp -implicitDefEqProofs
 refine Aa (hP path h hb hh) ?_
 have hr:=Ra (path:=path) hh
 have e:Es h path=((Bw path h).2&&decide ((Bw path h).1=h)):=rfl
 generalize Bw path h=r at hr e
 by_cases g1:r.2=true
 rotate_left
 ·simp -implicitDefEqProofs [g1,e]
 simp -implicitDefEqProofs [g1]
 refine Aa (hQ r.1 h hr hh) ?_
 simp -implicitDefEqProofs [e,g1]
end Go.Eng.T
namespace Go.Eng.T
set_option maxRecDepth 20000
set_option maxHeartbeats 1000000
def Kj (path:List H9) (vs:List Int) (x:Ext):Bool:= !Es ⟨vs.take 1,[x]⟩ path
def Gz (path:List H9) (vs:List Int) (l:List Ext):List Int:=if FU l&&isOpen path vs then Av (l.filter (Kj path vs))else []
abbrev NU (R:Rel):Prop:=∀(path:List H9) (vs:List Int) (l:List Ext),lnS JG path→vs.length≤4194304→WQ l→R [.sl 1 4 path.length (path.flatMap CW),.sl 1 1 vs.length (ints vs),.sl 1 2 l.length (l.flatMap Ce)] [] (.sl 0 1 (Gz path vs l).length (ints (Gz path vs l))) []
theorem Azf {path:List H9} {vs:List Int} (h:isOpen path vs=true):0<vs.length:=by
 unfold isOpen at h
 simp only[Bool.and_eq_true]at h
 exact Aas h.1
theorem AoO {p:Ext→Bool} {l:List Ext} {j:Nat} (h:j<l.length):Av ((l.take (j+1)).filter p)=Av ((l.take j).filter p)++(if p l[j]then [l[j].tag]else []):=by
 rw[Ars h]
 unfold Av
 rw[List.map_append]
 split<;>simp
theorem Auo {p:Ext→Bool} {l:List Ext} {j:Nat}:(Av ((l.take j).filter p)).length≤j:=by
 unfold Av
 rw[List.length_map]
 exact AuF
theorem ABg {path:List H9} {vs:List Int} {x:Ext}:Kj path vs x= !((Bw path ⟨vs.take 1,[x]⟩).2&&decide ((Bw path ⟨vs.take 1,[x]⟩).1.exts=[x])):=by
 unfold Kj Es
 by_cases h:(Bw path ⟨vs.take 1,[x]⟩).2=true
 ·have hv:=Asr h
  have e:decide ((Bw path ⟨vs.take 1,[x]⟩).1=⟨vs.take 1,[x]⟩)=decide ((Bw path ⟨vs.take 1,[x]⟩).1.exts=[x]):=by
   rw[decide_eq_decide]
   constructor
   ·intro h1;rw[h1]
   ·intro h1;exact Ap3 hv h1
  rw[e]
 ·simp[h]
theorem Azm (D:Dn) (hA:Ia (D MU)) (hO:I9 (D XO)) (hH:IA (D XD)) (hP:Hy (D PK)) (hX:TI (D ZN)):NU (Body D U8):=by
 intro path vs l hb hv hl
 have hll:=hl.1
 simp -implicitDefEqProofs
 refine Aa (hA l hl) ?_
 by_cases h1:FU l=true
 rotate_left
 ·simp -implicitDefEqProofs [h1,Gz]
 simp -implicitDefEqProofs [h1]
 refine Aa (hO path vs hb hv) ?_
 by_cases h2:isOpen path vs=true
 rotate_left
 ·simp -implicitDefEqProofs [h2,h1,Gz]
 have e:Gz path vs l=Av (l.filter (Kj path vs)):=by unfold Gz;rw[h1,h2];rfl
 have hpos:=Azf h2
 have h1l:(1:Int)≤vs.length:=by omega
 have h1n:1≤vs.length:=by omega
 have hlen:(vs.take 1).length=1:=by simp;omega
 have hmin:min 1 vs.length=1:=by omega
 rw[e]
 simp -implicitDefEqProofs [h2]
 refine Af (fun k s=>∃j o1 o2 o3 o4 o5 o6 o7 o8,j+k=l.length∧s=⟨[.sl 1 4 path.length (path.flatMap CW),.sl 1 1 vs.length (ints vs),.sl 1 2 l.length (l.flatMap Ce),.undef,.arr 9,I j,.undef,.undef,.undef,.undef,.undef,.undef],[.free,o1,o2,o3,o4,o5,o6,o7,o8,.arr 1 0 (Av ((l.take j).filter (Kj path vs))).length (ints (Av ((l.take j).filter (Kj path vs))))]⟩) ?_ (l.length) _ ⟨0,.free,.free,.free,.free,.free,.free,.free,.free,by simp,by simp[Av,ints]⟩
 intro k s ⟨j,o1,o2,o3,o4,o5,o6,o7,o8,hj,hs⟩
 subst hs
 by_cases hjn:j<l.length
 ·have hw:IntKind.i64.wrap ((j:Int)+1)=(j+1:Nat):=by rw[Ab (by omega) (by omega)];simp
  have hst:=AoO (p:=Kj path vs) hjn
  have hfl:=Auo (p:=Kj path vs) (l:=l) (j:=j)
  have hb1:((Av ((l.take j).filter (Kj path vs))).length+1)*8≤1099511627776:=by omega
  have hw1:IntKind.i64.wrap ((j:Int)+1)=(j:Int)+1:=Ab (by omega) (by omega)
  have hj1:j+1≤l.length:=by omega
  have hj2:(j:Int)+1≤l.length:=by omega
  have hjj:(j:Int)≤(j:Int)+1:=by omega
  have h11:j+1-j=1:=by omega
  simp -implicitDefEqProofs [hjn,h1l,h1n]
  have hh:=hH (vs.take 1) (by omega)
  rw[hlen]at hh
  refine Aa (hh) ?_
  have hdt:(l.drop j).take 1=[l[j]]:=by rw[List.drop_eq_getElem_cons hjn];rfl
  simp -implicitDefEqProofs [hmin,hw1,hj1,hj2,hjj,h11,hdt]
  have hhB:hB ⟨vs.take 1,[l[j]]⟩:=⟨by simp;omega,by simp,by intro x hx;simp at hx;subst hx;exact OV hl hjn⟩
  have hp:=hP path ⟨vs.take 1,[l[j]]⟩ hb hhB
  have hr:=Ra (path:=path) hhB
  have hq:=ABg (path:=path) (vs:=vs) (x:=l[j])
  simp -implicitDefEqProofs [hmin,arg]at hp
  refine Aa (hp) ?_
  generalize Bw path ⟨vs.take 1,[l[j]]⟩=r at hr hq
  by_cases g1:r.2=true
  rotate_left
  ·have h3:Kj path vs l[j]=true:=by rw[hq];simp[g1]
   rw[if_pos h3]at hst
   simp -implicitDefEqProofs [g1,hjn,hb1]
   exact⟨k-1,by omega,j+1,by omega,by simp[hw],by rw[hst];simp,by rw[hst]⟩
  simp -implicitDefEqProofs [g1]
  have hx:=hX r.1.exts [l[j]] hr.2 hhB.2
  simp -implicitDefEqProofs [arg]at hx
  refine Aa (hx) ?_
  by_cases g2:r.1.exts=[l[j]]
  ·have h3:¬Kj path vs l[j]=true:=by rw[hq];simp[g1,g2]
   rw[if_neg h3,List.append_nil]at hst
   simp -implicitDefEqProofs [g2]
   exact⟨k-1,by omega,j+1,by omega,by simp[hw],by rw[hst],by rw[hst]⟩
  ·have h3:Kj path vs l[j]=true:=by rw[hq];simp[g2]
   rw[if_pos h3]at hst
   simp -implicitDefEqProofs [g2,hjn,hb1]
   exact⟨k-1,by omega,j+1,by omega,by simp[hw],by rw[hst];simp,by rw[hst]⟩
 ·have e2:(l.take j).filter (Kj path vs)=l.filter (Kj path vs):=AhR (by omega)
  simp -implicitDefEqProofs [hjn,e2]
theorem AxS (D:Dn) (hA:Ia (D MW)) (hO:I9 (D Ai5)) (hP:Ii (D VN)):NU (Body D Ve):=by
 intro path vs l hb hv hl
 have hll:=hl.1
 simp -implicitDefEqProofs
 refine Aa (hO path vs hb hv) ?_
 by_cases h2:isOpen path vs=true
 rotate_left
 ·simp -implicitDefEqProofs [h2,Gz]
 simp -implicitDefEqProofs [h2]
 refine Aa (hA l hl) ?_
 by_cases h1:FU l=true
 rotate_left
 ·simp -implicitDefEqProofs [h1,Gz]
 have e:Gz path vs l=Av (l.filter (Kj path vs)):=by unfold Gz;rw[h1,h2];rfl
 have hpos:=Azf h2
 have h1l:(1:Int)≤vs.length:=by omega
 have h1n:1≤vs.length:=by omega
 have hlen:(vs.take 1).length=1:=by simp;omega
 have hmin:min 1 vs.length=1:=by omega
 rw[e]
 simp -implicitDefEqProofs [h1]
 refine Af (fun k s=>∃j v5 o1 o2 o3 o4,j+k=l.length∧s=⟨[.sl 1 4 path.length (path.flatMap CW),.sl 1 1 vs.length (ints vs),.undef,.undef,.arr 5,v5,.undef,.sl 1 2 l.length (l.flatMap Ce),I l.length,I j,.undef,.undef],[.free,o1,o2,o3,o4,.arr 1 0 (Av ((l.take j).filter (Kj path vs))).length (ints (Av ((l.take j).filter (Kj path vs))))]⟩) ?_ (l.length) _ ⟨0,.undef,.free,.free,.free,.free,by simp,by simp[Av,ints]⟩
 intro k s ⟨j,v5,o1,o2,o3,o4,hj,hs⟩
 subst hs
 by_cases hjn:j<l.length
 ·have hw:IntKind.i64.wrap ((j:Int)+1)=(j+1:Nat):=by rw[Ab (by omega) (by omega)];simp
  have hst:=AoO (p:=Kj path vs) hjn
  have hfl:=Auo (p:=Kj path vs) (l:=l) (j:=j)
  have hb1:((Av ((l.take j).filter (Kj path vs))).length+1)*8≤1099511627776:=by omega
  have hhB:hB ⟨vs.take 1,[l[j]]⟩:=⟨by simp;omega,by simp,by intro x hx;simp at hx;subst hx;exact OV hl hjn⟩
  simp -implicitDefEqProofs [hjn,h1l,h1n]
  have hp:=hP ⟨vs.take 1,[l[j]]⟩ path hhB hb
  have hq:Kj path vs l[j]= !Es ⟨vs.take 1,[l[j]]⟩ path:=rfl
  simp -implicitDefEqProofs [hmin,arg]at hp
  refine Aa (hp) ?_
  generalize Es ⟨vs.take 1,[l[j]]⟩ path=r at hq
  by_cases g1:r=true
  ·have h3:¬Kj path vs l[j]=true:=by rw[hq,g1];simp
   rw[if_neg h3,List.append_nil]at hst
   simp -implicitDefEqProofs [g1]
   exact⟨k-1,by omega,j+1,by omega,by simp[hw],by rw[hst],by rw[hst]⟩
  ·have h3:Kj path vs l[j]=true:=by rw[hq];simpa using g1
   rw[if_pos h3]at hst
   simp -implicitDefEqProofs [g1,hjn,hb1]
   exact⟨k-1,by omega,j+1,by omega,by simp[hw],by rw[hst];simp,by rw[hst]⟩
 ·have e2:(l.take j).filter (Kj path vs)=l.filter (Kj path vs):=AhR (by omega)
  simp -implicitDefEqProofs [hjn,e2]
end Go.Eng.T
namespace Go.Eng.T
set_option maxRecDepth 20000
set_option maxHeartbeats 1000000
theorem Nu (a b:List Int):(leftOf a b).length≤a.length:=List.length_filter_le _ _
def GR (h:Hello) (lv lt:List Int):Hello×Bool:=if Dw h&& !decide (leftOf h.versions lv=[])then(⟨leftOf h.versions lv,kept (fun t=> !decide (t∈lt)) h.exts⟩,true)else(Bg,false)
abbrev LD (R:Rel):Prop:=∀(h:Hello) (lv lt:List Int),hB h→lv.length≤4194304→lt.length≤4194304→R [arg (DJ h),.sl 1 1 lv.length (ints lv),.sl 1 1 lt.length (ints lt)] [] (.tup [.agg (DJ (GR h lv lt).1),B (GR h lv lt).2]) []
theorem Av7 (D:Dn) (hI:Fe (D Iz)) (hH:PN (D Jj)):LD (Body D Sm):=by
 intro h lv lt hh hv ht
 have hvl:=hh.1
 have hxl:=hh.2.1
 simp -implicitDefEqProofs
 refine Aa (hI h hh) ?_
 by_cases h1:Dw h=true
 rotate_left
 ·simp -implicitDefEqProofs [h1,GR,Bg]
 have e1:leftOf h.versions lv=h.versions.filter (fun v=> !decide (v∈lv)):=rfl
 unfold GR
 rw[h1,e1]
 generalize hp:(fun v=> !decide (v∈lv))=p
 generalize hq:(fun t=> !decide (t∈lt))=q
 obtain⟨vs,hvs⟩:∃vs,vs=h.versions.filter p:=⟨_,rfl⟩
 rw[←hvs]
 simp -implicitDefEqProofs [h1]
 refine Af (fun k s=>∃j o3 o4,j+k=h.versions.length∧s=⟨[.undef,.sl 1 1 lv.length (ints lv),.sl 1 1 lt.length (ints lt),.ptr 0 0,.ptr 1 0,.undef,.ptr 2 0,I j,.undef,.undef,.undef,.undef,.undef,.undef,.undef],[.var ((DJ h).map (Be 1)),.var [.nil 1,.nil 2],.var [.arr 9,.arr 10],o3,o4,.free,.free,.free,.free,.arr 1 0 ((h.versions.take j).filter p).length (ints ((h.versions.take j).filter p)),.arr 2 0 0 []]⟩) ?_ (h.versions.length) _ ⟨0,.free,.free,by simp,by simp⟩
 intro k s ⟨j,o3,o4,hj,hs⟩
 subst hs
 by_cases hjn:j<h.versions.length
 ·have hw:IntKind.i64.wrap ((j:Int)+1)=(j+1:Nat):=by rw[Ab (by omega) (by omega)];simp
  have hst:=KD (p:=p) hjn
  have hfl:=M5 (p:=p) (xs:=h.versions) (j:=j)
  have hb1:(((h.versions.take j).filter p).length+1)*8≤1099511627776:=by omega
  have hpv:p h.versions[j]= !decide (h.versions[j]∈lv):=by rw[←hp]
  simp -implicitDefEqProofs [hjn]
  refine Aa (hH lv h.versions[j] (by unfold maxLen;omega)) ?_
  by_cases h2:h.versions[j]∈lv
  ·have h3:¬p h.versions[j]=true:=by rw[hpv];simpa using h2
   rw[if_neg h3,List.append_nil]at hst
   simp -implicitDefEqProofs [h2]
   exact⟨k-1,by omega,j+1,by omega,by simp[hw],by rw[hst],by rw[hst]⟩
  ·have h3:p h.versions[j]=true:=by rw[hpv];simpa using h2
   rw[if_pos h3]at hst
   simp -implicitDefEqProofs [h2,hjn,hb1]
   exact⟨k-1,by omega,j+1,by omega,by simp[hw],by rw[hst];simp,by rw[hst]⟩
 have e2:=K9 (p:=p) (xs:=h.versions) (j:=j) (by omega)
 rw[←hvs]at e2
 simp -implicitDefEqProofs [hjn,e2]
 refine Af (fun k s=>∃j o3 o4 o5 o6 o7 o8,j+k=h.exts.length∧s=⟨[.undef,.undef,.sl 1 1 lt.length (ints lt),.ptr 0 0,.ptr 1 0,.undef,.ptr 2 0,.undef,I j,.undef,.undef,.undef,.undef,.undef,.undef],[.var ((DJ h).map (Be 1)),.var [.nil 1,.nil 2],.var [.arr 9,.arr 10],o3,o4,o5,o6,o7,o8,.arr 1 0 vs.length (ints vs),.arr 2 0 (kept q (h.exts.take j)).length ((kept q (h.exts.take j)).flatMap Ce)]⟩) ?_ (h.exts.length) _ ⟨0,o3,o4,.free,.free,.free,.free,by simp,by simp[kept]⟩
 intro k s ⟨j,o3,o4,o5,o6,o7,o8,hj,hs⟩
 subst hs
 by_cases hjn:j<h.exts.length
 ·have hw:IntKind.i64.wrap ((j:Int)+1)=(j+1:Nat):=by rw[Ab (by omega) (by omega)];simp
  have hb:=OV hh.2 hjn
  have hb1:h.exts[j].body.length*8≤1099511627776:=by omega
  have hkl:=Yh (p:=q) (l:=h.exts) (j:=j)
  have hb2:((kept q (h.exts.take j)).length+1)*32≤1099511627776:=by omega
  have hpv:q h.exts[j].tag= !decide (h.exts[j].tag∈lt):=by rw[←hq]
  simp -implicitDefEqProofs [hjn]
  refine Aa (hH lt h.exts[j].tag (by unfold maxLen;omega)) ?_
  by_cases h2:h.exts[j].tag∈lt
  ·have h3:¬q h.exts[j].tag=true:=by rw[hpv];simpa using h2
   have hst:=Abx (p:=q) hjn
   rw[if_neg h3,List.append_nil]at hst
   simp -implicitDefEqProofs [h2]
   exact⟨k-1,by omega,j+1,by omega,by simp[hw],by rw[hst],by rw[hst]⟩
  ·have h3:q h.exts[j].tag=true:=by rw[hpv];simpa using h2
   have hst:=Uo hjn h3
   have hsl:=KE hjn h3
   simp -implicitDefEqProofs [h2,hjn,hb1,hb2]
   exact⟨k-1,by omega,j+1,by omega,by simp[hw],by rw[←hsl],by rw[←hst]⟩
 have e3:=X0 (p:=q) (l:=h.exts) (j:=j) (by omega)
 by_cases g:vs=[]
 ·simp -implicitDefEqProofs [hjn,e3,g,Bg]
 ·have g':¬(vs.length:Int)=0:=by
   intro h0
   exact g (List.eq_nil_of_length_eq_zero (by omega))
  simp -implicitDefEqProofs [hjn,e3,g',g]
abbrev VI (R:Rel):Prop:=∀(t:Int) (tags:List Int),tags.length≤maxLen→R [I t,.rptr 1 [.sl 0 1 tags.length (ints tags)] 0] [] (B (!decide (t∈tags))) []
theorem Avj (D:Dn) (hH:PN (D Bb)):VI (Body D Ol):=by
 intro t tags hl
 simp -implicitDefEqProofs
 refine Aa (hH tags t hl) ?_
 simp -implicitDefEqProofs
theorem Au9 (D:Dn) (hI:Fe (D Jq)) (hL:ZH (D Jt)) (h1:VI (D VK)) (hK:NS D (D Lh)):LD (Body D R9):=by
 intro h lv lt hh hv ht
 simp -implicitDefEqProofs
 refine Aa (hL h.versions lv hh.1 hv) ?_
 have hll:=Nu h.versions lv
 unfold GR
 generalize leftOf h.versions lv=vs at hll
 simp -implicitDefEqProofs
 refine Aa (hI h hh) ?_
 by_cases g1:Dw h=true
 rotate_left
 ·simp -implicitDefEqProofs [g1,Bg]
 by_cases g:vs=[]
 ·simp -implicitDefEqProofs [g1,g,Bg]
 have g':¬(vs.length:Int)=0:=by
  intro h0
  exact g (List.eq_nil_of_length_eq_zero (by omega))
 simp -implicitDefEqProofs [g1,g',g]
 refine Aa (hK h.exts VK _ (fun t=> !decide (t∈lt)) hh.2 (Ap8 I7) (Adb Us) (fun t=>h1 t lt (by unfold maxLen;omega))) ?_
 simp -implicitDefEqProofs
def fallback (h:Hello) (path:List H9):Hello×Bool:=GR h (BS path h.versions) (Gz path (leftOf h.versions (BS path h.versions)) h.exts)
abbrev N9 (R:Rel):Prop:=∀(h:Hello) (path:List H9),hB h→lnS JG path→R [arg (DJ h),.sl 1 4 path.length (path.flatMap CW)] [] (.tup [.agg (DJ (fallback h path).1),B (fallback h path).2]) []
theorem AgJ (path:List H9) (vs:List Int) (l:List Ext):(Gz path vs l).length≤l.length:=by
 unfold Gz Av
 split
 ·rw[List.length_map];exact List.length_filter_le _ _
 ·simp
theorem Azh (D:Dn) (hI:Fe (D Iz)) (hLV:Il (D Aew)) (hL:ZH (D AcY)) (hT:NU (D Aql)) (hP:LD (D Amn)):N9 (Body D MB):=by
 intro h path hh hb
 simp -implicitDefEqProofs
 refine Aa (hI h hh) ?_
 by_cases g1:Dw h=true
 rotate_left
 ·have e:fallback h path=(Bg,false):=by unfold fallback GR;simp[g1]
  simp -implicitDefEqProofs [g1,e,Bg]
 have hvl:=hh.1
 have hxl:=hh.2.1
 simp -implicitDefEqProofs [g1]
 refine Aa (hLV path h.versions hb hh.1) ?_
 have hll:=AAr path h.versions
 have e:fallback h path=GR h (BS path h.versions) (Gz path (leftOf h.versions (BS path h.versions)) h.exts):=rfl
 rw[e]
 generalize BS path h.versions=lv at hll
 simp -implicitDefEqProofs
 refine Aa (hL h.versions lv hh.1 (by omega)) ?_
 have hl2:=Nu h.versions lv
 generalize leftOf h.versions lv=vs at hl2
 simp -implicitDefEqProofs
 refine Aa (hT path vs h.exts hb (by omega) hh.2) ?_
 have hl3:=AgJ path vs h.exts
 generalize Gz path vs h.exts=lt at hl3
 simp -implicitDefEqProofs
 refine Aa (hP h lv lt hh (by omega) (by omega)) ?_
 generalize GR h lv lt=r
 simp -implicitDefEqProofs
theorem Ax0 (D:Dn) (hLV:Il (D Adm)) (hL:ZH (D Jt)) (hT:NU (D AoN)) (hP:LD (D Amd)):N9 (Body D Mw):=by
 intro h path hh hb
 have hvl:=hh.1
 have hxl:=hh.2.1
 simp -implicitDefEqProofs [hvl]
 refine Aa (hLV path h.versions hb hh.1) ?_
 have hll:=AAr path h.versions
 have e:fallback h path=GR h (BS path h.versions) (Gz path (leftOf h.versions (BS path h.versions)) h.exts):=rfl
 rw[e]
 generalize BS path h.versions=lv at hll
 simp -implicitDefEqProofs
 refine Aa (hL h.versions lv hh.1 (by omega)) ?_
 have hl2:=Nu h.versions lv
 generalize leftOf h.versions lv=vs at hl2
 simp -implicitDefEqProofs
 refine Aa (hT path vs h.exts hb (by omega) hh.2) ?_
 have hl3:=AgJ path vs h.exts
 generalize Gz path vs h.exts=lt at hl3
 simp -implicitDefEqProofs
 refine Aa (hP h lv lt hh (by omega) (by omega)) ?_
 generalize GR h lv lt=r
 simp -implicitDefEqProofs
theorem AJY {h:Hello} {lv lt:List Int} (hh:hB h):hB (GR h lv lt).1:=by
 unfold GR
 split
 ·exact⟨Nat.le_trans (Nu _ _) hh.1,XG hh.2 (fun t=> !decide (t∈lt))⟩
 ·exact Apj
theorem Avm {h:Hello} {path:List H9} (hh:hB h):hB (fallback h path).1:=AJY hh
def Di (h:Hello) (path:List H9):Hello×Int×Bool:=
 if Dw h=true then(if Es h path=true then(h,1,true)else if(fallback h path).2&&Es (fallback h path).1 path then((fallback h path).1,2,true)else(Bg,2,false))else(Bg,0,false)
abbrev NK (R:Rel):Prop:=∀(h:Hello) (path:List H9),hB h→lnS JG path→R [arg (DJ h),.sl 1 4 path.length (path.flatMap CW)] [] (.tup [.agg (DJ (Di h path).1),I (Di h path).2.1,B (Di h path).2.2]) []
theorem AyG (D:Dn) (hI:Fe (D Iz)) (hW:Ii (D AgT)) (hC:MS (D Aai)) (hF:N9 (D Acg)):NK (Body D U3):=by
 intro h path hh hb
 simp -implicitDefEqProofs
 refine Aa (hI h hh) ?_
 by_cases g1:Dw h=true
 rotate_left
 ·simp -implicitDefEqProofs [g1,Di,Bg]
 simp -implicitDefEqProofs [g1]
 refine Aa (hW h path hh hb) ?_
 by_cases g2:Es h path=true
 ·simp -implicitDefEqProofs [g2]
  refine Aa (hC h hh) ?_
  simp -implicitDefEqProofs [Di,g1,g2]
 simp -implicitDefEqProofs [g2]
 refine Aa (hF h path hh hb) ?_
 have hr:=Avm (path:=path) hh
 have e:Di h path=(if(fallback h path).2&&Es (fallback h path).1 path then((fallback h path).1,2,true)else(Bg,2,false)):=by unfold Di;rw[if_pos g1,if_neg g2]
 rw[e]
 generalize fallback h path=r at hr
 by_cases g3:r.2=true
 rotate_left
 ·simp -implicitDefEqProofs [g3,Bg]
 simp -implicitDefEqProofs [g3]
 refine Aa (hW r.1 path hr hb) ?_
 by_cases g4:Es r.1 path=true
 ·simp -implicitDefEqProofs [g3,g4]
 ·simp -implicitDefEqProofs [g3,g4,Bg]
theorem Ayw (D:Dn) (hI:Fe (D Jq)) (hW:Ii (D VN)) (hC:MS (D ZM)) (hF:N9 (D Ab4)):NK (Body D Vx):=by
 intro h path hh hb
 simp -implicitDefEqProofs
 refine Aa (hI h hh) ?_
 by_cases g1:Dw h=true
 rotate_left
 ·simp -implicitDefEqProofs [g1,Di,Bg]
 simp -implicitDefEqProofs [g1]
 refine Aa (hW h path hh hb) ?_
 by_cases g2:Es h path=true
 ·simp -implicitDefEqProofs [g2]
  refine Aa (hC h hh) ?_
  simp -implicitDefEqProofs [Di,g1,g2]
 simp -implicitDefEqProofs [g2]
 refine Aa (hF h path hh hb) ?_
 have hr:=Avm (path:=path) hh
 have e:Di h path=(if(fallback h path).2&&Es (fallback h path).1 path then((fallback h path).1,2,true)else(Bg,2,false)):=by unfold Di;rw[if_pos g1,if_neg g2]
 rw[e]
 generalize fallback h path=r at hr
 by_cases g3:r.2=true
 rotate_left
 ·simp -implicitDefEqProofs [g3,Bg]
 simp -implicitDefEqProofs [g3]
 refine Aa (hW r.1 path hr hb) ?_
 by_cases g4:Es r.1 path=true
 ·simp -implicitDefEqProofs [g3,g4]
 ·simp -implicitDefEqProofs [g3,g4,Bg]
theorem ADN {h:Hello} {path:List H9} (hh:hB h):hB (Di h path).1:=by
 unfold Di
 split
 ·split
  ·exact hh
  ·split
   ·exact Avm hh
   ·exact Apj
 ·exact Apj
end Go.Eng.T
namespace Go.Eng.T
set_option maxRecDepth 20000
set_option maxHeartbeats 1000000
def FW:List Int→Int→Nat
 | [],_=>0
 | x::r,v=>if x<v then FW r v+1 else 0
theorem Axn:∀(l:List Int) (v:Int),FW l v≤l.length
 | [],_=>Nat.le_refl 0
 | x::r,v=>by
  have:=Axn r v
  simp only[FW,List.length_cons]
  split<;>omega
theorem Aun {l:List Int} {v:Int} {j:Nat} (h:j<l.length) (hv:l[j]<v):FW (l.drop j) v=FW (l.drop (j+1)) v+1:=by
 rw[List.drop_eq_getElem_cons h]
 simp only[FW,if_pos hv]
theorem Ah1 {l:List Int} {v:Int} {j:Nat} (h:j<l.length) (hv:¬l[j]<v):FW (l.drop j) v=0:=by
 rw[List.drop_eq_getElem_cons h]
 simp only[FW,if_neg hv]
theorem Ay0 {l:List Int} {v:Int} {j:Nat} (h:l.length≤j):FW (l.drop j) v=0:=by rw[List.drop_eq_nil_of_le h];rfl
def Yf (l:List Int) (i:Nat) (v:Int):List Int:=l.take i++v::l.drop i
theorem AzN {l:List Int} {i:Nat} {v:Int} (h:i≤l.length):(Yf l i v).length=l.length+1:=by simp[Yf];omega
def Ic (l:List Int) (v:Int):List Int:=if l[FW l v]? =some v then l else Yf l (FW l v) v
theorem Apl (l:List Int) (v:Int):(Ic l v).length≤l.length+1:=by
 unfold Ic
 split
 ·omega
 ·rw[AzN (Axn l v)];omega
abbrev Apu (R:Rel):Prop:=∀(l:List Int) (v:Int),l.length≤4194304→R [.sl 1 1 l.length (ints l),I v] [] (.sl 0 1 (Ic l v).length (ints (Ic l v))) []
abbrev TL (R:Rel):Prop:=∀(l:List Int) (v:Int),l.length≤4194304→R [.arr 0,I v] [.arr 1 0 l.length (ints l)] (.sl 0 1 (Ic l v).length (ints (Ic l v))) [.dead]
abbrev ADY (R:Rel):Prop:=∀(l:List Int) (i:Nat) (v:Int),l.length≤4194304→i≤l.length→R [.arr 0,I i,.arr 1] [.arr 1 0 l.length (ints l),.arr 1 0 1 (ints [v])] (.sl 0 1 (Yf l i v).length (ints (Yf l i v))) [.dead,.dead]
theorem ALg (D:Dn):Apu (Body D Aa8):=by
 intro l v hl
 simp -implicitDefEqProofs
 refine Af (fun k s=>∃j,j+k=l.length∧FW l v=j+FW (l.drop j) v∧s=⟨[.sl 1 1 l.length (ints l),I v,.undef,I j,.undef,.undef],[.free,.free,.free,.free,.free,.free,.free]⟩) ?_ (l.length) _ ⟨0,by simp,by simp,by simp⟩
 intro k s ⟨j,hj,hp,hs⟩
 subst hs
 by_cases hjn:j<l.length
 ·have hw:IntKind.i64.wrap ((j:Int)+1)=(j+1:Nat):=by rw[Ab (by omega) (by omega)];simp
  by_cases hv:l[j]<v
  ·have hst:=Aun hjn hv
   simp -implicitDefEqProofs [hjn,hv]
   exact⟨k-1,by omega,j+1,by omega,by omega,by simp[hw]⟩
  ·have hst:=Ah1 hjn hv
   have hpe:FW l v=j:=by omega
   have b1:l.length*8≤1099511627776:=by omega
   have b2:j*8≤1099511627776:=by omega
   have b3:(j+1)*8≤1099511627776:=by omega
   have b4:(j+1+(l.length-j))*8≤1099511627776:=by omega
   have hjl:j≤l.length:=by omega
   have hjl':(j:Int)≤l.length:=by omega
   have hmin:min j l.length=j:=by omega
   have htk:List.take (l.length-j) (List.drop j l)=List.drop j l:=List.take_of_length_le (by simp)
   by_cases he:l[j]=v
   ·have e:Ic l v=l:=by unfold Ic;rw[hpe,List.getElem?_eq_getElem hjn,he,if_pos rfl]
    rw[e]
    simp -implicitDefEqProofs [hjn,hv,he,b1]
   ·have e:Ic l v=l.take j++v::l.drop j:=by unfold Ic Yf;rw[hpe,List.getElem?_eq_getElem hjn,if_neg (by simpa using he)]
    have el:(Ic l v).length=j+1+(l.length-j):=by rw[e];simp;omega
    simp -implicitDefEqProofs [hjn,hv,he,hjl,hjl',hmin,b2,b3,b4]
    rw[el,e]
    simp[htk,Apa]
 ·have hst:=Ay0 (v:=v) (l:=l) (j:=j) (by omega)
  have hpe:FW l v=j:=by omega
  have b1:l.length*8≤1099511627776:=by omega
  have b2:j*8≤1099511627776:=by omega
  have b3:(j+1)*8≤1099511627776:=by omega
  have b4:(j+1+(l.length-j))*8≤1099511627776:=by omega
  have hjl:j≤l.length:=by omega
  have hjl':(j:Int)≤l.length:=by omega
  have hmin:min j l.length=j:=by omega
  have htk:List.take (l.length-j) (List.drop j l)=List.drop j l:=List.take_of_length_le (by simp)
  have e:Ic l v=l.take j++v::l.drop j:=by unfold Ic Yf;rw[hpe,List.getElem?_eq_none (by omega),if_neg (by simp)]
  have el:(Ic l v).length=j+1+(l.length-j):=by rw[e];simp;omega
  simp -implicitDefEqProofs [hjn,hjl,hjl',hmin,b2,b3,b4]
  rw[el,e]
  simp[htk,Apa]
theorem ArI (D:Dn) (hI:ADY (D VD)):TL (Body D Nl):=by
 intro l v hl
 simp -implicitDefEqProofs
 refine Af (fun k s=>∃j,j+k=l.length∧FW l v=j+FW (l.drop j) v∧s=⟨[.arr 0,I v,.undef,I j,.undef,.undef],[.arr 1 0 l.length (ints l),.free,.free]⟩) ?_ (l.length) _ ⟨0,by simp,by simp,by simp⟩
 intro k s ⟨j,hj,hp,hs⟩
 subst hs
 by_cases hjn:j<l.length
 ·have hw:IntKind.i64.wrap ((j:Int)+1)=(j+1:Nat):=by rw[Ab (by omega) (by omega)];simp
  by_cases hv:l[j]<v
  ·have hst:=Aun hjn hv
   simp -implicitDefEqProofs [hjn,hv]
   exact⟨k-1,by omega,j+1,by omega,by omega,by simp[hw]⟩
  ·have hst:=Ah1 hjn hv
   have hpe:FW l v=j:=by omega
   have b1:l.length*8≤1099511627776:=by omega
   have b2:j*8≤1099511627776:=by omega
   have b3:(j+1)*8≤1099511627776:=by omega
   have b4:(j+1+(l.length-j))*8≤1099511627776:=by omega
   have hjl:j≤l.length:=by omega
   have hjl':(j:Int)≤l.length:=by omega
   have hmin:min j l.length=j:=by omega
   have htk:List.take (l.length-j) (List.drop j l)=List.drop j l:=List.take_of_length_le (by simp)
   by_cases he:l[j]=v
   ·have e:Ic l v=l:=by unfold Ic;rw[hpe,List.getElem?_eq_getElem hjn,he,if_pos rfl]
    rw[e]
    simp -implicitDefEqProofs [hjn,hv,he,b1]
   ·have e:Ic l v=Yf l j v:=by unfold Ic;rw[hpe,List.getElem?_eq_getElem hjn,if_neg (by simpa using he)]
    rw[e]
    simp -implicitDefEqProofs [hjn,hv,he]
    refine Aa (hI l j v hl hjl) ?_
    simp -implicitDefEqProofs [AhE]
 ·have hst:=Ay0 (v:=v) (l:=l) (j:=j) (by omega)
  have hpe:FW l v=j:=by omega
  have b1:l.length*8≤1099511627776:=by omega
  have b2:j*8≤1099511627776:=by omega
  have b3:(j+1)*8≤1099511627776:=by omega
  have b4:(j+1+(l.length-j))*8≤1099511627776:=by omega
  have hjl:j≤l.length:=by omega
  have hjl':(j:Int)≤l.length:=by omega
  have hmin:min j l.length=j:=by omega
  have htk:List.take (l.length-j) (List.drop j l)=List.drop j l:=List.take_of_length_le (by simp)
  have e:Ic l v=Yf l j v:=by unfold Ic;rw[hpe,List.getElem?_eq_none (by omega),if_neg (by simp)]
  rw[e]
  simp -implicitDefEqProofs [hjn]
  refine Aa (hI l j v hl hjl) ?_
  simp -implicitDefEqProofs [AhE]
end Go.Eng.T
namespace Go.Eng.T
set_option maxRecDepth 20000
set_option maxHeartbeats 1000000
def Aez {α:Type} (f:α→α) (xs:List α) (j:Nat):List α:=(xs.take j).map f++xs.drop j
section
variable {α:Type} {f:α→α} {xs:List α} {j:Nat}
theorem AuS:Aez f xs 0=xs:=by simp[Aez]
theorem AzG (h:xs.length≤j):Aez f xs j=xs.map f:=by simp[Aez,List.take_of_length_le h,List.drop_eq_nil_of_le h]
@[simp] theorem AHp (h:j≤xs.length):(Aez f xs j).length=xs.length:=by simp[Aez];omega
theorem Aob (h:j<xs.length):(Aez f xs j)[j]'(by rw[AHp (by omega)];exact h)=xs[j]:=by
 unfold Aez
 have hl:((xs.take j).map f).length=j:=by simp;omega
 have hm:min j xs.length=j:=by omega
 rw[List.getElem_append_right (by omega)]
 simp[hm]
theorem AqT (h:j<xs.length):(Aez f xs j).set j (f xs[j])=Aez f xs (j+1):=by
 unfold Aez
 have hl:((xs.take j).map f).length=j:=by simp;omega
 have ht:xs.take (j+1)=xs.take j++ [xs[j]]:=by simp
 rw[List.set_append_right _ _ (by omega),hl,Nat.sub_self,ht,List.map_append,List.drop_eq_getElem_cons h,List.set_cons_zero,List.append_assoc]
 rfl
theorem AiU (h:j<xs.length) (hf:f xs[j]=xs[j]):Aez f xs (j+1)=Aez f xs j:=by
 rw[←AqT h,hf]
 have:=Aob (f:=f) h
 conv=>lhs;rw[←this]
 simp
end
def DY (w:World) (e:Az):Az:=if 0<BZ w.server (Cg e.versions w.rollout.version)then⟨Cg e.versions w.rollout.version,e.tags,e.path,e.cls⟩else e
def leave (w:World):World:={w with ends:=w.ends.map (DY w),stage:=[]}
abbrev Ik (R:Rel):Prop:=∀w:World,Ai w≤4194304→R [arg (Cc w)] [] (.agg (Cc (leave w))) []
theorem AG5 (a:List Int) (v:Int):(Cg a v).length≤a.length:=List.length_filter_le _ _
theorem AgX {w:World} (h:Ai w≤4194304) {j:Nat} (hj:j<w.ends.length):w.ends[j].versions.length≤4194304:=by
 have:=size_at (f:=Ad) hj
 have e:Ad w.ends[j]=w.ends[j].versions.length+w.ends[j].tags.length+AP BD w.ends[j].path:=rfl
 unfold Ai at h
 omega
theorem An1 {w:World} (h:Ai w≤4194304):w.server.length≤4194304:=by unfold Ai at h;omega
theorem Anf (D:Dn) (hC:CV (D EB)) (hW:Oe (D P8)) (hB:EU (D Mf)):Ik (Body D NF):=by
 intro w h
 have hl:=DU h
 simp -implicitDefEqProofs
 refine Aa (hC w h) ?_
 simp -implicitDefEqProofs
 refine Af (fun k s=>∃j v5 o9,j+k=w.ends.length∧s=⟨[.undef,.ptr 0 0,.ptr 1 0,.ptr 8 0,.sc (.int .i64 j),v5,.undef,.undef],[.var ((Cc w).map (Be 1)),.var [.nil 1,.nil 1,.sc (.int .i64 0),.nil 4,.sc (.int .i64 0),.nil 1,.sc (.int .i64 0),.sc (.bool false),.sc (.int .i64 0),.sc (.int .i64 0),.nil 5,.nil 8,.sc (.int .i64 0),.sc (.int .i64 0),.sc (.int .i64 0)],.arr 1 0 w.server.length (ints w.server),.arr 1 0 w.tags.length (ints w.tags),.arr 4 0 w.ends.length ((Aez (DY w) w.ends j).flatMap Ag),.arr 1 0 w.rollout.stages.length (ints w.rollout.stages),.arr 5 0 w.stage.length (w.stage.flatMap Ap),.arr 8 0 w.log.length (w.log.flatMap Am),.var [.arr 2,.arr 3,.sc (.int .i64 w.key),.arr 4,.sc (.int .i64 w.rollout.version),.arr 5,.sc (.int .i64 w.rollout.pos),.sc (.bool w.rollout.off),.sc (.int .i64 w.least),.sc (.int .i64 w.percent),.arr 6,.arr 7,.sc (.int .i64 w.now),.sc (.int .i64 w.hurt),.sc (.int .i64 w.reached)],o9,.free]⟩) ?_ w.ends.length _ ⟨0,by simp[AuS]⟩
 intro k s ⟨j,v5,o9,hj,hs⟩
 subst hs
 by_cases hjn:j<w.ends.length
 ·have hw:IntKind.i64.wrap ((j:Int)+1)=(j+1:Nat):=by rw[Ab (by omega) (by omega)];simp
  have hjl:j≤w.ends.length:=by omega
  have hset:=AqT (f:=DY w) hjn
  have hg:=Aob (f:=DY w) hjn
  have hvl:=AgX h hjn
  have hwl:=AG5 w.ends[j].versions w.rollout.version
  have hf:j*4<w.ends.length*4:=by omega
  simp -implicitDefEqProofs [hjn,hjl,hg]
  refine Aa (hW w.ends[j].versions _ hvl) ?_
  simp -implicitDefEqProofs
  refine Aa (hB w.server _ (An1 h) (by omega)) ?_
  by_cases h1:0<BZ w.server (Cg w.ends[j].versions w.rollout.version)
  ·have e:DY w w.ends[j]=⟨Cg w.ends[j].versions w.rollout.version,w.ends[j].tags,w.ends[j].path,w.ends[j].cls⟩:=by unfold DY;rw[if_pos h1]
   rw[e]at hset
   simp -implicitDefEqProofs [h1,hjn,hjl,hg,hf]
   exact⟨k-1,by omega,j+1,by omega,by simp[hw],by rw[←hset]⟩
  ·have e:DY w w.ends[j]=w.ends[j]:=by unfold DY;rw[if_neg h1]
   have hsame:=AiU hjn e
   simp -implicitDefEqProofs [h1]
   exact⟨k-1,by omega,j+1,by omega,by simp[hw],by rw[hsame]⟩
 ·have hx:=AzG (f:=DY w) (xs:=w.ends) (j:=j) (by omega)
  simp -implicitDefEqProofs [hjn,hx,leave]
theorem Amj (D:Dn) (hC:CV (D Dt)) (hW:Ya (D Jt)) (hB:EU (D LX)):Ik (Body D NE):=by
 intro w h
 have hl:=DU h
 simp -implicitDefEqProofs
 refine Aa (hC w h) ?_
 simp -implicitDefEqProofs
 refine Af (fun k s=>∃j v5 v6 v7 o9 o10 o11,j+k=w.ends.length∧s=⟨[.undef,.ptr 0 0,.ptr 1 0,.ptr 8 0,.sc (.int .i64 w.rollout.version),v5,v6,v7,.arr 4,.sc (.int .i64 w.ends.length),.sc (.int .i64 j),.undef,.undef],[.var ((Cc w).map (Be 1)),.var [.nil 1,.nil 1,.sc (.int .i64 0),.nil 4,.sc (.int .i64 0),.nil 1,.sc (.int .i64 0),.sc (.bool false),.sc (.int .i64 0),.sc (.int .i64 0),.nil 5,.nil 8,.sc (.int .i64 0),.sc (.int .i64 0),.sc (.int .i64 0)],.arr 1 0 w.server.length (ints w.server),.arr 1 0 w.tags.length (ints w.tags),.arr 4 0 w.ends.length ((Aez (DY w) w.ends j).flatMap Ag),.arr 1 0 w.rollout.stages.length (ints w.rollout.stages),.arr 5 0 w.stage.length (w.stage.flatMap Ap),.arr 8 0 w.log.length (w.log.flatMap Am),.var [.arr 2,.arr 3,.sc (.int .i64 w.key),.arr 4,.sc (.int .i64 w.rollout.version),.arr 5,.sc (.int .i64 w.rollout.pos),.sc (.bool w.rollout.off),.sc (.int .i64 w.least),.sc (.int .i64 w.percent),.arr 6,.arr 7,.sc (.int .i64 w.now),.sc (.int .i64 w.hurt),.sc (.int .i64 w.reached)],o9,o10,o11]⟩) ?_ w.ends.length _ ⟨0,by simp[AuS]⟩
 intro k s ⟨j,v5,v6,v7,o9,o10,o11,hj,hs⟩
 subst hs
 by_cases hjn:j<w.ends.length
 ·have hw:IntKind.i64.wrap ((j:Int)+1)=(j+1:Nat):=by rw[Ab (by omega) (by omega)];simp
  have hjl:j≤w.ends.length:=by omega
  have hset:=AqT (f:=DY w) hjn
  have hg:=Aob (f:=DY w) hjn
  have hvl:=AgX h hjn
  have hwl:=AG5 w.ends[j].versions w.rollout.version
  have hf:j*4<w.ends.length*4:=by omega
  simp -implicitDefEqProofs [hjn,hjl,hg]
  refine Aa (hW w.ends[j].versions _ hvl) ?_
  by_cases h0:(Cg w.ends[j].versions w.rollout.version).length<w.ends[j].versions.length
  ·have h0':((Cg w.ends[j].versions w.rollout.version).length:Int)<w.ends[j].versions.length:=by omega
   simp -implicitDefEqProofs [h0,h0']
   refine Aa (hB w.server _ (An1 h) (by omega)) ?_
   by_cases h1:0<BZ w.server (Cg w.ends[j].versions w.rollout.version)
   ·have e:DY w w.ends[j]=⟨Cg w.ends[j].versions w.rollout.version,w.ends[j].tags,w.ends[j].path,w.ends[j].cls⟩:=by unfold DY;rw[if_pos h1]
    rw[e]at hset
    simp -implicitDefEqProofs [h1,hjn,hjl,hg,hf]
    exact⟨k-1,by omega,j+1,by omega,by simp[hw],by rw[←hset]⟩
   ·have e:DY w w.ends[j]=w.ends[j]:=by unfold DY;rw[if_neg h1]
    have hsame:=AiU hjn e
    simp -implicitDefEqProofs [h1]
    exact⟨k-1,by omega,j+1,by omega,by simp[hw],by rw[hsame]⟩
  ·have h0':¬((Cg w.ends[j].versions w.rollout.version).length:Int)<w.ends[j].versions.length:=by omega
   have e:DY w w.ends[j]=w.ends[j]:=by
    have hall:Cg w.ends[j].versions w.rollout.version=w.ends[j].versions:=List.filter_eq_self.2 (by
     have:=List.length_filter_eq_length_iff (p:=fun x=> !decide (x=w.rollout.version)) (l:=w.ends[j].versions)
     exact this.1 (by unfold Cg at h0 hwl;omega))
    unfold DY
    rw[hall]
    split<;>rfl
   have hsame:=AiU hjn e
   simp -implicitDefEqProofs [h0,h0']
   exact⟨k-1,by omega,j+1,by omega,by simp[hw],by rw[hsame]⟩
 ·have hx:=AzG (f:=DY w) (xs:=w.ends) (j:=j) (by omega)
  simp -implicitDefEqProofs [hjn,hx,leave]
end Go.Eng.T
namespace Go.Eng.T
end Go.Eng.T
namespace Go.Eng.T
set_option maxRecDepth 20000
set_option maxHeartbeats 2000000
def UU {α:Type} (f:Nat→α→α) (xs:List α) (j:Nat):List α:=xs.mapIdx fun i x=>if i<j then f i x else x
section
variable {α:Type} {f:Nat→α→α} {xs:List α} {j:Nat}
@[simp] theorem Ajx:(UU f xs j).length=xs.length:=by simp[UU]
theorem Aqf:UU f xs 0=xs:=by
 apply List.ext_getElem
 ·simp
 ·intro n h1 h2;simp[UU]
theorem Aul (h:xs.length≤j):UU f xs j=xs.mapIdx f:=by
 apply List.ext_getElem
 ·simp
 ·intro n h1 h2
  simp only[Ajx]at h1
  simp only[UU,List.getElem_mapIdx]
  rw[if_pos (by omega)]
theorem AjZ (h:j<xs.length):(UU f xs j)[j]'(by rw[Ajx];exact h)=xs[j]:=by simp[UU]
theorem AiJ (h:j<xs.length):(UU f xs j).set j (f j xs[j])=UU f xs (j+1):=by
 apply List.ext_getElem
 ·simp
 ·intro n h1 h2
  simp only[List.length_set,Ajx]at h1
  rw[List.getElem_set]
  simp only[UU,List.getElem_mapIdx]
  by_cases hn:j=n
  ·subst hn;simp
  ·rw[if_neg hn]
   by_cases hl:n<j
   ·rw[if_pos hl,if_pos (by omega)]
   ·rw[if_neg hl,if_neg (by omega)]
theorem Aq1 (h:j<xs.length) (hf:f j xs[j]=xs[j]):UU f xs (j+1)=UU f xs j:=by
 rw[←AiJ h,hf]
 have:=AjZ (f:=f) h
 conv=>lhs;rw[←this]
 simp
end
def Fq (w:World) (i:Nat) (e:Az):Az:=if isIn w.rollout i w.ends.length=true then⟨Ic e.versions w.rollout.version,e.tags,e.path,e.cls⟩else e
def Jg (w:World):Bool:=BF w.rollout&& !w.rollout.off
def enter (w:World):World:=if Jg w=true then {w with ends:=w.ends.mapIdx (Fq w),stage:=[],reached:=max w.reached (w.rollout.pos+1)}else w
abbrev Io (R:Rel):Prop:=∀w:World,Ai w≤4194304→R [arg (Cc w)] [] (.agg (Cc (enter w))) []
abbrev AxR (R:Rel):Prop:=∀a b:Int,R [I a,I b] [] (I (max a b)) []
abbrev ADq (R:Rel):Prop:=∀a b:Int,R [I a,I b] [] (I (min a b)) []
theorem AMY (D:Dn):AxR (Body D AjF):=by
 intro a b
 by_cases h:a<b
 ·have e:max a b=b:=by omega
  simp -implicitDefEqProofs [h,e]
 ·have e:max a b=a:=by omega
  simp -implicitDefEqProofs [h,e]
theorem AMj (D:Dn):ADq (Body D AiL):=by
 intro a b
 by_cases h:a<b
 ·have e:min a b=a:=by omega
  simp -implicitDefEqProofs [h,e]
  intro;omega
 ·have e:min a b=b:=by omega
  simp -implicitDefEqProofs [h,e]
  intro;omega
theorem Atp (D:Dn) (hC:CV (D EB)) (hR:EP (D Kr)) (hI:Ac3 (D AqY)) (hP:Apu (D Akt)) (hM:AxR (D AuX)):Io (Body D QV):=by
 intro w h
 have hl:=DU h
 have hr:=P5 h
 simp -implicitDefEqProofs
 refine Aa (hC w h) ?_
 simp -implicitDefEqProofs
 refine Aa (hR w.rollout hr) ?_
 by_cases h1:BF w.rollout=true
 rotate_left
 ·have e:enter w=w:=by unfold enter Jg;rw[if_neg (by simp[h1])]
  simp -implicitDefEqProofs [h1,e]
 by_cases h2:w.rollout.off=true
 ·have e:enter w=w:=by unfold enter Jg;rw[if_neg (by simp[h2])]
  simp -implicitDefEqProofs [h1,h2,e]
 have h2':w.rollout.off=false:=by simpa using h2
 have e:enter w={w with ends:=w.ends.mapIdx (Fq w),stage:=[],reached:=max w.reached (w.rollout.pos+1)}:=by unfold enter Jg;rw[if_pos (by simp[h1,h2'])]
 have hp:=Xq h1
 have hwp:IntKind.i64.wrap (w.rollout.pos+1)=w.rollout.pos+1:=Ab (by omega) (by omega)
 simp -implicitDefEqProofs [h1,h2]
 refine Af (fun k s=>∃j o9,j+k=w.ends.length∧s=⟨[.undef,.ptr 0 0,.ptr 1 0,.ptr 8 0,I j,.undef,.undef,.undef],[.var ((Cc w).map (Be 1)),.var [.nil 1,.nil 1,.sc (.int .i64 0),.nil 4,.sc (.int .i64 0),.nil 1,.sc (.int .i64 0),.sc (.bool false),.sc (.int .i64 0),.sc (.int .i64 0),.nil 5,.nil 8,.sc (.int .i64 0),.sc (.int .i64 0),.sc (.int .i64 0)],.arr 1 0 w.server.length (ints w.server),.arr 1 0 w.tags.length (ints w.tags),.arr 4 0 w.ends.length ((UU (Fq w) w.ends j).flatMap Ag),.arr 1 0 w.rollout.stages.length (ints w.rollout.stages),.arr 5 0 w.stage.length (w.stage.flatMap Ap),.arr 8 0 w.log.length (w.log.flatMap Am),.var [.arr 2,.arr 3,.sc (.int .i64 w.key),.arr 4,.sc (.int .i64 w.rollout.version),.arr 5,.sc (.int .i64 w.rollout.pos),.sc (.bool w.rollout.off),.sc (.int .i64 w.least),.sc (.int .i64 w.percent),.arr 6,.arr 7,.sc (.int .i64 w.now),.sc (.int .i64 w.hurt),.sc (.int .i64 w.reached)],o9,.free]⟩) ?_ (w.ends.length) _ ⟨0,.free,by simp,by simp[Aqf,h2']⟩
 intro k s ⟨j,o9,hj,hs⟩
 subst hs
 by_cases hjn:j<w.ends.length
 ·have hw:IntKind.i64.wrap ((j:Int)+1)=(j+1:Nat):=by rw[Ab (by omega) (by omega)];simp
  have hset:=AiJ (f:=Fq w) hjn
  have hg:=AjZ (f:=Fq w) hjn
  have hvl:=AgX h hjn
  have hf:j*4<w.ends.length*4:=by omega
  simp -implicitDefEqProofs [hjn]
  refine Aa (hI w.rollout j w.ends.length hr) ?_
  by_cases h3:isIn w.rollout j w.ends.length=true
  ·have e3:Fq w j w.ends[j]=⟨Ic w.ends[j].versions w.rollout.version,w.ends[j].tags,w.ends[j].path,w.ends[j].cls⟩:=by unfold Fq;rw[if_pos h3]
   rw[e3]at hset
   simp -implicitDefEqProofs [h3,hjn,hg,hf]
   refine Aa (hP w.ends[j].versions _ hvl) ?_
   simp -implicitDefEqProofs [hjn,hg,hf]
   exact⟨k-1,by omega,j+1,by omega,by simp[hw],by rw[←hset]⟩
  ·have e3:Fq w j w.ends[j]=w.ends[j]:=by unfold Fq;rw[if_neg h3]
   have hsame:=Aq1 hjn e3
   simp -implicitDefEqProofs [h3]
   exact⟨k-1,by omega,j+1,by omega,by simp[hw],by rw[hsame]⟩
 ·have hx:=Aul (f:=Fq w) (xs:=w.ends) (j:=j) (by omega)
  simp -implicitDefEqProofs [hjn,hwp,hx]
  refine Aa (hM _ _) ?_
  simp -implicitDefEqProofs [e,h2']
theorem AsR (D:Dn) (hC:CV (D Dt)) (hR:EP (D Ky)) (hI:Ac3 (D Aoh)) (hP:TL (D AfM)):Io (Body D O4):=by
 intro w h
 have hl:=DU h
 have hr:=P5 h
 simp -implicitDefEqProofs
 refine Aa (hC w h) ?_
 simp -implicitDefEqProofs
 refine Aa (hR w.rollout hr) ?_
 by_cases h1:BF w.rollout=true
 rotate_left
 ·have e:enter w=w:=by unfold enter Jg;rw[if_neg (by simp[h1])]
  simp -implicitDefEqProofs [h1,e]
 by_cases h2:w.rollout.off=true
 ·have e:enter w=w:=by unfold enter Jg;rw[if_neg (by simp[h2])]
  simp -implicitDefEqProofs [h1,h2,e]
 have h2':w.rollout.off=false:=by simpa using h2
 have e:enter w={w with ends:=w.ends.mapIdx (Fq w),stage:=[],reached:=max w.reached (w.rollout.pos+1)}:=by unfold enter Jg;rw[if_pos (by simp[h1,h2'])]
 have hp:=Xq h1
 have hwp:IntKind.i64.wrap (w.rollout.pos+1)=w.rollout.pos+1:=Ab (by omega) (by omega)
 simp -implicitDefEqProofs [h1,h2]
 refine Af (fun k s=>∃j v5 o10 o11,j+k=w.ends.length∧s=⟨[.undef,.ptr 0 0,.ptr 1 0,.ptr 8 0,.ptr 9 0,v5,.undef,I w.ends.length,I j,.undef,.undef],[.var ((Cc w).map (Be 1)),.var [.nil 1,.nil 1,.sc (.int .i64 0),.nil 4,.sc (.int .i64 0),.nil 1,.sc (.int .i64 0),.sc (.bool false),.sc (.int .i64 0),.sc (.int .i64 0),.nil 5,.nil 8,.sc (.int .i64 0),.sc (.int .i64 0),.sc (.int .i64 0)],.arr 1 0 w.server.length (ints w.server),.arr 1 0 w.tags.length (ints w.tags),.arr 4 0 w.ends.length ((UU (Fq w) w.ends j).flatMap Ag),.arr 1 0 w.rollout.stages.length (ints w.rollout.stages),.arr 5 0 w.stage.length (w.stage.flatMap Ap),.arr 8 0 w.log.length (w.log.flatMap Am),.var [.arr 2,.arr 3,.sc (.int .i64 w.key),.arr 4,.sc (.int .i64 w.rollout.version),.arr 5,.sc (.int .i64 w.rollout.pos),.sc (.bool w.rollout.off),.sc (.int .i64 w.least),.sc (.int .i64 w.percent),.arr 6,.arr 7,.sc (.int .i64 w.now),.sc (.int .i64 w.hurt),.sc (.int .i64 w.reached)],.var [.sc (.int .i64 w.rollout.version),.sl 1 1 w.rollout.stages.length (ints w.rollout.stages),.sc (.int .i64 w.rollout.pos),.sc (.bool w.rollout.off)],o10,o11]⟩) ?_ (w.ends.length) _ ⟨0,.undef,.free,.free,by simp,by simp[Aqf,h2']⟩
 intro k s ⟨j,v5,o10,o11,hj,hs⟩
 subst hs
 by_cases hjn:j<w.ends.length
 ·have hw:IntKind.i64.wrap ((j:Int)+1)=(j+1:Nat):=by rw[Ab (by omega) (by omega)];simp
  have hset:=AiJ (f:=Fq w) hjn
  have hg:=AjZ (f:=Fq w) hjn
  have hvl:=AgX h hjn
  have hf:j*4<w.ends.length*4:=by omega
  simp -implicitDefEqProofs [hjn]
  refine⟨by cases o11<;>rfl,?_⟩
  refine Aa (hI w.rollout j w.ends.length hr) ?_
  by_cases h3:isIn w.rollout j w.ends.length=true
  ·have e3:Fq w j w.ends[j]=⟨Ic w.ends[j].versions w.rollout.version,w.ends[j].tags,w.ends[j].path,w.ends[j].cls⟩:=by unfold Fq;rw[if_pos h3]
   rw[e3]at hset
   simp -implicitDefEqProofs [h3,hjn,hg,hf]
   refine Aa (hP w.ends[j].versions _ hvl) ?_
   simp -implicitDefEqProofs [hjn,hg,hf]
   exact⟨k-1,by omega,j+1,by omega,by simp[hw],by rw[←hset]⟩
  ·have e3:Fq w j w.ends[j]=w.ends[j]:=by unfold Fq;rw[if_neg h3]
   have hsame:=Aq1 hjn e3
   simp -implicitDefEqProofs [h3]
   exact⟨k-1,by omega,j+1,by omega,by simp[hw],by rw[hsame]⟩
 ·have hx:=Aul (f:=Fq w) (xs:=w.ends) (j:=j) (by omega)
  by_cases hmx:w.reached<w.rollout.pos+1
  ·have em:max w.reached (w.rollout.pos+1)=w.rollout.pos+1:=by omega
   simp -implicitDefEqProofs [hjn,hwp,hx,e,h2',hmx,em]
  ·have em:max w.reached (w.rollout.pos+1)=w.reached:=by omega
   simp -implicitDefEqProofs [hjn,hwp,hx,e,h2',hmx,em]
def Dl (w:World):World×Bool:=if decide (w.reached=0)&&Jg w then(enter w,true)else(w,false)
abbrev LB (R:Rel):Prop:=∀w:World,Ai w≤4194304→R [arg (Cc w)] [] (.tup [.agg (Cc (Dl w).1),B (Dl w).2]) []
theorem Awy (D:Dn) (hC:CV (D EB)) (hR:EP (D Kr)) (hE:Io (D XA)):LB (Body D Sl):=by
 intro w h
 have hr:=P5 h
 by_cases h0:w.reached=0
 rotate_left
 ·have e:Dl w=(w,false):=by unfold Dl;simp[h0]
  simp -implicitDefEqProofs [h0]
  refine Aa (hC w h) ?_
  simp -implicitDefEqProofs [e]
 simp -implicitDefEqProofs [h0]
 refine Aa (hR w.rollout hr) ?_
 by_cases h1:BF w.rollout=true
 rotate_left
 ·have e:Dl w=(w,false):=by unfold Dl Jg;simp[h1]
  simp -implicitDefEqProofs [h1]
  have hcs:=hC w h
  simp -implicitDefEqProofs [h0]at hcs
  refine Aa hcs ?_
  clear hcs
  simp -implicitDefEqProofs [e,h0]
 by_cases h2:w.rollout.off=true
 ·have e:Dl w=(w,false):=by unfold Dl Jg;simp[h2]
  simp -implicitDefEqProofs [h1,h2]
  have hcs:=hC w h
  simp -implicitDefEqProofs [h0,h2]at hcs
  refine Aa hcs ?_
  clear hcs
  simp -implicitDefEqProofs [e,h0,h2]
 have h2':w.rollout.off=false:=by simpa using h2
 have e:Dl w=(enter w,true):=by unfold Dl Jg;simp[h0,h1,h2']
 simp -implicitDefEqProofs [h1,h2]
 have hcs:=hE w h
 simp -implicitDefEqProofs [h0,h2]at hcs
 refine Aa hcs ?_
 clear hcs
 simp -implicitDefEqProofs [e]
theorem Aws (D:Dn) (hC:CV (D Dt)) (hR:EP (D Ky)) (hE:Io (D Xo)):LB (Body D S9):=by
 intro w h
 have hr:=P5 h
 by_cases h0:w.reached=0
 rotate_left
 ·have e:Dl w=(w,false):=by unfold Dl;simp[h0]
  simp -implicitDefEqProofs [h0]
  refine Aa (hC w h) ?_
  simp -implicitDefEqProofs [e]
 simp -implicitDefEqProofs [h0]
 refine Aa (hR w.rollout hr) ?_
 by_cases h1:BF w.rollout=true
 rotate_left
 ·have e:Dl w=(w,false):=by unfold Dl Jg;simp[h1]
  simp -implicitDefEqProofs [h1]
  have hcs:=hC w h
  simp -implicitDefEqProofs [h0]at hcs
  refine Aa hcs ?_
  clear hcs
  simp -implicitDefEqProofs [e,h0]
 by_cases h2:w.rollout.off=true
 ·have e:Dl w=(w,false):=by unfold Dl Jg;simp[h2]
  simp -implicitDefEqProofs [h1,h2]
  have hcs:=hC w h
  simp -implicitDefEqProofs [h0,h2]at hcs
  refine Aa hcs ?_
  clear hcs
  simp -implicitDefEqProofs [e,h0,h2]
 have h2':w.rollout.off=false:=by simpa using h2
 have e:Dl w=(enter w,true):=by unfold Dl Jg;simp[h0,h1,h2']
 simp -implicitDefEqProofs [h1,h2]
 have hcs:=hE w h
 simp -implicitDefEqProofs [h0,h2]at hcs
 refine Aa hcs ?_
 clear hcs
 simp -implicitDefEqProofs [e]
end Go.Eng.T
namespace Go.Eng.T
set_option maxRecDepth 20000
set_option maxHeartbeats 2000000
open Go.Lib (compact compactUpTo keeps)
abbrev Up (l:List Int):Prop:=l.Pairwise (· < ·)
theorem AMQ:∀ {a b:List Int},Up a→Up b→(∀x,x∈a↔x∈b)→a=b
 | [],[],_,_,_=>rfl
 | [],y::b,_,_,h=>by have:=(h y).2 (by simp);simp at this
 | x::a,[],_,_,h=>by have:=(h x).1 (by simp);simp at this
 | x::a,y::b,ha,hb,h=>by
  rw[Up,List.pairwise_cons]at ha hb
  have hxy:x=y:=by
   have h1:=(h x).1 (by simp)
   have h2:=(h y).2 (by simp)
   rcases List.mem_cons.1 h1 with e | h1
   ·exact e
   ·rcases List.mem_cons.1 h2 with e | h2
    ·exact e.symm
    ·have:=hb.1 x h1;have:=ha.1 y h2;omega
  subst hxy
  congr 1
  refine AMQ ha.2 hb.2 fun z=>⟨fun hz=> ?_,fun hz=> ?_⟩
  ·rcases List.mem_cons.1 ((h z).1 (by simp[hz]))with e | h1
   ·subst e;have:=ha.1 z hz;omega
   ·exact h1
  ·rcases List.mem_cons.1 ((h z).2 (by simp[hz]))with e | h1
   ·subst e;have:=hb.1 z hz;omega
   ·exact h1
theorem AIL:∀(l:List Int) (v x:Int),x∈Ic l v↔x∈l∨x=v:=by
 intro l v x
 unfold Ic
 split
 ·rename_i h
  constructor
  ·exact .inl
  ·rintro (h1 | rfl)
   ·exact h1
   ·exact List.mem_of_getElem? h
 ·unfold Yf
  rw[List.mem_append,List.mem_cons]
  have:x∈l↔x∈l.take (FW l v)∨x∈l.drop (FW l v):=by
   conv=>lhs;rw[←List.take_append_drop (FW l v) l,List.mem_append]
  rw[this]
  constructor
  ·rintro (h1 | h1 | h1)
   ·exact .inl (.inl h1)
   ·exact .inr h1
   ·exact .inl (.inr h1)
  ·rintro ((h1 | h1) | h1)
   ·exact .inl h1
   ·exact .inr (.inr h1)
   ·exact .inr (.inl h1)
theorem Akk:∀(l:List Int) (v x:Int),x∈l.take (FW l v)→x<v
 | [],v,x,h=>by simp at h
 | y::r,v,x,h=>by
  simp only[FW]at h
  split at h
  ·rw[List.take_succ_cons]at h
   rcases List.mem_cons.1 h with rfl | h
   ·assumption
   ·exact Akk r v x h
  ·simp at h
theorem ADP:∀ {l:List Int} (v:Int),Up l→Up (Ic l v):=by
 intro l v hl
 unfold Ic
 split
 ·exact hl
 ·rename_i hne
  unfold Yf Up
  rw[List.pairwise_append,List.pairwise_cons]
  have hb:=Akk l v
  have hafter:∀y,y∈l.drop (FW l v)→v<y:=by
   intro y hy
   by_cases hk:FW l v<l.length
   ·have hs:=Ah1 (l:=l) (v:=v) hk (by
     intro hlt
     have key:∀(l:List Int) (h:FW l v<l.length),¬l[FW l v]<v:=by
      intro l
      induction l with
      | nil=>intro h;simp at h
      | cons x r ih=>
       intro h
       by_cases hx:x<v
       ·have e:FW (x::r) v=FW r v+1:=by simp[FW,hx]
        have h':FW r v<r.length:=by rw[e]at h;simpa using h
        have:=ih h'
        simp only[e,List.getElem_cons_succ]
        exact this
       ·have e:FW (x::r) v=0:=by simp[FW,hx]
        simp only[e,List.getElem_cons_zero]
        exact hx
     exact key l hk hlt)
    have key:∀(l:List Int) (h:FW l v<l.length),¬l[FW l v]<v:=by
     intro l
     induction l with
     | nil=>intro h;simp at h
     | cons x r ih=>
      intro h
      by_cases hx:x<v
      ·have e:FW (x::r) v=FW r v+1:=by simp[FW,hx]
       have h':FW r v<r.length:=by rw[e]at h;simpa using h
       have:=ih h'
       simp only[e,List.getElem_cons_succ]
       exact this
      ·have e:FW (x::r) v=0:=by simp[FW,hx]
       simp only[e,List.getElem_cons_zero]
       exact hx
    have h1:=key l hk
    have h2:l[FW l v]≠v:=by
     intro e;apply hne;rw[List.getElem?_eq_getElem hk,e]
    rw[List.drop_eq_getElem_cons hk]at hy
    have hp:(l[FW l v]::l.drop (FW l v+1)).Pairwise (· < ·):=by rw[←List.drop_eq_getElem_cons hk];exact hl.drop
    rw[List.pairwise_cons]at hp
    rcases List.mem_cons.1 hy with rfl | hy
    ·omega
    ·have:=hp.1 y hy;omega
   ·rw[List.drop_eq_nil_of_le (by omega)]at hy;simp at hy
  refine⟨hl.take,⟨hafter,hl.drop⟩,fun a ha b hb'=> ?_⟩
  have h1:=hb a ha
  rcases List.mem_cons.1 hb' with rfl | hb'
  ·exact h1
  ·have:=hafter b hb';omega
def Adr (l:List Int) (xs:List Int):List Int:=xs.foldl Ic l
theorem AFG:∀ {xs l:List Int},Up l→Up (Adr l xs)
 | [],_,h=>h
 | x::xs,l,h=>AFG (xs:=xs) (ADP x h)
theorem AB4:∀(xs l:List Int) (x:Int),x∈Adr l xs↔x∈l∨x∈xs
 | [],l,x=>by simp[Adr]
 | y::xs,l,x=>by
  have:=AB4 xs (Ic l y) x
  unfold Adr at *
  rw[List.foldl_cons,this,AIL,List.mem_cons]
  constructor
  ·rintro ((h | h) | h)
   ·exact .inl h
   ·exact .inr (.inl h)
   ·exact .inr (.inr h)
  ·rintro (h | h | h)
   ·exact .inl (.inl h)
   ·exact .inl (.inr h)
   ·exact .inr h
def AyR (l:List Int):List Int:=l.mergeSort fun x y=>decide (x≤y)
theorem AFk (l:List Int):(AyR l).length=l.length:=by simp[AyR]
theorem AIo (l:List Int):(AyR l).Pairwise (·≤·):=by
 have:=List.pairwise_mergeSort (le:=fun x y:Int=>decide (x≤y)) (fun a b c h1 h2=>by simp at *;omega) (fun a b=>by simp;omega) l
 exact this.imp fun h=>by simpa using h
abbrev AHm (R:Rel):Prop:=∀l:List Int,l.length≤4194304→R [.arr 0] [.arr 1 0 l.length (ints l)] (.tup []) [.arr 1 0 l.length (ints (AyR l))]
theorem ABq:∀(xs l:List Int),(Adr l xs).length≤l.length+xs.length
 | [],l=>by simp[Adr]
 | x::xs,l=>by
  have h1:=ABq xs (Ic l x)
  have h2:=Apl l x
  unfold Adr at *
  simp only[List.foldl_cons,List.length_cons]
  omega
def AMF (r:Cr) (i:Nat):Cr:=⟨r.version,r.stages,i,r.off⟩
def AMz (r:Cr) (n:Int):Nat→Int
 | 0=>0
 | k+1=>max (AMz r n k) (countIn (AMF r k) n)
end Go.Eng.T
namespace Go.Eng.T
set_option maxRecDepth 20000
theorem AxY (D:Dn) (hA:J2 (D JM)) (hI:TF (D BP)):Ob (Body D U4):=by
 intro g b l p
 simp -implicitDefEqProofs
 refine Aa (hA [g,b,l] 0 10000 (by unfold maxLen;simp)) ?_
 by_cases h1:allIn [g,b,l] 0 10000=true
 rotate_left
 ·have e:IV g b l p=0:=by
   unfold IV
   rw[if_pos]
   simp[allIn]at h1
   by_cases a:WO g 0 10000
   ·by_cases c:WO b 0 10000
    ·right;right;left;intro h;have:=h1 a.1 a.2 c.1 c.2 (by omega);omega
    ·exact .inr (.inl c)
   ·exact .inl a
  simp -implicitDefEqProofs [h1,e]
 have h1':WO g 0 10000∧WO b 0 10000∧WO l 0 10000:=by simpa[allIn]using h1
 by_cases h2:l=0
 ·have e:IV g b l p=0:=by unfold IV;rw[if_pos (by right;right;left;omega)]
  subst h2
  simp -implicitDefEqProofs [h1,e]
 simp -implicitDefEqProofs [h1,h2]
 refine Aa (hI _ _ _) ?_
 by_cases h4:WO p 0 100
 rotate_left
 ·simp -implicitDefEqProofs [h2,h4,IV]
 have w1:IntKind.i64.wrap (100*b)=100*b:=Ab (by omega) (by omega)
 have w2:=Aby h4.1 h4.2 (x:=l) (by omega) (by omega)
 have w3:=Aby h4.1 h4.2 (x:=g+b) (by omega) (by omega)
 have w4:IntKind.i64.wrap (g+b)=g+b:=Ab (by omega) (by omega)
 have e:IV g b l p=if 100*b>p*l∧100*b>p*(g+b)then 2 else if g+b<l then 0 else if 100*b≤p*(g+b)then 1 else 2:=by unfold IV;rw[if_neg (by omega)]
 rw[e]
 clear e
 by_cases c1:p*l<100*b
 ·by_cases c2:p*(g+b)<100*b
  ·simp -implicitDefEqProofs [h2,h4,w1,w2,w3,w4,c1,c2]
  ·have c3:100*b≤p*(g+b):=by omega
   by_cases c4:g+b<l
   ·simp -implicitDefEqProofs [h2,h4,w1,w2,w3,w4,c1,c2,c3,c4]
   ·simp -implicitDefEqProofs [h2,h4,w1,w2,w3,w4,c1,c2,c3,c4]
 ·by_cases c4:g+b<l
  ·simp -implicitDefEqProofs [h2,h4,w1,w2,w3,w4,c1,c4]
  ·by_cases c3:100*b≤p*(g+b)
   ·simp -implicitDefEqProofs [h2,h4,w1,w2,w3,w4,c1,c3,c4]
   ·simp -implicitDefEqProofs [h2,h4,w1,w2,w3,w4,c1,c3,c4]
theorem AyU (D:Dn) (hB:GD (D Ax8)):Mh (Body D UF):=by
 intro xs v hl hu
 unfold maxLen at hl
 simp -implicitDefEqProofs
 refine Af (fun k s=>∃j o,j+k=xs.length∧s=⟨[.undef,.sc (.int .i64 v),.undef,.undef,.sc (.int .i64 (cntF (goodD v) (xs.take j))),.sc (.int .i64 (cntF (K7 v) (xs.take j))),.undef,.sl 1 5 xs.length (xs.flatMap Ap),.sc (.int .i64 xs.length),.sc (.int .i64 j),.undef,.undef,.undef],[o]⟩) ?_ xs.length _ ⟨0,.free,by simp,by simp[cntF]⟩
 intro k s ⟨j,o0,hj,hs⟩
 subst hs
 by_cases hjn:j<xs.length
 ·have hw:IntKind.i64.wrap ((j:Int)+1)=(j+1:Nat):=by rw[Ab (by omega) (by omega)];simp
  have hc:=XF (f:=goodD v) hjn
  have hb:=XF (f:=K7 v) hjn
  have hcl:=Adh (f:=goodD v) (xs:=xs) (j:=j) (by omega)
  have hbl:=Adh (f:=K7 v) (xs:=xs) (j:=j) (by omega)
  have hw2:IntKind.i64.wrap ((cntF (goodD v) (xs.take j):Int)+1)=(cntF (goodD v) (xs.take j)+1:Nat):=by rw[Ab (by omega) (by omega)];simp
  have hw3:IntKind.i64.wrap ((cntF (K7 v) (xs.take j):Int)+1)=(cntF (K7 v) (xs.take j)+1:Nat):=by rw[Ab (by omega) (by omega)];simp
  simp -implicitDefEqProofs [hjn]
  refine Aa (hB xs[j] v (hu j hjn)) ?_
  by_cases hbd:K7 v xs[j]=true
  ·simp -implicitDefEqProofs [hbd]
   exact⟨k-1,by omega,j+1,by omega,by rw[hc];simp[goodD,hbd],by rw[hb,hw3];simp[hbd],by simp[hw]⟩
  ·by_cases h4:v≤xs[j].deal.version
   ·simp -implicitDefEqProofs [hbd,h4]
    exact⟨k-1,by omega,j+1,by omega,by rw[hc,hw2];simp[goodD,hbd,h4],by rw[hb];simp[hbd],by simp[hw]⟩
   ·simp -implicitDefEqProofs [hbd,h4]
    exact⟨k-1,by omega,j+1,by omega,by rw[hc];simp[goodD,hbd,h4],by rw[hb];simp[hbd],by simp[hw]⟩
 ·have hx:=AbE (f:=goodD v) (xs:=xs) (j:=j) (by omega)
  have hy:=AbE (f:=K7 v) (xs:=xs) (j:=j) (by omega)
  simp -implicitDefEqProofs [hjn,hx,hy]
theorem Ao9 {w:World} (h:Ai w≤4194304):∀(j:Nat) (hj:j<w.stage.length),w.stage[j].up.length≤maxLen:=by
 intro j hj
 have:=size_at (f:=Ak) hj
 unfold Ai at h
 have e:Ak w.stage[j]=EN w.stage[j].deal+w.stage[j].up.length:=rfl
 unfold maxLen;omega
def L8 (w:World):Int:=IV (cntF (goodD w.rollout.version) w.stage) (cntF (K7 w.rollout.version) w.stage) w.least w.percent
abbrev Lr (R:Rel):Prop:=∀w:World,Ai w≤4194304→R [arg (Cc w)] [] (I (L8 w)) []
theorem AvY (D:Dn) (hM:Mh (D Ari)) (hS:Ob (D Apq)):Lr (Body D Tc):=by
 intro w h
 simp -implicitDefEqProofs
 refine Aa (hM w.stage _ (by have:=VF h;unfold maxLen;omega) (Ao9 h)) ?_
 simp -implicitDefEqProofs
 refine Aa (hS _ _ _ _) ?_
 simp -implicitDefEqProofs [L8]
theorem AwA (D:Dn) (hM:Mh (D Arf)) (hS:Ob (D AqK)):Lr (Body D Sq):=by
 intro w h
 simp -implicitDefEqProofs
 refine Aa (hM w.stage _ (by have:=VF h;unfold maxLen;omega) (Ao9 h)) ?_
 simp -implicitDefEqProofs
 refine Aa (hS _ _ _ _) ?_
 simp -implicitDefEqProofs [L8]
end Go.Eng.T
namespace Go.Eng.T
set_option maxRecDepth 20000
set_option maxHeartbeats 2000000
def TW (r:Cr):Bool:=BF r&&(!r.off&& !decide (r.pos=(r.stages.length:Int)-1))
def BM (r:Cr):Cr×Bool:=if TW r=true then(⟨r.version,r.stages,r.pos+1,r.off⟩,true)else(r,false)
abbrev Lj (R:Rel):Prop:=∀r:Cr,AU r≤4194304→R [arg (Gg r)] [] (.tup [.agg (Gg (BM r).1),B (BM r).2]) []
theorem Awf (D:Dn) (hC:H6 (D Xj)) (hR:EP (D Kr)):Lj (Body D Td):=by
 intro r h
 have hl:r.stages.length≤4194304:=h
 have hw1:IntKind.i64.wrap ((r.stages.length:Int)-1)=(r.stages.length:Int)-1:=Ab (by omega) (by omega)
 simp -implicitDefEqProofs
 refine Aa (hC r h) ?_
 simp -implicitDefEqProofs
 refine Aa (hR r hl) ?_
 by_cases h1:BF r=true
 rotate_left
 ·have e:BM r=(r,false):=by unfold BM TW;rw[if_neg (by simp[h1])]
  simp -implicitDefEqProofs [h1,e]
 by_cases h2:r.off=true
 ·have e:BM r=(r,false):=by unfold BM TW;rw[if_neg (by simp[h2])]
  simp -implicitDefEqProofs [h1,h2,e]
 have h2':r.off=false:=by simpa using h2
 have hp:=Xq h1
 have hwp:IntKind.i64.wrap (r.pos+1)=r.pos+1:=Ab (by omega) (by omega)
 obtain⟨ver,stg,pos,off⟩:=r
 dsimp only at *
 subst h2'
 by_cases h3:pos=(stg.length:Int)-1
 ·have e:BM ⟨ver,stg,pos,false⟩=(⟨ver,stg,pos,false⟩,false):=by unfold BM TW;rw[if_neg (by simp[h3])]
  subst h3
  simp -implicitDefEqProofs [h1,hw1,e]
 have e:BM ⟨ver,stg,pos,false⟩=(⟨ver,stg,pos+1,false⟩,true):=by unfold BM TW;rw[if_pos (by simp[h1,h3])]
 simp -implicitDefEqProofs [h1,hw1,h3,hwp,e]
theorem Aw0 (D:Dn) (hC:H6 (D OG)) (hR:EP (D Ky)):Lj (Body D Ti):=by
 intro r h
 have hl:r.stages.length≤4194304:=h
 have hw1:IntKind.i64.wrap ((r.stages.length:Int)-1)=(r.stages.length:Int)-1:=Ab (by omega) (by omega)
 simp -implicitDefEqProofs
 refine Aa (hC r h) ?_
 simp -implicitDefEqProofs
 refine Aa (hR r hl) ?_
 by_cases h1:BF r=true
 rotate_left
 ·have e:BM r=(r,false):=by unfold BM TW;rw[if_neg (by simp[h1])]
  simp -implicitDefEqProofs [h1,e]
 by_cases h2:r.off=true
 ·have e:BM r=(r,false):=by unfold BM TW;rw[if_neg (by simp[h2])]
  simp -implicitDefEqProofs [h1,h2,e]
 have h2':r.off=false:=by simpa using h2
 have hp:=Xq h1
 have hwp:IntKind.i64.wrap (r.pos+1)=r.pos+1:=Ab (by omega) (by omega)
 obtain⟨ver,stg,pos,off⟩:=r
 dsimp only at *
 subst h2'
 by_cases h3:pos=(stg.length:Int)-1
 ·have e:BM ⟨ver,stg,pos,false⟩=(⟨ver,stg,pos,false⟩,false):=by unfold BM TW;rw[if_neg (by simp[h3])]
  subst h3
  simp -implicitDefEqProofs [h1,hw1,e]
 have e:BM ⟨ver,stg,pos,false⟩=(⟨ver,stg,pos+1,false⟩,true):=by unfold BM TW;rw[if_pos (by simp[h1,h3])]
 simp -implicitDefEqProofs [h1,hw1,h3,hwp,e]
def YW (r:Cr):Bool:=BF r&& !r.off
def Cq (r:Cr):Cr×Bool:=if YW r=true then(⟨r.version,r.stages,0,true⟩,true)else(r,false)
abbrev LK (R:Rel):Prop:=∀r:Cr,AU r≤4194304→R [arg (Gg r)] [] (.tup [.agg (Gg (Cq r).1),B (Cq r).2]) []
theorem Axp (D:Dn) (hC:H6 (D Xj)) (hR:EP (D Kr)):LK (Body D R4):=by
 intro r h
 have hl:r.stages.length≤4194304:=h
 simp -implicitDefEqProofs
 refine Aa (hC r h) ?_
 simp -implicitDefEqProofs
 refine Aa (hR r hl) ?_
 by_cases h1:BF r=true
 rotate_left
 ·have e:Cq r=(r,false):=by unfold Cq YW;rw[if_neg (by simp[h1])]
  simp -implicitDefEqProofs [h1,e]
 by_cases h2:r.off=true
 ·have e:Cq r=(r,false):=by unfold Cq YW;rw[if_neg (by simp[h2])]
  simp -implicitDefEqProofs [h1,h2,e]
 have e:Cq r=(⟨r.version,r.stages,0,true⟩,true):=by unfold Cq YW;rw[if_pos (by simp[h1,h2])]
 simp -implicitDefEqProofs [h1,h2,e]
theorem Av3 (D:Dn) (hC:H6 (D OG)) (hR:EP (D Ky)):LK (Body D RU):=by
 intro r h
 have hl:r.stages.length≤4194304:=h
 simp -implicitDefEqProofs
 refine Aa (hC r h) ?_
 simp -implicitDefEqProofs
 refine Aa (hR r hl) ?_
 by_cases h1:BF r=true
 rotate_left
 ·have e:Cq r=(r,false):=by unfold Cq YW;rw[if_neg (by simp[h1])]
  simp -implicitDefEqProofs [h1,e]
 by_cases h2:r.off=true
 ·have e:Cq r=(r,false):=by unfold Cq YW;rw[if_neg (by simp[h2])]
  simp -implicitDefEqProofs [h1,h2,e]
 have e:Cq r=(⟨r.version,r.stages,0,true⟩,true):=by unfold Cq YW;rw[if_pos (by simp[h1,h2])]
 simp -implicitDefEqProofs [h1,h2,e]
def Zj (l:List Int) (v:Int):Bool:=Bt l&&(decide (InV v 1 9)&& !decide (v∈l))
def MX (l:List Int) (v:Int):List Int×Bool:=if Zj l v=true then(Ic l v,true)else(l,false)
abbrev JY (R:Rel):Prop:=∀(l:List Int) (v:Int),l.length≤4194304→R [.sl 1 1 l.length (ints l),I v] [] (.tup [.sl 0 1 (MX l v).1.length (ints (MX l v).1),B (MX l v).2]) []
theorem up9:∀ {l:List Int} {a:Int},Up l→(∀x,x∈l→a<x∧x≤9)→(l.length:Int)≤9-a∨l=[]
 | [],_,_,_=> .inr rfl
 | x::r,a,h,hb=>by
  rw[Up,List.pairwise_cons]at h
  have h0:=hb x (by simp)
  have:=up9 (l:=r) (a:=x) h.2 (fun y hy=>⟨h.1 y hy,(hb y (by simp[hy])).2⟩)
  left
  rcases this with h1 | rfl
  ·simp only[List.length_cons];omega
  ·simp;omega
theorem AqU {l:List Int} (h:Bt l=true):l.length≤9:=by
 have:=up9 (l:=l) (a:=0) (AjX h) (fun x hx=>by have:=AD1 h x hx;exact⟨by omega,by omega⟩)
 rcases this with h1 | rfl
 ·omega
 ·simp
theorem ANW {l:List Int} (h:Up l):l.Pairwise (·≤·):=List.Pairwise.imp (fun h=>by omega) h
theorem AMX:∀ {a b:List Int},a.Pairwise (·≤·)→b.Pairwise (·≤·)→a.Perm b→a=b:=fun ha hb h=>List.Perm.eq_of_pairwise (le:=fun x y:Int=>x≤y) (fun a b _ _ h1 h2=>by omega) ha hb h
theorem AIK {l:List Int} {v:Int} (h:Bt l=true) (hv:¬v∈l):AyR (l++ [v])=Ic l v:=by
 have hup:Up l:=AjX h
 refine AMX (AIo _) (ANW (ADP v hup)) ?_
 refine(List.mergeSort_perm _ _).trans ?_
 unfold Ic
 rw[if_neg (fun e=>hv (List.mem_of_getElem? e))]
 unfold Yf
 have e:l=l.take (FW l v)++l.drop (FW l v):=(List.take_append_drop _ _).symm
 conv=>lhs;rw[e]
 rw[List.append_assoc]
 exact List.Perm.append_left _ (List.perm_append_comm (l₁:=l.drop (FW l v)) (l₂:=[v]))
theorem Ar4 (D:Dn) (hA:Co (D Gb)) (hI:TF (D BP)) (hH:PN (D Bb)) (hS:AHm (D XZ)):JY (Body D O9):=by
 intro l v hl
 have hl8:l.length*8≤1099511627776:=by omega
 have hl9:(l.length+1)*8≤1099511627776:=by omega
 simp -implicitDefEqProofs [hl8]
 refine Aa (hA l (by unfold maxLen;omega)) ?_
 by_cases h1:Bt l=true
 rotate_left
 ·have e:MX l v=(l,false):=by unfold MX Zj;rw[if_neg (by simp[h1])]
  simp -implicitDefEqProofs [h1,e,hl8]
 simp -implicitDefEqProofs [h1]
 refine Aa (hI _ _ _) ?_
 by_cases h2:InV v 1 9
 rotate_left
 ·have e:MX l v=(l,false):=by unfold MX Zj;rw[if_neg (by simp[h2])]
  simp -implicitDefEqProofs [h2,e,hl8]
 simp -implicitDefEqProofs [h2]
 refine Aa (hH l v (by unfold maxLen;omega)) ?_
 by_cases h3:v∈l
 ·have e:MX l v=(l,false):=by unfold MX Zj;rw[if_neg (by simp[h3])]
  simp -implicitDefEqProofs [h3,e,hl8]
 have e:MX l v=(Ic l v,true):=by unfold MX Zj;rw[if_pos (by simp[h1,h2,h3])]
 have hs:=AIK h1 h3
 have hsl:=AFk (l++ [v])
 rw[List.length_append]at hsl
 have hpl:(Ic l v).length=l.length+1:=by rw[←hs,hsl];rfl
 simp -implicitDefEqProofs [h3,hl9]
 have hss:=hS (l++ [v]) (by have:=AqU h1;simp;omega)
 simp -implicitDefEqProofs [hs]at hss
 refine Aa (hss) ?_
 simp -implicitDefEqProofs [hpl,e]
def HV (w:World) (v:Int):World×Bool:=({w with server:=(MX w.server v).1},(MX w.server v).2)
abbrev JZ (R:Rel):Prop:=∀(w:World) (v:Int),Ai w≤4194304→R [arg (Cc w),I v] [] (.tup [.agg (Cc (HV w v).1),B (HV w v).2]) []
theorem AJQ {l:List Int} {v:Int} (h:(MX l v).2=false):(MX l v).1=l:=by
 unfold MX at *
 split at h
 ·cases h
 ·rename_i hc;rw[if_neg hc]
theorem Asg (D:Dn) (hC:CV (D Dt)) (hA:JY (D AjM)):JZ (Body D Qk):=by
 intro w v hsz
 simp -implicitDefEqProofs
 refine Aa (hC w hsz) ?_
 simp -implicitDefEqProofs
 refine Aa (hA w.server v (QS hsz).1) ?_
 have e:HV w v=({w with server:=(MX w.server v).1},(MX w.server v).2):=rfl
 rw[e]
 generalize MX w.server v=r
 simp -implicitDefEqProofs
theorem AHd (l:List Int) (v:Int):(MX l v).1.length≤l.length+1:=by
 unfold MX
 split
 ·exact Apl l v
 ·dsimp only;omega
theorem Asd (w:World) (v:Int):Ai (HV w v).1≤Ai w+1:=by
 have:=AHd w.server v
 simp only[HV,Ai]
 omega
end Go.Eng.T
namespace Go.Eng.T
set_option maxRecDepth 20000
set_option maxHeartbeats 1000000
theorem AHl {D:Dn} {c:Cf} {a:SC} {Q:Out→St→Prop} {s:St} (h:swp D c a (fun o s'=>match o with | .normal=>False | o=>Q o s') s):swp D c (.loop a) Q s:=⟨1,h⟩
def inB (t:Int):Bool:=decide (WO t 0 255)
def Akn (b:List Int) (t:Int):Bool:= !decide (t∈b)&&inB t
def ZC (h x:Hello):List Int:=leftOf h.versions x.versions++((Av h.exts).filter (Akn (Av x.exts))).map (fun t=>1000+t)
theorem AEm (a b:List Int):(leftOf a b).filter inB=a.filter (Akn b):=by
 unfold leftOf
 rw[List.filter_filter]
 congr 1
 funext t
 unfold Akn
 cases inB t<;>cases decide (t∈b)<;>rfl
abbrev Rl (R:Rel):Prop:=∀h x:Hello,hB h→hB x→R [arg (DJ h),arg (DJ x)] [] (.sl 0 1 (ZC h x).length (ints (ZC h x))) []
theorem AuI {p:Int→Bool} {a l:List Int} {j:Nat} (h:j<l.length):
 a++((l.take (j+1)).filter p).map (fun t=>1000+t)=(a++((l.take j).filter p).map (fun t=>1000+t))++(if p l[j]then [1000+l[j]]else []):=by
 rw[KD h,List.map_append,List.append_assoc]
 split<;>simp
theorem AyI {p:Int→Bool} {a l:List Int} {j:Nat}:(a++((l.take j).filter p).map (fun t=>1000+t)).length≤a.length+j:=by
 have:=M5 (p:=p) (xs:=l) (j:=j)
 simp only[List.length_append,List.length_map];omega
theorem ABc (D:Dn) (hL:ZH (D AcY)) (hX:Tf (D VS)) (hI:TF (D Cw)):Rl (Body D Wd):=by
 intro h x hh hx
 have hxl:=hx.2.1
 have hhl:=hh.2.1
 have hvl:=hh.1
 simp -implicitDefEqProofs
 refine Aa (hL h.versions x.versions hh.1 hx.1) ?_
 have hal:=Nu h.versions x.versions
 have e:ZC h x=leftOf h.versions x.versions++((Av h.exts).filter (Akn (Av x.exts))).map (fun t=>1000+t):=rfl
 rw[e]
 have hpd:∀t,Akn (Av x.exts) t=(!decide (t∈Av x.exts)&&inB t):=fun t=>rfl
 generalize leftOf h.versions x.versions=a at hal
 generalize Akn (Av x.exts)=p at hpd
 have htl:(Av h.exts).length=h.exts.length:=Pk _
 have hte:∀j (hj:j<h.exts.length),(Av h.exts)[j]'(by omega)=h.exts[j].tag:=fun j hj=>by simp[Av]
 obtain⟨l,hl⟩:∃l,l=Av h.exts:=⟨_,rfl⟩
 rw[←hl]at htl⊢
 simp -implicitDefEqProofs
 refine Af (fun k s=>∃j o3 o4,j+k=h.exts.length∧s=⟨[.undef,.undef,.ptr 0 0,.ptr 1 0,.undef,.arr 5,I j,.undef,.undef],[.var ((DJ h).map (Be 1)),.var ((DJ x).map (Be 1)),.free,o3,o4,.arr 1 0 (a++((l.take j).filter p).map (fun t=>1000+t)).length (ints (a++((l.take j).filter p).map (fun t=>1000+t)))]⟩) ?_ (h.exts.length) _ ⟨0,.free,.free,by simp,by simp⟩
 intro k s ⟨j,o3,o4,hj,hs⟩
 subst hs
 by_cases hjn:j<h.exts.length
 ·have hw:IntKind.i64.wrap ((j:Int)+1)=(j+1:Nat):=by rw[Ab (by omega) (by omega)];simp
  have hjl:j<l.length:=by omega
  have hlt:l[j]=h.exts[j].tag:=by subst hl;exact hte j hjn
  have hst:=AuI (p:=p) (a:=a) hjl
  have hfl:=AyI (p:=p) (a:=a) (l:=l) (j:=j)
  have hb1:((a++((l.take j).filter p).map (fun t=>1000+t)).length+1)*8≤1099511627776:=by omega
  have hpt:=hpd l[j]
  rw[hlt]at hst hpt
  generalize a++((l.take j).filter p).map (fun t=>1000+t)=r at hst hfl hb1
  simp -implicitDefEqProofs [hjn]
  refine Aa (hX x.exts h.exts[j].tag (by unfold maxLen;omega)) ?_
  by_cases h1:h.exts[j].tag∈Av x.exts
  ·have h3:¬p h.exts[j].tag=true:=by rw[hpt];simp[h1]
   have h1':¬LJ x.exts h.exts[j].tag<0:=by rw[N7];simpa using h1
   rw[if_neg h3,List.append_nil]at hst
   simp -implicitDefEqProofs [h1']
   have hsl:=congrArg List.length hst
   simp only[List.length_append,List.length_map]at hsl
   exact⟨k-1,by omega,j+1,by omega,by simp[hw],by omega,by rw[hst]⟩
  have h1':LJ x.exts h.exts[j].tag<0:=by rw[N7];exact h1
  simp -implicitDefEqProofs [h1',hjn]
  refine Aa (hI _ _ _) ?_
  by_cases h2:WO h.exts[j].tag 0 255
  ·have h3:p h.exts[j].tag=true:=by rw[hpt];simp[h1,inB,h2]
   rw[if_pos h3]at hst
   have hw2:IntKind.i64.wrap (1000+h.exts[j].tag)=1000+h.exts[j].tag:=Ab (by have:=h2.1;omega) (by have:=h2.2;omega)
   simp -implicitDefEqProofs [h2,hjn,hb1,hw2]
   have hsl:=congrArg List.length hst
   simp only[List.length_append,List.length_map,List.length_cons,List.length_nil]at hsl
   exact⟨k-1,by omega,j+1,by omega,by simp[hw],by omega,by rw[hst]⟩
  ·have h3:¬p h.exts[j].tag=true:=by rw[hpt];simp[h1,inB,h2]
   rw[if_neg h3,List.append_nil]at hst
   simp -implicitDefEqProofs [h2]
   have hsl:=congrArg List.length hst
   simp only[List.length_append,List.length_map]at hsl
   exact⟨k-1,by omega,j+1,by omega,by simp[hw],by omega,by rw[hst]⟩
 ·have e2:=K9 (p:=p) (xs:=l) (j:=j) (by omega)
  simp -implicitDefEqProofs [hjn,e2]
theorem AAT (D:Dn) (hL:ZH (D Jt)) (hT:Nb (D Ui)) (hI:TF (D BP)):Rl (Body D WI):=by
 intro h x hh hx
 have hxl:=hx.2.1
 have hhl:=hh.2.1
 have hvl:=hh.1
 simp -implicitDefEqProofs
 refine Aa (hL h.versions x.versions hh.1 hx.1) ?_
 have hal:=Nu h.versions x.versions
 have e:ZC h x=leftOf h.versions x.versions++((Av h.exts).filter (Akn (Av x.exts))).map (fun t=>1000+t):=rfl
 rw[e,←AEm]
 generalize leftOf h.versions x.versions=a at hal
 simp -implicitDefEqProofs
 refine Aa (hT h.exts hh.2.1) ?_
 simp -implicitDefEqProofs
 refine Aa (hT x.exts hx.2.1) ?_
 simp -implicitDefEqProofs
 refine Aa (hL (Av h.exts) (Av x.exts) (by rw[Pk];omega) (by rw[Pk];omega)) ?_
 have hll:=Nu (Av h.exts) (Av x.exts)
 rw[Pk]at hll
 generalize leftOf (Av h.exts) (Av x.exts)=l at hll
 generalize hpd:inB=p
 simp -implicitDefEqProofs
 refine Af (fun k s=>∃j v6 o6 o7,j+k=l.length∧s=⟨[.undef,.undef,.undef,.undef,.undef,.arr 8,v6,.arr 5,I l.length,I j,.undef,.undef],[.var ((DJ h).map (Be 1)),.var ((DJ x).map (Be 1)),.free,.arr 1 0 (Av h.exts).length (ints (Av h.exts)),.arr 1 0 (Av x.exts).length (ints (Av x.exts)),.arr 1 0 l.length (ints l),o6,o7,.arr 1 0 (a++((l.take j).filter p).map (fun t=>1000+t)).length (ints (a++((l.take j).filter p).map (fun t=>1000+t)))]⟩) ?_ (l.length) _ ⟨0,.undef,.free,.free,by simp,by simp⟩
 intro k s ⟨j,v6,o6,o7,hj,hs⟩
 subst hs
 by_cases hjn:j<l.length
 ·have hw:IntKind.i64.wrap ((j:Int)+1)=(j+1:Nat):=by rw[Ab (by omega) (by omega)];simp
  have hst:=AuI (p:=p) (a:=a) hjn
  have hfl:=AyI (p:=p) (a:=a) (l:=l) (j:=j)
  have hb1:((a++((l.take j).filter p).map (fun t=>1000+t)).length+1)*8≤1099511627776:=by omega
  have hpt:p l[j]=inB l[j]:=by rw[hpd]
  generalize a++((l.take j).filter p).map (fun t=>1000+t)=r at hst hfl hb1
  simp -implicitDefEqProofs [hjn]
  refine Aa (hI _ _ _) ?_
  by_cases h2:WO l[j] 0 255
  ·have h3:p l[j]=true:=by rw[hpt];simp[inB,h2]
   rw[if_pos h3]at hst
   have hw2:IntKind.i64.wrap (1000+l[j])=1000+l[j]:=Ab (by have:=h2.1;omega) (by have:=h2.2;omega)
   simp -implicitDefEqProofs [h2,hjn,hb1,hw2]
   have hsl:=congrArg List.length hst
   simp only[List.length_append,List.length_map,List.length_cons,List.length_nil]at hsl
   exact⟨k-1,by omega,j+1,by omega,by simp[hw],by omega,by rw[hst]⟩
  ·have h3:¬p l[j]=true:=by rw[hpt];simp[inB,h2]
   rw[if_neg h3,List.append_nil]at hst
   simp -implicitDefEqProofs [h2]
   have hsl:=congrArg List.length hst
   simp only[List.length_append,List.length_map]at hsl
   exact⟨k-1,by omega,j+1,by omega,by simp[hw],by omega,by rw[hst]⟩
 ·have e2:=K9 (p:=p) (xs:=l) (j:=j) (by omega)
  simp -implicitDefEqProofs [hjn,e2]
def Ij:Aeq:=⟨false,0,[]⟩
def Aj9 (h seen:Hello) (vs tags:List Int) (key:Int):Aeq:=
 if(BI vs tags seen).2&&(FQ h (BI vs tags seen).1&&(!decide (Ei key [Bz h,Ba (BI vs tags seen).1] 1=0)&&
  decide (Ei key [Bz h,Ba (BI vs tags seen).1] 1=Ei key [Bz seen,Ba (BI vs tags seen).1] 1)))
 then⟨true,(BI vs tags seen).1.version,Av (BI vs tags seen).1.exts⟩else Ij
theorem AAi (h:Hello):(Bz h).length≤47:=by
 unfold Bz
 have:=Oa h.exts
 split
 ·rename_i hc
  have:=AqU (AFa hc)
  simp only[List.length_append,List.length_cons];omega
 ·simp
theorem AwD (h:Hello) (a:Vu):I4 [Bz h,Ba a]≤4194304:=by
 have h1:=AAi h
 have h2:=Alg a
 simp[I4,AP]
 omega
theorem Aow {vs tags:List Int} {h:Hello} (hh:hB h):WQ (BI vs tags h).1.exts:=by
 unfold BI
 split
 ·exact XG (XG hh.2 (fun t=>decide (t∈tags))) (fun t=> !A9 t)
 ·exact Agb
def Yb (h:Hello) (path:List H9) (vs tags:List Int) (key:Int):Aeq:=if(Bw path h).2=true then Aj9 h (Bw path h).1 vs tags key else Ij
abbrev NP (R:Rel):Prop:=∀(h:Hello) (path:List H9) (vs tags:List Int) (key:Int),hB h→lnS JG path→vs.length≤4194304→tags.length≤4194304→
 R [arg (DJ h),.sl 1 4 path.length (path.flatMap CW),.sl 1 1 vs.length (ints vs),.sl 1 1 tags.length (ints tags),I key] [] (.agg (AaE (Yb h path vs tags key))) []
theorem Ayb (D:Dn) (hP:Hy (D PK)) (hC:VZ (D Ad1)) (hFi:K6 (D AlE)) (hHB:J3 (D AiV)) (hAB:Jd (D AeW))
 (hF:TV (D Ary)) (hT:Nb (D Ag9)):NP (Body D Vk):=by
 intro h path vs tags key hh hb hv ht
 simp -implicitDefEqProofs
 refine Aa (hP path h hb hh) ?_
 have hr:=Ra (path:=path) hh
 unfold Yb
 generalize Bw path h=r at hr
 by_cases g1:r.2=true
 rotate_left
 ·simp -implicitDefEqProofs [g1,Ij]
 obtain⟨seen,ok⟩:=r
 obtain rfl:ok=true:=g1
 dsimp only at hr⊢
 simp -implicitDefEqProofs
 refine Aa (hC vs tags seen hv ht hr) ?_
 have ha:=Aow (vs:=vs) (tags:=tags) hr
 unfold Aj9
 generalize BI vs tags seen=q at ha
 obtain⟨a,fine⟩:=q
 dsimp only at ha⊢
 by_cases g2:fine=true
 rotate_left
 ·simp -implicitDefEqProofs [g2,Ij]
 simp -implicitDefEqProofs [g2]
 refine Aa (hFi h a hh ha) ?_
 by_cases g3:FQ h a=true
 rotate_left
 ·simp -implicitDefEqProofs [g3,Ij]
 simp -implicitDefEqProofs [g3]
 refine Aa (hHB h hh) ?_
 simp -implicitDefEqProofs
 refine Aa (hAB a ha) ?_
 simp -implicitDefEqProofs
 have hf:=hF key [Bz h,Ba a] 1 (AwD h a)
 simp -implicitDefEqProofs [Jb,LU]at hf
 refine Aa (hf) ?_
 generalize Ei key [Bz h,Ba a] 1=m
 by_cases g4:m=0
 ·simp -implicitDefEqProofs [g4,Ij]
 simp -implicitDefEqProofs [g4]
 refine Aa (hHB seen hr) ?_
 simp -implicitDefEqProofs [g4]
 refine Aa (hAB a ha) ?_
 simp -implicitDefEqProofs [g4]
 have hf2:=hF key [Bz seen,Ba a] 1 (AwD seen a)
 simp -implicitDefEqProofs [Jb,LU]at hf2
 refine Aa (hf2) ?_
 generalize Ei key [Bz seen,Ba a] 1=m2
 by_cases g5:m=m2
 rotate_left
 ·simp -implicitDefEqProofs [g4,g5,Ij]
 subst g5
 simp -implicitDefEqProofs [g4]
 refine Aa (hT a.exts ha.1) ?_
 simp -implicitDefEqProofs [g4]
abbrev AwT (R:Rel):Prop:=∀(h seen:Hello) (vs tags:List Int) (key:Int),hB h→hB seen→vs.length≤4194304→tags.length≤4194304→
 R [arg (DJ h),arg (DJ seen),.sl 1 1 vs.length (ints vs),.sl 1 1 tags.length (ints tags),I key,.sl 1 2 0 []] [] (.agg (AaE (Aj9 h seen vs tags key))) []
theorem AJT (D:Dn) (hC:VZ (D Ad2)) (hFi:K6 (D AlJ)) (hHB:J3 (D AjK)) (hAB:Jd (D Afw))
 (hF:TV (D AaW)) (hK:Yq (D Anr)) (hT:Nb (D Ui)):AwT (Body D Zo):=by
 intro h seen vs tags key hh hr hv ht
 simp -implicitDefEqProofs
 refine Aa (hC vs tags seen hv ht hr) ?_
 have ha:=Aow (vs:=vs) (tags:=tags) hr
 unfold Aj9
 generalize BI vs tags seen=q at ha
 obtain⟨a,fine⟩:=q
 dsimp only at ha⊢
 have e:(!decide (Ei key [Bz h,Ba a] 1=0)&&decide (Ei key [Bz h,Ba a] 1=Ei key [Bz seen,Ba a] 1))=
  Um key [Bz h,Ba a] 1 (Ei key [Bz seen,Ba a] 1):=by
  unfold Um
  by_cases e1:Ei key [Bz h,Ba a] 1=Ei key [Bz seen,Ba a] 1
  ·rw[e1]
  ·have e2:¬Ei key [Bz seen,Ba a] 1=Ei key [Bz h,Ba a] 1:=fun h=>e1 h.symm
   simp[e1,e2]
 rw[e]
 by_cases g2:fine=true
 rotate_left
 ·simp -implicitDefEqProofs [g2,Ij]
 simp -implicitDefEqProofs [g2]
 refine AHl ?_
 simp -implicitDefEqProofs
 refine Aa (hHB seen hr) ?_
 simp -implicitDefEqProofs
 refine Aa (hAB a ha) ?_
 simp -implicitDefEqProofs
 have hf2:=hF key [Bz seen,Ba a] 1 (AwD seen a)
 simp -implicitDefEqProofs [Jb,LU]at hf2
 refine Aa (hf2) ?_
 generalize Ei key [Bz seen,Ba a] 1=m2
 simp -implicitDefEqProofs
 refine Aa (hFi h a hh ha) ?_
 by_cases g3:FQ h a=true
 rotate_left
 ·simp -implicitDefEqProofs [g3,Ij]
 simp -implicitDefEqProofs [g3]
 refine Aa (hHB h hh) ?_
 simp -implicitDefEqProofs
 refine Aa (hAB a ha) ?_
 simp -implicitDefEqProofs
 have hk:=hK key [Bz h,Ba a] 1 m2 (AwD h a)
 simp -implicitDefEqProofs [Jb,LU]at hk
 refine Aa (hk) ?_
 generalize Um key [Bz h,Ba a] 1 m2=c
 by_cases g5:c=true
 rotate_left
 ·simp -implicitDefEqProofs [g5,Ij]
 simp -implicitDefEqProofs [g5]
 refine Aa (hT a.exts ha.1) ?_
 simp -implicitDefEqProofs
theorem AAl (D:Dn) (hP:Hy (D Pe)) (hD:AwT (D AxV)):NP (Body D Vj):=by
 intro h path vs tags key hh hb hv ht
 simp -implicitDefEqProofs
 refine Aa (hP path h hb hh) ?_
 have hr:=Ra (path:=path) hh
 unfold Yb
 generalize Bw path h=r at hr
 by_cases g1:r.2=true
 rotate_left
 ·simp -implicitDefEqProofs [g1,Ij]
 simp -implicitDefEqProofs [g1]
 refine Aa (hD h r.1 vs tags key hh hr hv ht) ?_
 simp -implicitDefEqProofs
def AzW (h:Hello) (path:List H9) (vs tags:List Int) (key:Int):Cu:=
 if(Di h path).2.2=true then⟨Yb (Di h path).1 path vs tags key,(Di h path).2.1,ZC h (Di h path).1⟩else⟨Ij,(Di h path).2.1,[]⟩
abbrev AkG (R:Rel):Prop:=∀(h:Hello) (path:List H9) (vs tags:List Int) (key:Int),hB h→lnS JG path→vs.length≤4194304→tags.length≤4194304→
 R [arg (DJ h),.sl 1 4 path.length (path.flatMap CW),.sl 1 1 vs.length (ints vs),.sl 1 1 tags.length (ints tags),I key] [] (.agg (Ap (AzW h path vs tags key))) []
theorem AKs (D:Dn) (hH:NK (D AoU)) (hO:NP (D Aq8)) (hG:Rl (D Asx)):AkG (Body D Adw):=by
 intro h path vs tags key hh hb hv ht
 simp -implicitDefEqProofs
 refine Aa (hH h path hh hb) ?_
 have hr:=ADN (path:=path) hh
 unfold AzW
 generalize Di h path=r at hr
 obtain⟨x,n,ok⟩:=r
 dsimp only at hr⊢
 by_cases g1:ok=true
 rotate_left
 ·simp -implicitDefEqProofs [g1,Ij]
 simp -implicitDefEqProofs [g1]
 refine Aa (hO x path vs tags key hr hb hv ht) ?_
 simp -implicitDefEqProofs
 refine Aa (hG h x hh hr) ?_
 simp -implicitDefEqProofs [g1]
theorem AJ8 (D:Dn) (hH:NK (D ApY)) (hO:NP (D Aoi)) (hG:Rl (D Ar9)):AkG (Body D AdR):=by
 intro h path vs tags key hh hb hv ht
 simp -implicitDefEqProofs
 refine Aa (hH h path hh hb) ?_
 have hr:=ADN (path:=path) hh
 unfold AzW
 generalize Di h path=r at hr
 obtain⟨x,n,ok⟩:=r
 dsimp only at hr⊢
 by_cases g1:ok=true
 rotate_left
 ·simp -implicitDefEqProofs [g1,Ij]
 simp -implicitDefEqProofs [g1]
 refine Aa (hO x path vs tags key hr hb hv ht) ?_
 simp -implicitDefEqProofs
 refine Aa (hG h x hh hr) ?_
 simp -implicitDefEqProofs [g1]
end Go.Eng.T
