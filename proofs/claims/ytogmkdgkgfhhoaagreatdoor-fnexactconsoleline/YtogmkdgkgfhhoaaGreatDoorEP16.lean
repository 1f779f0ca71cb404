/- Own work: part 16 of the proof of FnExactConsoleLine. -/
import Derived.Test.YtogmkdgkgfhhoaaGreatDoorEP14
import Derived.Test.YtogmkdgkgfhhoaaGreatDoorEP15
import Derived.Lib.SlicesCompact
set_option linter.unusedSimpArgs false
set_option linter.unusedVariables false
namespace Go.Eng.T
set_option maxRecDepth 20000
set_option maxHeartbeats 1000000
def leftOf (a b:List Int):List Int:=a.filter fun v=> !decide (v∈b)
variable (R:Rel)
abbrev AfF:Prop:=∀a b:List Int,a.length<=4194304->b.length<=4194304->R [.sl 1 1 a.length (ints a),.sl 1 1 b.length (ints b)] [] (.sl 0 1 (leftOf a b).length (ints (leftOf a b))) []
variable (D:Dn)
theorem AlH (hH:UQ (D 166)):AfF (Body D NC):=by
 intro a b ha hb
 have hres:leftOf a b=a.filter (fun v=> !decide (v∈b)):=rfl
 rw[hres]
 simp -implicitDefEqProofs
 refine Ag (fun k s=>∃j o1 o2,j+k=a.length/\s=⟨[.sl 1 1 a.length (ints a),.sl 1 1 b.length (ints b),.undef,.arr 3,I j,.undef,.undef],[.free,o1,o2,.arr 1 0 ((a.take j).filter (fun v=> !decide (v∈b))).length (ints ((a.take j).filter (fun v=> !decide (v∈b))))]⟩) ?_ (a.length) _ ⟨0,.free,.free,by simp,by simp⟩
 intro k s ⟨j,o1,o2,hj,hs⟩
 subst hs
 by_cases hjn:j<a.length
 ·have hw:=Cv (j:=j) (by omega)
  have hst:=LD (p:=fun v=> !decide (v∈b)) hjn
  have hln:=Oa (p:=fun v=> !decide (v∈b)) (xs:=a) (j:=j)
  have hbd:(((a.take j).filter (fun v=> !decide (v∈b))).length+1)*8<=1099511627776:=by omega
  simp -implicitDefEqProofs [hjn]
  refine Aa (hH b _ (by unfold maxLen;omega)) ?_
  by_cases h1:a[j]∈b
  ·rw[if_neg (by simp[h1]),List.append_nil]at hst
   simp -implicitDefEqProofs [h1,hjn,hbd]
   exact⟨k-1,by omega,j+1,by omega,by simp[hw],by rw[hst],by rw[hst]⟩
  ·rw[if_pos (by simp[h1])]at hst
   simp -implicitDefEqProofs [h1,hjn,hbd]
   exact⟨k-1,by omega,j+1,by omega,by simp[hw],by rw[hst];simp,by rw[hst]⟩
 ·have hx:=N7 (p:=fun v=> !decide (v∈b)) (xs:=a) (j:=j) (by omega)
  simp -implicitDefEqProofs [hjn,hx]
theorem AHL (hH:UQ (D 188)):AfF (Body D AtM):=by
 intro a b ha hb
 have hres:leftOf a b=a.filter (fun v=> !decide (v∈b)):=rfl
 rw[hres]
 simp -implicitDefEqProofs
 refine Ag (fun k s=>∃j v4 o1 o2,j+k=a.length/\s=⟨[.undef,.sl 1 1 b.length (ints b),.undef,.arr 3,v4,.sl 1 1 a.length (ints a),I a.length,I j,.undef,.undef],[.free,o1,o2,.arr 1 0 ((a.take j).filter (fun v=> !decide (v∈b))).length (ints ((a.take j).filter (fun v=> !decide (v∈b))))]⟩) ?_ (a.length) _ ⟨0,.undef,.free,.free,by simp,by simp⟩
 intro k s ⟨j,v4,o1,o2,hj,hs⟩
 subst hs
 by_cases hjn:j<a.length
 ·have hw:=Cv (j:=j) (by omega)
  have hst:=LD (p:=fun v=> !decide (v∈b)) hjn
  have hln:=Oa (p:=fun v=> !decide (v∈b)) (xs:=a) (j:=j)
  have hbd:(((a.take j).filter (fun v=> !decide (v∈b))).length+1)*8<=1099511627776:=by omega
  simp -implicitDefEqProofs [hjn]
  refine Aa (hH b _ (by unfold maxLen;omega)) ?_
  by_cases h1:a[j]∈b
  ·rw[if_neg (by simp[h1]),List.append_nil]at hst
   simp -implicitDefEqProofs [h1,hjn,hbd]
   exact⟨k-1,by omega,j+1,by omega,by simp[hw],by rw[hst],by rw[hst]⟩
  ·rw[if_pos (by simp[h1])]at hst
   simp -implicitDefEqProofs [h1,hjn,hbd]
   exact⟨k-1,by omega,j+1,by omega,by simp[hw],by rw[hst];simp,by rw[hst]⟩
 ·have hx:=N7 (p:=fun v=> !decide (v∈b)) (xs:=a) (j:=j) (by omega)
  simp -implicitDefEqProofs [hjn,hx]
def upTo (xs:List Int) (i:Nat):Bool:=decide (i=0)||decide (xs.getD (i-1) 0<xs.getD i 0)
def FI (xs:List Int):Bool:=Oj (upTo xs) xs.length&&allIn xs 0 255
abbrev VF:Prop:=∀xs:List Int,xs.length<=maxLen->R [.sl 1 1 xs.length (ints xs)] [] (B (FI xs)) []
theorem Ya {xs:List Int} {j:Nat} (h:j<xs.length) (hn:¬M6 xs[j] 0 255):FI xs=false:=by unfold FI;rw[Ahh h hn];simp
theorem XV {xs:List Int} {j:Nat} (h:j<xs.length) (hn:upTo xs j=false):FI xs=false:=by unfold FI;rw[AhE h hn];simp
theorem Xk (xs:List Int):upTo xs 0=true:=by simp[upTo]
theorem VI {xs:List Int} {j:Nat} (h0:¬j=0) (h:j<xs.length) (h':j-1<xs.length):upTo xs j=decide (xs[j-1]<xs[j]):=by
 unfold upTo
 rw[VG h,VG h']
 simp[h0]
theorem Aiw (hI:Vf (D 71)):VF (Body D Nz):=by
 intro xs hl
 unfold maxLen at hl
 simp -implicitDefEqProofs
 refine Ag (fun k s=>∃j,j+k=xs.length/\allIn (xs.take j) 0 255=true/\Oj (upTo xs) j=true/\s=⟨[.sl 1 1 xs.length (ints xs),.undef,I j,.undef,.undef],[]⟩) ?_ (xs.length) _ ⟨0,by simp,by simp[allIn],by simp,by simp⟩
 intro k s ⟨j,hj,hp,hr,hs⟩
 subst hs
 by_cases hjn:j<xs.length
 ·have hw:=Cv (j:=j) (by omega)
  have hst:=LY (upTo xs) j
  rw[hr,Bool.true_and]at hst
  simp -implicitDefEqProofs [hjn]
  refine Aa (hI _ _ _) ?_
  by_cases h1:M6 xs[j] 0 255
  rotate_left
  ·simp -implicitDefEqProofs [h1,Ya hjn h1]
  by_cases h0:j=0
  ·subst h0
   simp -implicitDefEqProofs [h1]
   exact⟨k-1,by omega,1,by omega,by rw[LU hjn,hp];simp[h1],by rw[hst,Xk],by simpa using hw⟩
  ·have hw2:IntKind.i64.wrap ((j:Int)-1)=((j-1:Nat):Int):=by rw[Ad (by omega) (by omega)];omega
   have h2:(0:Int)<j:=by omega
   have h2':0<j:=by omega
   have h3:j-1<xs.length:=by omega
   rw[VI h0 hjn h3]at hst
   by_cases h4:xs[j-1]<xs[j]
   ·have h4':¬xs[j]<=xs[j-1]:=by omega
    simp -implicitDefEqProofs [h1,h2,h2',hw2,h3,hjn,h4']
    exact⟨k-1,by omega,j+1,by omega,by rw[LU hjn,hp];simp[h1],by rw[hst];simp[h4],by simp[hw]⟩
   ·have e:=XV hjn (by rw[VI h0 hjn h3];simp[h4])
    have h4':xs[j]<=xs[j-1]:=by omega
    simp -implicitDefEqProofs [h1,h2,h2',hw2,h3,hjn,h4',e]
 ·obtain rfl:j=xs.length:=by omega
  have e:FI xs=true:=by unfold FI;rw[hr,Wt (by omega) hp];rfl
  simp -implicitDefEqProofs [e]
theorem AH1 (hN:AsS (D 233)):VF (Body D AwG):=by
 intro xs hl
 have hl0:=hl
 unfold maxLen at hl
 simp -implicitDefEqProofs
 refine Ag (fun k s=>∃j,j+k=xs.length/\Oj (upTo xs) j=true/\s=⟨[.sl 1 1 xs.length (ints xs),.undef,.undef,.undef,.sl 1 1 xs.length (ints xs),I xs.length,I j,.undef,.undef],[]⟩) ?_ (xs.length) _ ⟨0,by simp,by simp,by simp⟩
 intro k s ⟨j,hj,hr,hs⟩
 subst hs
 by_cases hjn:j<xs.length
 ·have hw:=Cv (j:=j) (by omega)
  have hst:=LY (upTo xs) j
  rw[hr,Bool.true_and]at hst
  by_cases h0:j=0
  ·subst h0
   simp -implicitDefEqProofs [hjn]
   exact⟨k-1,by omega,1,by omega,by rw[hst,Xk],by simpa using hw⟩
  ·have hw2:IntKind.i64.wrap ((j:Int)-1)=((j-1:Nat):Int):=by rw[Ad (by omega) (by omega)];omega
   have h2:(0:Int)<j:=by omega
   have h2':0<j:=by omega
   have h3:j-1<xs.length:=by omega
   rw[VI h0 hjn h3]at hst
   by_cases h4:xs[j-1]<xs[j]
   ·have h4':¬xs[j]<=xs[j-1]:=by omega
    simp -implicitDefEqProofs [h2,h2',hw2,h3,hjn,h4']
    exact⟨k-1,by omega,j+1,by omega,by rw[hst];simp[h4],by simp[hw]⟩
   ·have e:=XV hjn (by rw[VI h0 hjn h3];simp[h4])
    have h4':xs[j]<=xs[j-1]:=by omega
    simp -implicitDefEqProofs [h2,h2',hw2,h3,hjn,h4',e]
 ·obtain rfl:j=xs.length:=by omega
  have e:FI xs=allIn xs 0 255:=by unfold FI;rw[hr];rfl
  simp -implicitDefEqProofs
  refine Aa (hN xs _ _ hl0) ?_
  simp -implicitDefEqProofs [e]
def Au (e:Ai):Bool:=AQ e.versions&&(decide (e.tags.length<=5)&&(FI e.tags&&(!e.tags.any BH&&(decide (e.path.length<=4)&&(e.path.all IL&&decide (M6 e.cls 0 5))))))
abbrev Ij:Prop:=∀e:Ai,AbY e->R [arg (Ah e)] [] (B (Au e)) []
theorem Ac1 (hI:Vf (D 71)) (hR:Ib (D 250)) (hX:XD (D 152)) (hA:Dr (D 208)):Ij (Body D JC):=by
 intro e hl
 obtain⟨hl1,hl2,hl3⟩:=hl
 have hl4:=hl3.1
 have hl2':=hl2
 unfold Nr at hl2
 unfold maxLen at hl2 hl4
 simp -implicitDefEqProofs
 refine Ag (fun k s=>∃j,j+k=e.tags.length/\allIn (e.tags.take j) 0 255=true/\Oj (upTo e.tags) j=true/\(e.tags.take j).any BH=false/\s=⟨[.undef,.ptr 0 0,.undef,I j,.undef,.undef,.undef,.undef,.undef],[.var ((Ah e).map (AO 1))]⟩) ?_ (e.tags.length) _ ⟨0,by simp,by simp[allIn],by simp,by simp,by simp⟩
 intro k s ⟨j,hj,hp,hr,hq,hs⟩
 subst hs
 by_cases hjn:j<e.tags.length
 ·have hw:=Cv (j:=j) (by omega)
  have hst:=LY (upTo e.tags) j
  rw[hr,Bool.true_and]at hst
  have hsq:=Abh (p:=BH) hjn
  rw[hq,Bool.false_or]at hsq
  simp -implicitDefEqProofs [hjn]
  refine Aa (hI _ _ _) ?_
  by_cases h1:M6 e.tags[j] 0 255
  rotate_left
  ·have e0:Au e=false:=by unfold Au;rw[Ya hjn h1];simp
   simp -implicitDefEqProofs [h1,e0]
  simp -implicitDefEqProofs [h1,hjn]
  refine Aa (hR _) ?_
  by_cases h5:BH e.tags[j]=true
  ·have e0:Au e=false:=by unfold Au;rw[QR hjn h5];simp
   simp -implicitDefEqProofs [h5,e0]
  have h5':BH e.tags[j]=false:=by simpa using h5
  by_cases h0:j=0
  ·subst h0
   simp -implicitDefEqProofs [h1,h5']
   exact⟨k-1,by omega,1,by omega,by rw[LU hjn,hp];simp[h1],by rw[hst,Xk],by simpa using hsq.trans h5',by simpa using hw⟩
  ·have hw2:IntKind.i64.wrap ((j:Int)-1)=((j-1:Nat):Int):=by rw[Ad (by omega) (by omega)];omega
   have h2:(0:Int)<j:=by omega
   have h2':0<j:=by omega
   have h3:j-1<e.tags.length:=by omega
   rw[VI h0 hjn h3]at hst
   by_cases h4:e.tags[j-1]<e.tags[j]
   ·have h4':¬e.tags[j]<=e.tags[j-1]:=by omega
    simp -implicitDefEqProofs [h1,h5',h2,h2',hw2,h3,hjn,h4']
    exact⟨k-1,by omega,j+1,by omega,by rw[LU hjn,hp];simp[h1],by rw[hst];simp[h4],by simpa using hsq.trans h5',by simp[hw]⟩
   ·have e0:Au e=false:=by unfold Au;rw[XV hjn (by rw[VI h0 hjn h3];simp[h4])];simp
    have h4':e.tags[j]<=e.tags[j-1]:=by omega
    simp -implicitDefEqProofs [h1,h5',h2,h2',hw2,h3,hjn,h4',e0]
 obtain rfl:j=e.tags.length:=by omega
 have et:FI e.tags=true:=by unfold FI;rw[hr,Wt (by omega) hp];rfl
 have er:e.tags.any BH=false:=any_none (by omega) hq
 simp -implicitDefEqProofs
 refine Ag (fun k s=>∃j,j+k=e.path.length/\(e.path.take j).all IL=true/\s=⟨[.undef,.ptr 0 0,.undef,.undef,I j,.undef,.undef,.undef,.undef],[.var ((Ah e).map (AO 1))]⟩) ?_ (e.path.length) _ ⟨0,by simp,by simp,by simp⟩
 intro k s ⟨j,hj,hb,hs⟩
 subst hs
 by_cases hjn:j<e.path.length
 ·have hw:=Cv (j:=j) (by omega)
  have hst:=Qm (p:=IL) hjn
  rw[hb,Bool.true_and]at hst
  simp -implicitDefEqProofs [hjn]
  refine Aa (hX _ (hl3.2 j hjn)) ?_
  by_cases h1:IL e.path[j]=true
  ·simp -implicitDefEqProofs [h1]
   exact⟨k-1,by omega,j+1,by omega,by simpa using hst.trans h1,by simp[hw]⟩
  ·have e0:Au e=false:=by unfold Au;rw[NP hjn (by simpa using h1)];simp
   simp -implicitDefEqProofs [h1,e0]
 have eb:e.path.all IL=true:=by rw[<-VW (j:=j) (by omega),hb]
 simp -implicitDefEqProofs [hjn]
 refine Aa (hA _ hl1) ?_
 by_cases g1:AQ e.versions=true
 rotate_left
 ·simp -implicitDefEqProofs [g1,Au]
 by_cases g2:e.tags.length<=5
 rotate_left
 ·have g2':¬(e.tags.length:Int)<=5:=by omega
  simp -implicitDefEqProofs [g1,g2,g2',Au]
 have g2':(e.tags.length:Int)<=5:=by omega
 by_cases g3:e.path.length<=4
 rotate_left
 ·have g3':¬(e.path.length:Int)<=4:=by omega
  simp -implicitDefEqProofs [g1,g2,g2',g3,g3',Au]
 have g3':(e.path.length:Int)<=4:=by omega
 simp -implicitDefEqProofs [g1,g2',g3']
 refine Aa (hI _ _ _) ?_
 have ee:Au e=decide (M6 e.cls 0 5):=by unfold Au;rw[et,er,eb];simp[g1,g2,g3]
 simp -implicitDefEqProofs [ee]
abbrev AvT:Prop:=∀b:EG,Kh b->R [arg (DT b)] [] (B (!IL b)) []
theorem AEH (hX:XD (D 183)):AvT (Body D At2):=by
 intro b hb
 simp -implicitDefEqProofs
 refine Aa (hX b hb) ?_
 simp -implicitDefEqProofs
theorem AC2 {α:Type} (p:α->Bool) (xs:List α):(xs.any fun x=> !p x)= !xs.all p:=by rw[List.all_eq_not_any_not];simp
theorem AE1 (hA:Dr (D 232)) (hT:VF (D 235)) (hH:At7 (D 270)) (h1:AvT (D 271)) (hC:As3 D (D 272)) (hI:Vf (D 114)):Ij (Body D AuD):=by
 intro e hl
 obtain⟨hl1,hl2,hl3⟩:=hl
 simp -implicitDefEqProofs
 refine Aa (hA _ hl1) ?_
 by_cases g1:AQ e.versions=true
 rotate_left
 ·simp -implicitDefEqProofs [g1,Au]
 by_cases g2:e.tags.length<=5
 rotate_left
 ·have g2':¬(e.tags.length:Int)<=5:=by omega
  simp -implicitDefEqProofs [g1,g2,g2',Au]
 have g2':(e.tags.length:Int)<=5:=by omega
 simp -implicitDefEqProofs [g1,g2']
 refine Aa (hT _ hl2) ?_
 by_cases g4:FI e.tags=true
 rotate_left
 ·simp -implicitDefEqProofs [g4,Au]
 simp -implicitDefEqProofs [g4]
 refine Aa (hH _ hl2) ?_
 by_cases g5:e.tags.any BH=true
 ·have e0:Au e=false:=by unfold Au;rw[g5];simp
  generalize e.tags.any BH=q at g5
  subst g5
  simp -implicitDefEqProofs [e0]
 have g5':e.tags.any BH=false:=by simpa using g5
 have ee:Au e=(decide (e.path.length<=4)&&(e.path.all IL&&decide (M6 e.cls 0 5))):=by unfold Au;rw[g5',g1,g4];simp[g2]
 rw[ee]
 generalize e.tags.any BH=q at g5'
 subst g5'
 by_cases g3:e.path.length<=4
 rotate_left
 ·have g3':¬(e.path.length:Int)<=4:=by omega
  simp -implicitDefEqProofs [g3,g3']
 have g3':(e.path.length:Int)<=4:=by omega
 simp -implicitDefEqProofs [g3,g3']
 refine Aa (hC e.path 271 [] (fun b=> !IL b) hl3.1 Api (fun j hj=>h1 e.path[j] (hl3.2 j hj))) ?_
 rw[AC2]
 generalize e.path.all IL=q
 by_cases g6:q=true
 rotate_left
 ·simp -implicitDefEqProofs [g6]
 simp -implicitDefEqProofs [g6]
 refine Aa (hI _ _ _) ?_
 simp -implicitDefEqProofs
theorem Ap2 {b:EG} (h:Gm b<=4194304):Kh b:=by
 unfold Gm at h
 exact⟨by unfold Nr maxLen;omega,by unfold Nr maxLen;omega⟩
theorem Aeg {p:List EG} (h:Cr Gm p<=4194304):lnS Kh p:=
 ⟨by have:=J9 (f:=Gm) (xs:=p);unfold maxLen;omega,fun j hj=>Ap2 (by have:=size_at (f:=Gm) hj;omega)⟩
theorem AhO {e:Ai} (h:Am e<=4194304):AbY e:=by
 unfold Am at h
 exact⟨by unfold Nr maxLen;omega,by unfold Nr maxLen;omega,Aeg (by omega)⟩
theorem AdH {w:World} (h:Af w<=4194304) {n:Nat} (hn:n<w.ends.length):Am w.ends[n]<=4194304:=by
 have:=size_at (f:=Am) hn
 have:=(Od h).2.2.1
 omega
theorem Adq {e:Ai} (h:Am e<=4194304):e.versions.length<=4194304:=by unfold Am at h;omega
def Axs (e:Ai) (s:List Int):Int:=if Au e=true then AJ s (leftOf e.versions (BZ e.path e.versions))else 0
abbrev AAY:Prop:=∀(e:Ai) (s:List Int),Am e<=4194304->s.length<=4194304->R [arg (Ah e),.sl 1 1 s.length (ints s)] [] (I (Axs e s)) []
theorem Am3 (path:List EG) (vs:List Int):(BZ path vs).length<=vs.length:=by
 unfold BZ
 split
 ·exact List.length_filter_le _ _
 ·simp
theorem AKk (a b:List Int):(leftOf a b).length<=a.length:=List.length_filter_le _ _
theorem AO1 (hE:Ij (D 207)) (hV:JH (D 222)) (hL:AfF (D 223)) (hB:FQ (D 168)):AAY (Body D AL8):=by
 intro e s hsz hs
 have hl:=AhO hsz
 have hv:=Adq hsz
 obtain⟨hl1,hl2,hl3⟩:=hl
 simp -implicitDefEqProofs
 refine Aa (hE e (AhO hsz)) ?_
 by_cases h1:Au e=true
 rotate_left
 ·simp -implicitDefEqProofs [h1,Axs]
 have hll:=Am3 e.path e.versions
 have hll2:=AKk e.versions (BZ e.path e.versions)
 simp -implicitDefEqProofs [h1]
 refine Aa (hV e.path e.versions hl3 hv) ?_
 simp -implicitDefEqProofs
 refine Aa (hL e.versions (BZ e.path e.versions) hv (by omega)) ?_
 simp -implicitDefEqProofs
 refine Aa (hB s (leftOf e.versions (BZ e.path e.versions)) hs (by omega)) ?_
 simp -implicitDefEqProofs [Axs,h1]
theorem AHO (hE:Ij (D 239)) (hV:JH (D 240)) (hL:AfF (D 189)) (hB:FQ (D 190)):AAY (Body D AwU):=by
 intro e s hsz hs
 have hl:=AhO hsz
 have hv:=Adq hsz
 obtain⟨hl1,hl2,hl3⟩:=hl
 simp -implicitDefEqProofs
 refine Aa (hE e (AhO hsz)) ?_
 by_cases h1:Au e=true
 rotate_left
 ·simp -implicitDefEqProofs [h1,Axs]
 have hll:=Am3 e.path e.versions
 have hll2:=AKk e.versions (BZ e.path e.versions)
 simp -implicitDefEqProofs [h1]
 refine Aa (hV e.path e.versions hl3 hv) ?_
 simp -implicitDefEqProofs
 refine Aa (hL e.versions (BZ e.path e.versions) hv (by omega)) ?_
 simp -implicitDefEqProofs
 refine Aa (hB s (leftOf e.versions (BZ e.path e.versions)) hs (by omega)) ?_
 simp -implicitDefEqProofs [Axs,h1]
def AsR (w:World) (i:Int):Int:=if NJ i 0 ((w.ends.length:Int)-1)then(match w.ends[i.toNat]? with | some e=>Axs e w.server | none=>0)else 0
abbrev Ayv:Prop:=∀(w:World) (i:Int),Af w<=4194304->R [arg (Bu w),I i] [] (I (AsR w i)) []
theorem AOW (hI:Vf (D 71)) (hB:AAY (D 165)):Ayv (Body D AMa):=by
 intro w i hsz
 have he:=FE hsz
 have hw:IntKind.i64.wrap ((w.ends.length:Int)-1)=(w.ends.length:Int)-1:=Ad (by omega) (by omega)
 simp -implicitDefEqProofs [hw]
 refine Aa (hI _ _ _) ?_
 by_cases h1:NJ i 0 ((w.ends.length:Int)-1)
 rotate_left
 ·simp -implicitDefEqProofs [h1,AsR]
 obtain⟨n,rfl⟩:∃n:Nat,i=n:=⟨i.toNat,by have:=h1.1;omega⟩
 have hn:n<w.ends.length:=by have:=h1.2;omega
 have hb:=Od hsz
 have hes:=AdH hsz hn
 have e:AsR w n=Axs w.ends[n] w.server:=by unfold AsR;rw[if_pos h1];simp[hn]
 rw[e]
 simp -implicitDefEqProofs [h1,hn]
 refine Aa (hB w.ends[n] w.server hes hb.1) ?_
 simp -implicitDefEqProofs
theorem AHR (hI:Au5 (D 117)) (hB:AAY (D 186)):Ayv (Body D AwW):=by
 intro w i hsz
 have he:=FE hsz
 simp -implicitDefEqProofs
 refine Aa (hI w i he) ?_
 by_cases h1:NJ i 0 ((w.ends.length:Int)-1)
 rotate_left
 ·simp -implicitDefEqProofs [h1,AsR]
 obtain⟨n,rfl⟩:∃n:Nat,i=n:=⟨i.toNat,by have:=h1.1;omega⟩
 have hn:n<w.ends.length:=by have:=h1.2;omega
 have hb:=Od hsz
 have hes:=AdH hsz hn
 have e:AsR w n=Axs w.ends[n] w.server:=by unfold AsR;rw[if_pos h1];simp[hn]
 rw[e]
 simp -implicitDefEqProofs [h1,hn]
 refine Aa (hB w.ends[n] w.server hes hb.1) ?_
 simp -implicitDefEqProofs
set_option maxHeartbeats 1000000
def Ei:List Int->Int->Nat
 | [],_=>0
 | x::r,v=>if x<v then Ei r v+1 else 0
theorem AeQ:∀(l:List Int) (v:Int),Ei l v<=l.length
 | [],_=>Nat.le_refl 0
 | x::r,v=>by
  have:=AeQ r v
  simp only[Ei,List.length_cons]
  split<;>omega
theorem Aj8 {l:List Int} {v:Int} {j:Nat} (h:j<l.length) (hv:l[j]<v):Ei (l.drop j) v=Ei (l.drop (j+1)) v+1:=by
 rw[List.drop_eq_getElem_cons h]
 simp only[Ei,if_pos hv]
theorem Ade {l:List Int} {v:Int} {j:Nat} (h:j<l.length) (hv:¬l[j]<v):Ei (l.drop j) v=0:=by
 rw[List.drop_eq_getElem_cons h]
 simp only[Ei,if_neg hv]
theorem Amr {l:List Int} {v:Int} {j:Nat} (h:l.length<=j):Ei (l.drop j) v=0:=by rw[List.drop_eq_nil_of_le h];rfl
def Ua (l:List Int) (i:Nat) (v:Int):List Int:=l.take i++v::l.drop i
theorem AgY {l:List Int} {i:Nat} {v:Int} (h:i<=l.length):(Ua l i v).length=l.length+1:=by simp[Ua];omega
def El (l:List Int) (v:Int):List Int:=if l[Ei l v]? =some v then l else Ua l (Ei l v) v
theorem Rm (l:List Int) (v:Int):(El l v).length<=l.length+1:=by
 unfold El
 split
 ·omega
 ·rw[AgY (AeQ l v)];omega
abbrev Mf:Prop:=∀(l:List Int) (v:Int),l.length<=4194304->R [.sl 1 1 l.length (ints l),I v] [] (.sl 0 1 (El l v).length (ints (El l v))) []
abbrev AvR:Prop:=∀(l:List Int) (v:Int),l.length<=4194304->R [.arr 0,I v] [.arr 1 0 l.length (ints l)] (.sl 0 1 (El l v).length (ints (El l v))) [.dead]
abbrev AIR:Prop:=∀(l:List Int) (i:Nat) (v:Int),l.length<=4194304->i<=l.length->R [.arr 0,I i,.arr 1] [.arr 1 0 l.length (ints l),.arr 1 0 1 (ints [v])] (.sl 0 1 (Ua l i v).length (ints (Ua l i v))) [.dead,.dead]
theorem Ao5:Mf (Body D QC):=by
 intro l v hl
 simp -implicitDefEqProofs
 refine Ag (fun k s=>∃j,j+k=l.length/\Ei l v=j+Ei (l.drop j) v/\s=⟨[.sl 1 1 l.length (ints l),I v,.undef,I j,.undef,.undef],[.free,.free,.free,.free,.free,.free,.free]⟩) ?_ (l.length) _ ⟨0,by simp,by simp,by simp⟩
 intro k s ⟨j,hj,hp,hs⟩
 subst hs
 by_cases hjn:j<l.length
 ·have hw:=Cv (j:=j) (by omega)
  by_cases hv:l[j]<v
  ·have hst:=Aj8 hjn hv
   simp -implicitDefEqProofs [hjn,hv]
   exact⟨k-1,by omega,j+1,by omega,by omega,by simp[hw]⟩
  ·have hst:=Ade hjn hv
   have hpe:Ei l v=j:=by omega
   have b1:l.length*8<=1099511627776:=by omega
   have b2:j*8<=1099511627776:=by omega
   have b3:(j+1)*8<=1099511627776:=by omega
   have b4:(j+1+(l.length-j))*8<=1099511627776:=by omega
   have hjl:j<=l.length:=by omega
   have hjl':(j:Int)<=l.length:=by omega
   have hmin:min j l.length=j:=by omega
   have htk:List.take (l.length-j) (List.drop j l)=List.drop j l:=List.take_of_length_le (by simp)
   by_cases he:l[j]=v
   ·have e:El l v=l:=by unfold El;rw[hpe,List.getElem?_eq_getElem hjn,he,if_pos rfl]
    rw[e]
    simp -implicitDefEqProofs [hjn,hv,he,b1]
   ·have e:El l v=l.take j++v::l.drop j:=by unfold El Ua;rw[hpe,List.getElem?_eq_getElem hjn,if_neg (by simpa using he)]
    have el:(El l v).length=j+1+(l.length-j):=by rw[e];simp;omega
    simp -implicitDefEqProofs [hjn,hv,he,hjl,hjl',hmin,b2,b3,b4]
    rw[el,e]
    simp[htk,Ab4]
 ·have hst:=Amr (v:=v) (l:=l) (j:=j) (by omega)
  have hpe:Ei l v=j:=by omega
  have b1:l.length*8<=1099511627776:=by omega
  have b2:j*8<=1099511627776:=by omega
  have b3:(j+1)*8<=1099511627776:=by omega
  have b4:(j+1+(l.length-j))*8<=1099511627776:=by omega
  have hjl:j<=l.length:=by omega
  have hjl':(j:Int)<=l.length:=by omega
  have hmin:min j l.length=j:=by omega
  have htk:List.take (l.length-j) (List.drop j l)=List.drop j l:=List.take_of_length_le (by simp)
  have e:El l v=l.take j++v::l.drop j:=by unfold El Ua;rw[hpe,List.getElem?_eq_none (by omega),if_neg (by simp)]
  have el:(El l v).length=j+1+(l.length-j):=by rw[e];simp;omega
  simp -implicitDefEqProofs [hjn,hjl,hjl',hmin,b2,b3,b4]
  rw[el,e]
  simp[htk,Ab4]
theorem AEh (hI:AIR (D 264)):AvR (Body D At1):=by
 intro l v hl
 simp -implicitDefEqProofs
 refine Ag (fun k s=>∃j,j+k=l.length/\Ei l v=j+Ei (l.drop j) v/\s=⟨[.arr 0,I v,.undef,I j,.undef,.undef],[.arr 1 0 l.length (ints l),.free,.free]⟩) ?_ (l.length) _ ⟨0,by simp,by simp,by simp⟩
 intro k s ⟨j,hj,hp,hs⟩
 subst hs
 by_cases hjn:j<l.length
 ·have hw:=Cv (j:=j) (by omega)
  by_cases hv:l[j]<v
  ·have hst:=Aj8 hjn hv
   simp -implicitDefEqProofs [hjn,hv]
   exact⟨k-1,by omega,j+1,by omega,by omega,by simp[hw]⟩
  ·have hst:=Ade hjn hv
   have hpe:Ei l v=j:=by omega
   have b1:l.length*8<=1099511627776:=by omega
   have b2:j*8<=1099511627776:=by omega
   have b3:(j+1)*8<=1099511627776:=by omega
   have b4:(j+1+(l.length-j))*8<=1099511627776:=by omega
   have hjl:j<=l.length:=by omega
   have hjl':(j:Int)<=l.length:=by omega
   have hmin:min j l.length=j:=by omega
   have htk:List.take (l.length-j) (List.drop j l)=List.drop j l:=List.take_of_length_le (by simp)
   by_cases he:l[j]=v
   ·have e:El l v=l:=by unfold El;rw[hpe,List.getElem?_eq_getElem hjn,he,if_pos rfl]
    rw[e]
    simp -implicitDefEqProofs [hjn,hv,he,b1]
   ·have e:El l v=Ua l j v:=by unfold El;rw[hpe,List.getElem?_eq_getElem hjn,if_neg (by simpa using he)]
    rw[e]
    simp -implicitDefEqProofs [hjn,hv,he]
    refine Aa (hI l j v hl hjl) ?_
    simp -implicitDefEqProofs [Cu]
 ·have hst:=Amr (v:=v) (l:=l) (j:=j) (by omega)
  have hpe:Ei l v=j:=by omega
  have b1:l.length*8<=1099511627776:=by omega
  have b2:j*8<=1099511627776:=by omega
  have b3:(j+1)*8<=1099511627776:=by omega
  have b4:(j+1+(l.length-j))*8<=1099511627776:=by omega
  have hjl:j<=l.length:=by omega
  have hjl':(j:Int)<=l.length:=by omega
  have hmin:min j l.length=j:=by omega
  have htk:List.take (l.length-j) (List.drop j l)=List.drop j l:=List.take_of_length_le (by simp)
  have e:El l v=Ua l j v:=by unfold El;rw[hpe,List.getElem?_eq_none (by omega),if_neg (by simp)]
  rw[e]
  simp -implicitDefEqProofs [hjn]
  refine Aa (hI l j v hl hjl) ?_
  simp -implicitDefEqProofs [Cu]
set_option maxHeartbeats 1000000
def UB {α:Type} (f:α->α) (xs:List α) (j:Nat):List α:=(xs.take j).map f++xs.drop j
section
variable {α:Type} {f:α->α} {xs:List α} {j:Nat}
theorem AkF:UB f xs 0=xs:=by simp[UB]
theorem AmF (h:xs.length<=j):UB f xs j=xs.map f:=by simp[UB,List.take_of_length_le h,List.drop_eq_nil_of_le h]
@[simp] theorem Al6 (h:j<=xs.length):(UB f xs j).length=xs.length:=by simp[UB];omega
theorem AgH (h:j<xs.length):(UB f xs j)[j]'(by rw[Al6 (by omega)];exact h)=xs[j]:=by
 unfold UB
 have hl:((xs.take j).map f).length=j:=by simp;omega
 have hm:min j xs.length=j:=by omega
 rw[List.getElem_append_right (by omega)]
 simp[hm]
theorem AgD (h:j<xs.length):(UB f xs j).set j (f xs[j])=UB f xs (j+1):=by
 unfold UB
 have hl:((xs.take j).map f).length=j:=by simp;omega
 have ht:xs.take (j+1)=xs.take j++ [xs[j]]:=by simp
 rw[List.set_append_right _ _ (by omega),hl,Nat.sub_self,ht,List.map_append,List.drop_eq_getElem_cons h,List.set_cons_zero,List.append_assoc]
 rfl
theorem Alv (h:j<xs.length) (hf:f xs[j]=xs[j]):UB f xs (j+1)=UB f xs j:=by
 rw[<-AgD h,hf]
 have:=AgH (f:=f) h
 conv=>lhs;rw[<-this]
 simp
end
def Ev (w:World) (e:Ai):Ai:=if 0<AJ w.server (Co e.versions w.rollout.version)then⟨Co e.versions w.rollout.version,e.tags,e.path,e.cls⟩else e
def leave (w:World):World:={w with ends:=w.ends.map (Ev w),stage:=[]}
abbrev JG:Prop:=∀w:World,Af w<=4194304->R [arg (Bu w)] [] (.agg (Bu (leave w))) []
theorem ApX (a:List Int) (v:Int):(Co a v).length<=a.length:=List.length_filter_le _ _
theorem AgL {w:World} (h:Af w<=4194304) {j:Nat} (hj:j<w.ends.length):w.ends[j].versions.length<=4194304:=by
 have:=size_at (f:=Am) hj
 have e:Am w.ends[j]=w.ends[j].versions.length+w.ends[j].tags.length+Cr Gm w.ends[j].path:=rfl
 unfold Af at h
 omega
theorem Ail {w:World} (h:Af w<=4194304):w.server.length<=4194304:=by unfold Af at h;omega
theorem YG (hC:EF (D 22)) (hW:Ic (D 167)) (hB:FQ (D 168)):JG (Body D Ia):=by
 intro w h
 have hl:=FE h
 simp -implicitDefEqProofs
 refine Aa (hC w h) ?_
 simp -implicitDefEqProofs
 refine Ag (fun k s=>∃j v5 o9,j+k=w.ends.length/\s=⟨[.undef,.ptr 0 0,.ptr 1 0,.ptr 8 0,.sc (.int .i64 j),v5,.undef,.undef],[.var ((Bu w).map (AO 1)),.var [.nil 1,.nil 1,.sc (.int .i64 0),.nil 4,.sc (.int .i64 0),.nil 1,.sc (.int .i64 0),.sc (.bool false),.sc (.int .i64 0),.sc (.int .i64 0),.nil 5,.nil 8,.sc (.int .i64 0),.sc (.int .i64 0),.sc (.int .i64 0)],.arr 1 0 w.server.length (ints w.server),.arr 1 0 w.tags.length (ints w.tags),.arr 4 0 w.ends.length ((UB (Ev w) w.ends j).flatMap Ah),.arr 1 0 w.rollout.stages.length (ints w.rollout.stages),.arr 5 0 w.stage.length (w.stage.flatMap AB),.arr 8 0 w.log.length (w.log.flatMap Az),.var [.arr 2,.arr 3,.sc (.int .i64 w.key),.arr 4,.sc (.int .i64 w.rollout.version),.arr 5,.sc (.int .i64 w.rollout.pos),.sc (.bool w.rollout.off),.sc (.int .i64 w.least),.sc (.int .i64 w.percent),.arr 6,.arr 7,.sc (.int .i64 w.now),.sc (.int .i64 w.hurt),.sc (.int .i64 w.reached)],o9,.free]⟩) ?_ w.ends.length _ ⟨0,by simp[AkF]⟩
 intro k s ⟨j,v5,o9,hj,hs⟩
 subst hs
 by_cases hjn:j<w.ends.length
 ·have hw:=Cv (j:=j) (by omega)
  have hjl:j<=w.ends.length:=by omega
  have hset:=AgD (f:=Ev w) hjn
  have hg:=AgH (f:=Ev w) hjn
  have hvl:=AgL h hjn
  have hwl:=ApX w.ends[j].versions w.rollout.version
  have hf:j*4<w.ends.length*4:=by omega
  simp -implicitDefEqProofs [hjn,hjl,hg]
  refine Aa (hW w.ends[j].versions _ hvl) ?_
  simp -implicitDefEqProofs
  refine Aa (hB w.server _ (Ail h) (by omega)) ?_
  by_cases h1:0<AJ w.server (Co w.ends[j].versions w.rollout.version)
  ·have e:Ev w w.ends[j]=⟨Co w.ends[j].versions w.rollout.version,w.ends[j].tags,w.ends[j].path,w.ends[j].cls⟩:=by unfold Ev;rw[if_pos h1]
   rw[e]at hset
   simp -implicitDefEqProofs [h1,hjn,hjl,hg,hf]
   exact⟨k-1,by omega,j+1,by omega,by simp[hw],by rw[<-hset]⟩
  ·have e:Ev w w.ends[j]=w.ends[j]:=by unfold Ev;rw[if_neg h1]
   have hsame:=Alv hjn e
   simp -implicitDefEqProofs [h1]
   exact⟨k-1,by omega,j+1,by omega,by simp[hw],by rw[hsame]⟩
 ·have hx:=AmF (f:=Ev w) (xs:=w.ends) (j:=j) (by omega)
  simp -implicitDefEqProofs [hjn,hx,leave]
theorem ACu (hC:EF (D 38)) (hW:Aw5 (D 189)) (hB:FQ (D 190)):JG (Body D At5):=by
 intro w h
 have hl:=FE h
 simp -implicitDefEqProofs
 refine Aa (hC w h) ?_
 simp -implicitDefEqProofs
 refine Ag (fun k s=>∃j v5 v6 v7 o9 o10 o11,j+k=w.ends.length/\s=⟨[.undef,.ptr 0 0,.ptr 1 0,.ptr 8 0,.sc (.int .i64 w.rollout.version),v5,v6,v7,.arr 4,.sc (.int .i64 w.ends.length),.sc (.int .i64 j),.undef,.undef],[.var ((Bu w).map (AO 1)),.var [.nil 1,.nil 1,.sc (.int .i64 0),.nil 4,.sc (.int .i64 0),.nil 1,.sc (.int .i64 0),.sc (.bool false),.sc (.int .i64 0),.sc (.int .i64 0),.nil 5,.nil 8,.sc (.int .i64 0),.sc (.int .i64 0),.sc (.int .i64 0)],.arr 1 0 w.server.length (ints w.server),.arr 1 0 w.tags.length (ints w.tags),.arr 4 0 w.ends.length ((UB (Ev w) w.ends j).flatMap Ah),.arr 1 0 w.rollout.stages.length (ints w.rollout.stages),.arr 5 0 w.stage.length (w.stage.flatMap AB),.arr 8 0 w.log.length (w.log.flatMap Az),.var [.arr 2,.arr 3,.sc (.int .i64 w.key),.arr 4,.sc (.int .i64 w.rollout.version),.arr 5,.sc (.int .i64 w.rollout.pos),.sc (.bool w.rollout.off),.sc (.int .i64 w.least),.sc (.int .i64 w.percent),.arr 6,.arr 7,.sc (.int .i64 w.now),.sc (.int .i64 w.hurt),.sc (.int .i64 w.reached)],o9,o10,o11]⟩) ?_ w.ends.length _ ⟨0,by simp[AkF]⟩
 intro k s ⟨j,v5,v6,v7,o9,o10,o11,hj,hs⟩
 subst hs
 by_cases hjn:j<w.ends.length
 ·have hw:=Cv (j:=j) (by omega)
  have hjl:j<=w.ends.length:=by omega
  have hset:=AgD (f:=Ev w) hjn
  have hg:=AgH (f:=Ev w) hjn
  have hvl:=AgL h hjn
  have hwl:=ApX w.ends[j].versions w.rollout.version
  have hf:j*4<w.ends.length*4:=by omega
  simp -implicitDefEqProofs [hjn,hjl,hg]
  refine Aa (hW w.ends[j].versions _ hvl) ?_
  by_cases h0:(Co w.ends[j].versions w.rollout.version).length<w.ends[j].versions.length
  ·have h0':((Co w.ends[j].versions w.rollout.version).length:Int)<w.ends[j].versions.length:=by omega
   simp -implicitDefEqProofs [h0,h0']
   refine Aa (hB w.server _ (Ail h) (by omega)) ?_
   by_cases h1:0<AJ w.server (Co w.ends[j].versions w.rollout.version)
   ·have e:Ev w w.ends[j]=⟨Co w.ends[j].versions w.rollout.version,w.ends[j].tags,w.ends[j].path,w.ends[j].cls⟩:=by unfold Ev;rw[if_pos h1]
    rw[e]at hset
    simp -implicitDefEqProofs [h1,hjn,hjl,hg,hf]
    exact⟨k-1,by omega,j+1,by omega,by simp[hw],by rw[<-hset]⟩
   ·have e:Ev w w.ends[j]=w.ends[j]:=by unfold Ev;rw[if_neg h1]
    have hsame:=Alv hjn e
    simp -implicitDefEqProofs [h1]
    exact⟨k-1,by omega,j+1,by omega,by simp[hw],by rw[hsame]⟩
  ·have h0':¬((Co w.ends[j].versions w.rollout.version).length:Int)<w.ends[j].versions.length:=by omega
   have e:Ev w w.ends[j]=w.ends[j]:=by
    have hall:Co w.ends[j].versions w.rollout.version=w.ends[j].versions:=List.filter_eq_self.2 (by
     have:=List.length_filter_eq_length_iff (p:=fun x=> !decide (x=w.rollout.version)) (l:=w.ends[j].versions)
     exact this.1 (by unfold Co at h0 hwl;omega))
    unfold Ev
    rw[hall]
    split<;>rfl
   have hsame:=Alv hjn e
   simp -implicitDefEqProofs [h0,h0']
   exact⟨k-1,by omega,j+1,by omega,by simp[hw],by rw[hsame]⟩
 ·have hx:=AmF (f:=Ev w) (xs:=w.ends) (j:=j) (by omega)
  simp -implicitDefEqProofs [hjn,hx,leave]
set_option maxHeartbeats 2000000
def MN {α:Type} (f:Nat->α->α) (xs:List α) (j:Nat):List α:=xs.mapIdx fun i x=>if i<j then f i x else x
section
variable {α:Type} {f:Nat->α->α} {xs:List α} {j:Nat}
@[simp] theorem WN:(MN f xs j).length=xs.length:=by simp[MN]
theorem AiZ:MN f xs 0=xs:=by
 apply List.ext_getElem
 ·simp
 ·intro n h1 h2;simp[MN]
theorem Akv (h:xs.length<=j):MN f xs j=xs.mapIdx f:=by
 apply List.ext_getElem
 ·simp
 ·intro n h1 h2
  simp only[WN]at h1
  simp only[MN,List.getElem_mapIdx]
  rw[if_pos (by omega)]
theorem AdE (h:j<xs.length):(MN f xs j)[j]'(by rw[WN];exact h)=xs[j]:=by simp[MN]
theorem Adx (h:j<xs.length):(MN f xs j).set j (f j xs[j])=MN f xs (j+1):=by
 apply List.ext_getElem
 ·simp
 ·intro n h1 h2
  simp only[List.length_set,WN]at h1
  rw[List.getElem_set]
  simp only[MN,List.getElem_mapIdx]
  by_cases hn:j=n
  ·subst hn;simp
  ·rw[if_neg hn]
   by_cases hl:n<j
   ·rw[if_pos hl,if_pos (by omega)]
   ·rw[if_neg hl,if_neg (by omega)]
theorem Aii (h:j<xs.length) (hf:f j xs[j]=xs[j]):MN f xs (j+1)=MN f xs j:=by
 rw[<-Adx h,hf]
 have:=AdE (f:=f) h
 conv=>lhs;rw[<-this]
 simp
end
def Fv (w:World) (i:Nat) (e:Ai):Ai:=if isIn w.rollout i w.ends.length=true then⟨El e.versions w.rollout.version,e.tags,e.path,e.cls⟩else e
def Hg (w:World):Bool:=AP w.rollout&& !w.rollout.off
def enter (w:World):World:=if Hg w=true then {w with ends:=w.ends.mapIdx (Fv w),stage:=[],reached:=max w.reached (w.rollout.pos+1)}else w
abbrev J3:Prop:=∀w:World,Af w<=4194304->R [arg (Bu w)] [] (.agg (Bu (enter w))) []
abbrev Afz:Prop:=∀a b:Int,R [I a,I b] [] (I (max a b)) []
abbrev Ajq:Prop:=∀a b:Int,R [I a,I b] [] (I (min a b)) []
theorem ApW:Afz (Body D WM):=by
 intro a b
 by_cases h:a<b
 ·have e:max a b=b:=by omega
  simp -implicitDefEqProofs [h,e]
 ·have e:max a b=a:=by omega
  simp -implicitDefEqProofs [h,e]
theorem AqQ:Ajq (Body D Xi):=by
 intro a b
 by_cases h:a<b
 ·have e:min a b=a:=by omega
  simp -implicitDefEqProofs [h,e]
  intro;omega
 ·have e:min a b=b:=by omega
  simp -implicitDefEqProofs [h,e]
  intro;omega
theorem Acf (hC:EF (D 22)) (hR:FX (D 145)) (hI:Af6 (D 214)) (hP:Mf (D 159)) (hM:Afz (D 215)):J3 (Body D Jp):=by
 intro w h
 have hl:=FE h
 have hr:=OU h
 simp -implicitDefEqProofs
 refine Aa (hC w h) ?_
 simp -implicitDefEqProofs
 refine Aa (hR w.rollout hr) ?_
 by_cases h1:AP w.rollout=true
 rotate_left
 ·have e:enter w=w:=by unfold enter Hg;rw[if_neg (by simp[h1])]
  simp -implicitDefEqProofs [h1,e]
 by_cases h2:w.rollout.off=true
 ·have e:enter w=w:=by unfold enter Hg;rw[if_neg (by simp[h2])]
  simp -implicitDefEqProofs [h1,h2,e]
 have h2':w.rollout.off=false:=by simpa using h2
 have e:enter w={w with ends:=w.ends.mapIdx (Fv w),stage:=[],reached:=max w.reached (w.rollout.pos+1)}:=by unfold enter Hg;rw[if_pos (by simp[h1,h2'])]
 have hp:=Abf h1
 have hwp:IntKind.i64.wrap (w.rollout.pos+1)=w.rollout.pos+1:=Ad (by omega) (by omega)
 simp -implicitDefEqProofs [h1,h2]
 refine Ag (fun k s=>∃j o9,j+k=w.ends.length/\s=⟨[.undef,.ptr 0 0,.ptr 1 0,.ptr 8 0,I j,.undef,.undef,.undef],[.var ((Bu w).map (AO 1)),.var [.nil 1,.nil 1,.sc (.int .i64 0),.nil 4,.sc (.int .i64 0),.nil 1,.sc (.int .i64 0),.sc (.bool false),.sc (.int .i64 0),.sc (.int .i64 0),.nil 5,.nil 8,.sc (.int .i64 0),.sc (.int .i64 0),.sc (.int .i64 0)],.arr 1 0 w.server.length (ints w.server),.arr 1 0 w.tags.length (ints w.tags),.arr 4 0 w.ends.length ((MN (Fv w) w.ends j).flatMap Ah),.arr 1 0 w.rollout.stages.length (ints w.rollout.stages),.arr 5 0 w.stage.length (w.stage.flatMap AB),.arr 8 0 w.log.length (w.log.flatMap Az),.var [.arr 2,.arr 3,.sc (.int .i64 w.key),.arr 4,.sc (.int .i64 w.rollout.version),.arr 5,.sc (.int .i64 w.rollout.pos),.sc (.bool w.rollout.off),.sc (.int .i64 w.least),.sc (.int .i64 w.percent),.arr 6,.arr 7,.sc (.int .i64 w.now),.sc (.int .i64 w.hurt),.sc (.int .i64 w.reached)],o9,.free]⟩) ?_ (w.ends.length) _ ⟨0,.free,by simp,by simp[AiZ,h2']⟩
 intro k s ⟨j,o9,hj,hs⟩
 subst hs
 by_cases hjn:j<w.ends.length
 ·have hw:=Cv (j:=j) (by omega)
  have hset:=Adx (f:=Fv w) hjn
  have hg:=AdE (f:=Fv w) hjn
  have hvl:=AgL h hjn
  have hf:j*4<w.ends.length*4:=by omega
  simp -implicitDefEqProofs [hjn]
  refine Aa (hI w.rollout j w.ends.length hr) ?_
  by_cases h3:isIn w.rollout j w.ends.length=true
  ·have e3:Fv w j w.ends[j]=⟨El w.ends[j].versions w.rollout.version,w.ends[j].tags,w.ends[j].path,w.ends[j].cls⟩:=by unfold Fv;rw[if_pos h3]
   rw[e3]at hset
   simp -implicitDefEqProofs [h3,hjn,hg,hf]
   refine Aa (hP w.ends[j].versions _ hvl) ?_
   simp -implicitDefEqProofs [hjn,hg,hf]
   exact⟨k-1,by omega,j+1,by omega,by simp[hw],by rw[<-hset]⟩
  ·have e3:Fv w j w.ends[j]=w.ends[j]:=by unfold Fv;rw[if_neg h3]
   have hsame:=Aii hjn e3
   simp -implicitDefEqProofs [h3]
   exact⟨k-1,by omega,j+1,by omega,by simp[hw],by rw[hsame]⟩
 ·have hx:=Akv (f:=Fv w) (xs:=w.ends) (j:=j) (by omega)
  simp -implicitDefEqProofs [hjn,hwp,hx]
  refine Aa (hM _ _) ?_
  simp -implicitDefEqProofs [e,h2']
theorem AED (hC:EF (D 38)) (hR:FX (D 176)) (hI:Af6 (D 228)) (hP:AvR (D 230)):J3 (Body D Aun):=by
 intro w h
 have hl:=FE h
 have hr:=OU h
 simp -implicitDefEqProofs
 refine Aa (hC w h) ?_
 simp -implicitDefEqProofs
 refine Aa (hR w.rollout hr) ?_
 by_cases h1:AP w.rollout=true
 rotate_left
 ·have e:enter w=w:=by unfold enter Hg;rw[if_neg (by simp[h1])]
  simp -implicitDefEqProofs [h1,e]
 by_cases h2:w.rollout.off=true
 ·have e:enter w=w:=by unfold enter Hg;rw[if_neg (by simp[h2])]
  simp -implicitDefEqProofs [h1,h2,e]
 have h2':w.rollout.off=false:=by simpa using h2
 have e:enter w={w with ends:=w.ends.mapIdx (Fv w),stage:=[],reached:=max w.reached (w.rollout.pos+1)}:=by unfold enter Hg;rw[if_pos (by simp[h1,h2'])]
 have hp:=Abf h1
 have hwp:IntKind.i64.wrap (w.rollout.pos+1)=w.rollout.pos+1:=Ad (by omega) (by omega)
 simp -implicitDefEqProofs [h1,h2]
 refine Ag (fun k s=>∃j v5 o10 o11,j+k=w.ends.length/\s=⟨[.undef,.ptr 0 0,.ptr 1 0,.ptr 8 0,.ptr 9 0,v5,.undef,I w.ends.length,I j,.undef,.undef],[.var ((Bu w).map (AO 1)),.var [.nil 1,.nil 1,.sc (.int .i64 0),.nil 4,.sc (.int .i64 0),.nil 1,.sc (.int .i64 0),.sc (.bool false),.sc (.int .i64 0),.sc (.int .i64 0),.nil 5,.nil 8,.sc (.int .i64 0),.sc (.int .i64 0),.sc (.int .i64 0)],.arr 1 0 w.server.length (ints w.server),.arr 1 0 w.tags.length (ints w.tags),.arr 4 0 w.ends.length ((MN (Fv w) w.ends j).flatMap Ah),.arr 1 0 w.rollout.stages.length (ints w.rollout.stages),.arr 5 0 w.stage.length (w.stage.flatMap AB),.arr 8 0 w.log.length (w.log.flatMap Az),.var [.arr 2,.arr 3,.sc (.int .i64 w.key),.arr 4,.sc (.int .i64 w.rollout.version),.arr 5,.sc (.int .i64 w.rollout.pos),.sc (.bool w.rollout.off),.sc (.int .i64 w.least),.sc (.int .i64 w.percent),.arr 6,.arr 7,.sc (.int .i64 w.now),.sc (.int .i64 w.hurt),.sc (.int .i64 w.reached)],.var [.sc (.int .i64 w.rollout.version),.sl 1 1 w.rollout.stages.length (ints w.rollout.stages),.sc (.int .i64 w.rollout.pos),.sc (.bool w.rollout.off)],o10,o11]⟩) ?_ (w.ends.length) _ ⟨0,.undef,.free,.free,by simp,by simp[AiZ,h2']⟩
 intro k s ⟨j,v5,o10,o11,hj,hs⟩
 subst hs
 by_cases hjn:j<w.ends.length
 ·have hw:=Cv (j:=j) (by omega)
  have hset:=Adx (f:=Fv w) hjn
  have hg:=AdE (f:=Fv w) hjn
  have hvl:=AgL h hjn
  have hf:j*4<w.ends.length*4:=by omega
  simp -implicitDefEqProofs [hjn]
  refine⟨by cases o11<;>rfl,?_⟩
  refine Aa (hI w.rollout j w.ends.length hr) ?_
  by_cases h3:isIn w.rollout j w.ends.length=true
  ·have e3:Fv w j w.ends[j]=⟨El w.ends[j].versions w.rollout.version,w.ends[j].tags,w.ends[j].path,w.ends[j].cls⟩:=by unfold Fv;rw[if_pos h3]
   rw[e3]at hset
   simp -implicitDefEqProofs [h3,hjn,hg,hf]
   refine Aa (hP w.ends[j].versions _ hvl) ?_
   simp -implicitDefEqProofs [hjn,hg,hf]
   exact⟨k-1,by omega,j+1,by omega,by simp[hw],by rw[<-hset]⟩
  ·have e3:Fv w j w.ends[j]=w.ends[j]:=by unfold Fv;rw[if_neg h3]
   have hsame:=Aii hjn e3
   simp -implicitDefEqProofs [h3]
   exact⟨k-1,by omega,j+1,by omega,by simp[hw],by rw[hsame]⟩
 ·have hx:=Akv (f:=Fv w) (xs:=w.ends) (j:=j) (by omega)
  by_cases hmx:w.reached<w.rollout.pos+1
  ·have em:max w.reached (w.rollout.pos+1)=w.rollout.pos+1:=by omega
   simp -implicitDefEqProofs [hjn,hwp,hx,e,h2',hmx,em]
  ·have em:max w.reached (w.rollout.pos+1)=w.reached:=by omega
   simp -implicitDefEqProofs [hjn,hwp,hx,e,h2',hmx,em]
def Dc (w:World):World×Bool:=if decide (w.reached=0)&&Hg w then(enter w,true)else(w,false)
abbrev OT:Prop:=∀w:World,Af w<=4194304->R [arg (Bu w)] [] (.tup [.agg (Bu (Dc w).1),B (Dc w).2]) []
theorem AeP (hC:EF (D 22)) (hR:FX (D 145)) (hE:J3 (D 146)):OT (Body D KJ):=by
 intro w h
 have hr:=OU h
 by_cases h0:w.reached=0
 rotate_left
 ·have e:Dc w=(w,false):=by unfold Dc;simp[h0]
  simp -implicitDefEqProofs [h0]
  refine Aa (hC w h) ?_
  simp -implicitDefEqProofs [e]
 simp -implicitDefEqProofs [h0]
 refine Aa (hR w.rollout hr) ?_
 by_cases h1:AP w.rollout=true
 rotate_left
 ·have e:Dc w=(w,false):=by unfold Dc Hg;simp[h1]
  simp -implicitDefEqProofs [h1]
  have hcs:=hC w h
  simp -implicitDefEqProofs [h0]at hcs
  refine Aa hcs ?_
  clear hcs
  simp -implicitDefEqProofs [e,h0]
 by_cases h2:w.rollout.off=true
 ·have e:Dc w=(w,false):=by unfold Dc Hg;simp[h2]
  simp -implicitDefEqProofs [h1,h2]
  have hcs:=hC w h
  simp -implicitDefEqProofs [h0,h2]at hcs
  refine Aa hcs ?_
  clear hcs
  simp -implicitDefEqProofs [e,h0,h2]
 have h2':w.rollout.off=false:=by simpa using h2
 have e:Dc w=(enter w,true):=by unfold Dc Hg;simp[h0,h1,h2']
 simp -implicitDefEqProofs [h1,h2]
 have hcs:=hE w h
 simp -implicitDefEqProofs [h0,h2]at hcs
 refine Aa hcs ?_
 clear hcs
 simp -implicitDefEqProofs [e]
theorem AF8 (hC:EF (D 38)) (hR:FX (D 176)) (hE:J3 (D 177)):OT (Body D Avy):=by
 intro w h
 have hr:=OU h
 by_cases h0:w.reached=0
 rotate_left
 ·have e:Dc w=(w,false):=by unfold Dc;simp[h0]
  simp -implicitDefEqProofs [h0]
  refine Aa (hC w h) ?_
  simp -implicitDefEqProofs [e]
 simp -implicitDefEqProofs [h0]
 refine Aa (hR w.rollout hr) ?_
 by_cases h1:AP w.rollout=true
 rotate_left
 ·have e:Dc w=(w,false):=by unfold Dc Hg;simp[h1]
  simp -implicitDefEqProofs [h1]
  have hcs:=hC w h
  simp -implicitDefEqProofs [h0]at hcs
  refine Aa hcs ?_
  clear hcs
  simp -implicitDefEqProofs [e,h0]
 by_cases h2:w.rollout.off=true
 ·have e:Dc w=(w,false):=by unfold Dc Hg;simp[h2]
  simp -implicitDefEqProofs [h1,h2]
  have hcs:=hC w h
  simp -implicitDefEqProofs [h0,h2]at hcs
  refine Aa hcs ?_
  clear hcs
  simp -implicitDefEqProofs [e,h0,h2]
 have h2':w.rollout.off=false:=by simpa using h2
 have e:Dc w=(enter w,true):=by unfold Dc Hg;simp[h0,h1,h2']
 simp -implicitDefEqProofs [h1,h2]
 have hcs:=hE w h
 simp -implicitDefEqProofs [h0,h2]at hcs
 refine Aa hcs ?_
 clear hcs
 simp -implicitDefEqProofs [e]
set_option maxHeartbeats 2000000
open Go.Lib (compact compactUpTo keeps)
abbrev Up (l:List Int):Prop:=l.Pairwise (· < ·)
theorem AKb:∀ {a b:List Int},Up a->Up b->(∀x,x∈a↔x∈b)->a=b
 | [],[],_,_,_=>rfl
 | [],y::b,_,_,h=>by have:=(h y).2 (by simp);simp at this
 | x::a,[],_,_,h=>by have:=(h x).1 (by simp);simp at this
 | x::a,y::b,ha,hb,h=>by
  rw[Up,List.pairwise_cons]at ha hb
  have hxy:x=y:=by
   have h1:=(h x).1 (by simp)
   have h2:=(h y).2 (by simp)
   rcases List.mem_cons.1 h1 with e | h1
   ·exact e
   ·rcases List.mem_cons.1 h2 with e | h2
    ·exact e.symm
    ·have:=hb.1 x h1;have:=ha.1 y h2;omega
  subst hxy
  congr 1
  refine AKb ha.2 hb.2 fun z=>⟨fun hz=> ?_,fun hz=> ?_⟩
  ·rcases List.mem_cons.1 ((h z).1 (by simp[hz]))with e | h1
   ·subst e;have:=ha.1 z hz;omega
   ·exact h1
  ·rcases List.mem_cons.1 ((h z).2 (by simp[hz]))with e | h1
   ·subst e;have:=hb.1 z hz;omega
   ·exact h1
theorem IQ:∀(l:List Int) (v x:Int),x∈El l v↔x∈l∨x=v:=by
 intro l v x
 unfold El
 split
 ·rename_i h
  constructor
  ·exact .inl
  ·rintro (h1 | rfl)
   ·exact h1
   ·exact List.mem_of_getElem? h
 ·unfold Ua
  rw[List.mem_append,List.mem_cons]
  have:x∈l↔x∈l.take (Ei l v)∨x∈l.drop (Ei l v):=by
   conv=>lhs;rw[<-List.take_append_drop (Ei l v) l,List.mem_append]
  rw[this]
  constructor
  ·rintro (h1 | h1 | h1)
   ·exact .inl (.inl h1)
   ·exact .inr h1
   ·exact .inl (.inr h1)
  ·rintro ((h1 | h1) | h1)
   ·exact .inl h1
   ·exact .inr (.inr h1)
   ·exact .inr (.inl h1)
theorem X6:∀(l:List Int) (v x:Int),x∈l.take (Ei l v)->x<v
 | [],v,x,h=>by simp at h
 | y::r,v,x,h=>by
  simp only[Ei]at h
  split at h
  ·rw[List.take_succ_cons]at h
   rcases List.mem_cons.1 h with rfl | h
   ·assumption
   ·exact X6 r v x h
  ·simp at h
theorem AeM:∀ {l:List Int} (v:Int),Up l->Up (El l v):=by
 intro l v hl
 unfold El
 split
 ·exact hl
 ·rename_i hne
  unfold Ua Up
  rw[List.pairwise_append,List.pairwise_cons]
  have hb:=X6 l v
  have hafter:∀y,y∈l.drop (Ei l v)->v<y:=by
   intro y hy
   by_cases hk:Ei l v<l.length
   ·have hs:=Ade (l:=l) (v:=v) hk (by
     intro hlt
     have key:∀(l:List Int) (h:Ei l v<l.length),¬l[Ei l v]<v:=by
      intro l
      induction l with
      | nil=>intro h;simp at h
      | cons x r ih=>
       intro h
       by_cases hx:x<v
       ·have e:Ei (x::r) v=Ei r v+1:=by simp[Ei,hx]
        have h':Ei r v<r.length:=by rw[e]at h;simpa using h
        have:=ih h'
        simp only[e,List.getElem_cons_succ]
        exact this
       ·have e:Ei (x::r) v=0:=by simp[Ei,hx]
        simp only[e,List.getElem_cons_zero]
        exact hx
     exact key l hk hlt)
    have key:∀(l:List Int) (h:Ei l v<l.length),¬l[Ei l v]<v:=by
     intro l
     induction l with
     | nil=>intro h;simp at h
     | cons x r ih=>
      intro h
      by_cases hx:x<v
      ·have e:Ei (x::r) v=Ei r v+1:=by simp[Ei,hx]
       have h':Ei r v<r.length:=by rw[e]at h;simpa using h
       have:=ih h'
       simp only[e,List.getElem_cons_succ]
       exact this
      ·have e:Ei (x::r) v=0:=by simp[Ei,hx]
       simp only[e,List.getElem_cons_zero]
       exact hx
    have h1:=key l hk
    have h2:l[Ei l v]≠v:=by
     intro e;apply hne;rw[List.getElem?_eq_getElem hk,e]
    rw[List.drop_eq_getElem_cons hk]at hy
    have hp:(l[Ei l v]::l.drop (Ei l v+1)).Pairwise (· < ·):=by rw[<-List.drop_eq_getElem_cons hk];exact hl.drop
    rw[List.pairwise_cons]at hp
    rcases List.mem_cons.1 hy with rfl | hy
    ·omega
    ·have:=hp.1 y hy;omega
   ·rw[List.drop_eq_nil_of_le (by omega)]at hy;simp at hy
  refine⟨hl.take,⟨hafter,hl.drop⟩,fun a ha b hb'=> ?_⟩
  have h1:=hb a ha
  rcases List.mem_cons.1 hb' with rfl | hb'
  ·exact h1
  ·have:=hafter b hb';omega
def AxH (l:List Int) (xs:List Int):List Int:=xs.foldl El l
theorem AFc:∀ {xs l:List Int},Up l->Up (AxH l xs)
 | [],_,h=>h
 | x::xs,l,h=>AFc (xs:=xs) (AeM x h)
theorem AzL:∀(xs l:List Int) (x:Int),x∈AxH l xs↔x∈l∨x∈xs
 | [],l,x=>by simp[AxH]
 | y::xs,l,x=>by
  have:=AzL xs (El l y) x
  unfold AxH at *
  rw[List.foldl_cons,this,IQ,List.mem_cons]
  constructor
  ·rintro ((h | h) | h)
   ·exact .inl h
   ·exact .inr (.inl h)
   ·exact .inr (.inr h)
  ·rintro (h | h | h)
   ·exact .inl (.inl h)
   ·exact .inl (.inr h)
   ·exact .inr h
theorem AGC (zs:List Int) (x:Int):x∈compact zs↔x∈zs:=by
 have hget:∀i,i<zs.length->zs.toArray[i]! =zs[i]! :=fun i _=>by simp
 unfold compact compactUpTo
 simp only[List.mem_map,List.mem_filter,List.mem_range]
 constructor
 ·rintro ⟨i,⟨hi,_⟩,rfl⟩
  rw[hget i hi,getElem!_pos zs i hi]
  exact List.getElem_mem hi
 ·intro hx
  have key:∀n,(h:n<zs.length)->zs[n]=x->∃i,(i<zs.length/\keeps zs.toArray i=true)/\zs.toArray[i]! =x:=by
   intro n
   induction n with
   | zero=>intro h e;exact⟨0,⟨h,by simp[keeps]⟩,by rw[hget 0 h,getElem!_pos zs 0 h,e]⟩
   | succ n ih=>
    intro h e
    by_cases hk:zs[n]=x
    ·exact ih (by omega) hk
    ·refine⟨n+1,⟨h,?_⟩,by rw[hget _ h,getElem!_pos zs _ h,e]⟩
     unfold keeps
     rw[show n+1-1=n by omega,hget _ h,hget n (by omega),getElem!_pos zs _ h,getElem!_pos zs n (by omega),e]
     simp
     exact fun h=>hk h.symm
  obtain⟨n,hn,e⟩:=List.getElem_of_mem hx
  exact key n hn e
theorem AH2 (zs:List Int) (h:zs.Pairwise (·<=·)):Up (compact zs):=by
 have hget:∀i,i<zs.length->zs.toArray[i]! =zs[i]! :=fun i _=>by simp
 unfold compact compactUpTo Up
 rw[List.pairwise_map]
 have hr:((List.range zs.length).filter (keeps zs.toArray)).Pairwise (· < ·):=List.Pairwise.filter _ List.pairwise_lt_range
 refine hr.imp_of_mem ?_
 intro i j hi hj hij
 simp only[List.mem_filter,List.mem_range]at hi hj
 have hk:=hj.2
 unfold keeps at hk
 have h0:¬j=0:=by omega
 simp only[h0,false_or,decide_eq_true_eq]at hk
 rw[hget j hj.1,hget (j-1) (by omega),getElem!_pos zs j hj.1,getElem!_pos zs (j-1) (by omega)]at hk
 rw[hget i hi.1,hget j hj.1,getElem!_pos zs i hi.1,getElem!_pos zs j hj.1]
 rw[List.pairwise_iff_getElem]at h
 have h1:=h (j-1) j (by omega) hj.1 (by omega)
 have h2:zs[i]<=zs[j-1]:=by
  by_cases e:i=j-1
  ·simp[e]
  ·exact h i (j-1) hi.1 (by omega) (by omega)
 omega
def Azk (l:List Int):List Int:=l.mergeSort fun x y=>decide (x<=y)
theorem AyK (l:List Int):(Azk l).length=l.length:=by simp[Azk]
theorem AJa (l:List Int) (x:Int):x∈Azk l↔x∈l:=by simp[Azk]
theorem AHA (l:List Int):(Azk l).Pairwise (·<=·):=by
 have:=List.pairwise_mergeSort (le:=fun x y:Int=>decide (x<=y)) (fun a b c h1 h2=>by simp at *;omega) (fun a b=>by simp;omega) l
 exact this.imp fun h=>by simpa using h
theorem AGd (l:List Int):compact (Azk l)=AxH [] l:=by
 refine AKb (AH2 _ (AHA l)) (AFc List.Pairwise.nil) fun x=> ?_
 rw[AGC,AJa,AzL]
 simp
abbrev AIN:Prop:=∀l:List Int,l.length<=4194304->R [.arr 0] [.arr 1 0 l.length (ints l)] (.tup []) [.arr 1 0 l.length (ints (Azk l))]
abbrev CompactS:Prop:=∀l:List Int,l.length<=4194304->R [.arr 0] [.arr 1 0 l.length (ints l)] (.sl 0 1 (compact l).length (ints (compact l))) [.dead]
def Auy (w:World) (xs:List Eo):List Int:=(xs.filter (Avc w)).map (·.fin)
def Ata (w:World):List Int:=AxH [] (Auy w w.log)
theorem AHX {w:World} {xs:List Eo} {j:Nat} (h:j<xs.length):Auy w (xs.take (j+1))=Auy w (xs.take j)++(if Avc w xs[j]then [xs[j].fin]else []):=by
 unfold Auy
 rw[AaH h]
 by_cases hp:Avc w xs[j]=true<;>simp[hp]
theorem AIY {w:World} {xs:List Eo} {j:Nat} (h:xs.length<=j):Auy w (xs.take j)=Auy w xs:=by rw[List.take_of_length_le h]
theorem AE6 {w:World} {xs:List Eo} {j:Nat}:(Auy w (xs.take j)).length<=j:=by
 unfold Auy
 rw[List.length_map]
 exact Adw
theorem ANG (l xs:List Int) (y:Int):AxH l (xs++ [y])=El (AxH l xs) y:=by unfold AxH;rw[List.foldl_append];rfl
theorem ADg:∀(xs l:List Int),(AxH l xs).length<=l.length+xs.length
 | [],l=>by simp[AxH]
 | x::xs,l=>by
  have h1:=ADg xs (El l x)
  have h2:=Rm l x
  unfold AxH at *
  simp only[List.foldl_cons,List.length_cons]
  omega
abbrev Axh:Prop:=∀w:World,Af w<=4194304->R [arg (Bu w)] [] (.sl 0 1 (Ata w).length (ints (Ata w))) []
theorem AOI (hB:AGT (D 158)) (hP:Mf (D 159)):Axh (Body D ALZ):=by
 intro w hsz
 have hl:=Akl hsz
 have hres:Ata w=AxH [] (Auy w w.log):=rfl
 rw[hres]
 simp -implicitDefEqProofs
 refine Ag (fun k s=>∃j o2,j+k=w.log.length/\s=⟨[.undef,.ptr 0 0,.undef,.arr 3,I j,.undef,.undef],[.var ((Bu w).map (AO 1)),.free,o2,.arr 1 0 (AxH [] (Auy w (w.log.take j))).length (ints (AxH [] (Auy w (w.log.take j))))]⟩) ?_ (w.log.length) _ ⟨0,.free,by simp,by simp[Auy,AxH]⟩
 intro k s ⟨j,o2,hj,hs⟩
 subst hs
 by_cases hjn:j<w.log.length
 ·have hw:=Cv (j:=j) (by omega)
  have hst:=AHX (w:=w) hjn
  have hfl:=AE6 (w:=w) (xs:=w.log) (j:=j)
  have hpl:=ADg (Auy w (w.log.take j)) []
  simp only[List.length_nil,Nat.zero_add]at hpl
  simp -implicitDefEqProofs [hjn]
  refine Aa (hB w w.log[j] (AG4 hsz hjn)) ?_
  by_cases h1:Avc w w.log[j]=true
  ·rw[if_pos h1]at hst
   simp -implicitDefEqProofs [h1,hjn]
   refine Aa (hP (AxH [] (Auy w (w.log.take j))) w.log[j].fin (by omega)) ?_
   simp -implicitDefEqProofs
   exact⟨k-1,by omega,j+1,by omega,by simp[hw],by rw[hst,ANG],by rw[hst,ANG]⟩
  ·rw[if_neg h1,List.append_nil]at hst
   simp -implicitDefEqProofs [h1]
   exact⟨k-1,by omega,j+1,by omega,by simp[hw],by rw[hst],by rw[hst]⟩
 ·have hx:=AIY (w:=w) (xs:=w.log) (j:=j) (by omega)
  simp -implicitDefEqProofs [hjn,hx]
theorem AHi (hB:AGT (D 196)) (hS:AIN (D 197)) (hC:CompactS (D 198)):Axh (Body D Avt):=by
 intro w hsz
 have hl:=Akl hsz
 have hres:Ata w=compact (Azk (Auy w w.log)):=(AGd _).symm
 rw[hres]
 simp -implicitDefEqProofs
 refine Ag (fun k s=>∃j v4 o2 o3 o4,j+k=w.log.length/\s=⟨[.undef,.ptr 0 0,.undef,.arr 6,v4,.sl 1 8 w.log.length (w.log.flatMap Az),I w.log.length,I j,.undef,.undef],[.var ((Bu w).map (AO 1)),.free,o2,o3,o4,.free,.arr 1 0 (Auy w (w.log.take j)).length (ints (Auy w (w.log.take j)))]⟩) ?_ (w.log.length) _ ⟨0,.undef,.free,.free,.free,by simp,by simp[Auy]⟩
 intro k s ⟨j,v4,o2,o3,o4,hj,hs⟩
 subst hs
 by_cases hjn:j<w.log.length
 ·have hw:=Cv (j:=j) (by omega)
  have hst:=AHX (w:=w) hjn
  have hfl:=AE6 (w:=w) (xs:=w.log) (j:=j)
  have hbd:((Auy w (w.log.take j)).length+1)*8<=1099511627776:=by omega
  simp -implicitDefEqProofs [hjn]
  refine Aa (hB w w.log[j] (AG4 hsz hjn)) ?_
  by_cases h1:Avc w w.log[j]=true
  ·rw[if_pos h1]at hst
   simp -implicitDefEqProofs [h1,hjn,hbd]
   exact⟨k-1,by omega,j+1,by omega,by simp[hw],by rw[hst];simp,by rw[hst]⟩
  ·rw[if_neg h1,List.append_nil]at hst
   simp -implicitDefEqProofs [h1]
   exact⟨k-1,by omega,j+1,by omega,by simp[hw],by rw[hst],by rw[hst]⟩
 ·have hx:=AIY (w:=w) (xs:=w.log) (j:=j) (by omega)
  have hfl:=AE6 (w:=w) (xs:=w.log) (j:=w.log.length)
  rw[List.take_length]at hfl
  simp -implicitDefEqProofs [hjn,hx]
  refine Aa (hS _ (by omega)) ?_
  simp -implicitDefEqProofs [AyK]
  have hc:=hC (Azk (Auy w w.log)) (by rw[AyK];omega)
  rw[AyK]at hc
  refine Aa (hc) ?_
  simp -implicitDefEqProofs
def AGu (r:AX) (i:Nat):AX:=⟨r.version,r.stages,i,r.off⟩
def AvY (r:AX) (n:Int):Nat->Int
 | 0=>0
 | k+1=>max (AvY r n k) (countIn (AGu r k) n)
def Avb (r:AX) (n s:Int):Int:=if AP r=true/\NJ s 1 r.stages.length then AvY r n s.toNat else 0
abbrev AyY:Prop:=∀(r:AX) (n s:Int),r.stages.length<=4194304->R [arg (Dj r),I n,I s] [] (I (Avb r n s)) []
theorem AOL (hR:FX (D 145)) (hI:Vf (D 71)) (hCp:Je (D 66)) (hC:V3 (D 254)) (hM:Afz (D 215)):AyY (Body D AL0):=by
 intro r n st hl
 simp -implicitDefEqProofs
 refine Aa (hR r hl) ?_
 by_cases h1:AP r=true
 rotate_left
 ·have e:Avb r n st=0:=by unfold Avb;rw[if_neg (by simp[h1])]
  simp -implicitDefEqProofs [h1,e]
 simp -implicitDefEqProofs [h1]
 refine Aa (hI _ _ _) ?_
 by_cases h2:NJ st 1 r.stages.length
 rotate_left
 ·have e:Avb r n st=0:=by unfold Avb;rw[if_neg (fun h=>h2 h.2)]
  simp -implicitDefEqProofs [h2,e]
 obtain⟨m,rfl⟩:∃m:Nat,st=m:=⟨st.toNat,by have:=h2.1;omega⟩
 have hm:m<=r.stages.length:=by have:=h2.2;omega
 have e:Avb r n m=AvY r n m:=by unfold Avb;rw[if_pos ⟨h1,h2⟩];simp
 rw[e]
 simp -implicitDefEqProofs [h2]
 refine Aa (hCp r hl) ?_
 simp -implicitDefEqProofs
 refine Ag (fun k s=>∃j at0,j+k=m/\s=⟨[.undef,I n,I m,.undef,.undef,I (AvY r n j),.ptr 2 0,I j,.undef,.undef],[.var ((Dj r).map (AO 1)),.arr 1 0 r.stages.length (ints r.stages),.var [.sc (.int .i64 r.version),.arr 1,.sc (.int .i64 at0),.sc (.bool r.off)]]⟩) ?_ (m) _ ⟨0,r.pos,by simp,by simp[AvY]⟩
 intro k s ⟨j,at0,hj,hs⟩
 subst hs
 by_cases hjn:j<m
 ·have hw:=Cv (j:=j) (by omega)
  simp -implicitDefEqProofs [hjn]
  refine Aa (hC (AGu r j) n hl) ?_
  simp -implicitDefEqProofs
  refine Aa (hM _ _) ?_
  simp -implicitDefEqProofs
  exact⟨k-1,by omega,j+1,by omega,by simp[AvY],by simp[hw]⟩
 ·obtain rfl:j=m:=by omega
  simp -implicitDefEqProofs
theorem AGL (hR:FX (D 176)) (hI:Vf (D 114)) (hC:V3 (D 263)):AyY (Body D Awc):=by
 intro r n st hl
 simp -implicitDefEqProofs
 refine Aa (hR r hl) ?_
 by_cases h1:AP r=true
 rotate_left
 ·have e:Avb r n st=0:=by unfold Avb;rw[if_neg (by simp[h1])]
  simp -implicitDefEqProofs [h1,e]
 simp -implicitDefEqProofs [h1]
 refine Aa (hI _ _ _) ?_
 by_cases h2:NJ st 1 r.stages.length
 rotate_left
 ·have e:Avb r n st=0:=by unfold Avb;rw[if_neg (fun h=>h2 h.2)]
  simp -implicitDefEqProofs [h2,e]
 obtain⟨m,rfl⟩:∃m:Nat,st=m:=⟨st.toNat,by have:=h2.1;omega⟩
 have hm:m<=r.stages.length:=by have:=h2.2;omega
 have e:Avb r n m=AvY r n m:=by unfold Avb;rw[if_pos ⟨h1,h2⟩];simp
 rw[e]
 simp -implicitDefEqProofs [h2]
 refine Ag (fun k s=>∃j at0,j+k=m/\s=⟨[.undef,I n,.undef,.ptr 0 0,.undef,I (AvY r n j),.undef,.undef,I m,I j,.undef],[.var [.sc (.int .i64 r.version),.sl 1 1 r.stages.length (ints r.stages),.sc (.int .i64 at0),.sc (.bool r.off)]]⟩) ?_ (m) _ ⟨0,r.pos,by simp,by simp[AvY]⟩
 intro k s ⟨j,at0,hj,hs⟩
 subst hs
 by_cases hjn:j<m
 ·have hw:=Cv (j:=j) (by omega)
  simp -implicitDefEqProofs [hjn]
  refine Aa (hC (AGu r j) n hl) ?_
  by_cases hmx:AvY r n j<countIn (AGu r j) n
  ·have em:AvY r n (j+1)=countIn (AGu r j) n:=by simp only[AvY];omega
   simp -implicitDefEqProofs [hmx]
   exact⟨k-1,by omega,j+1,by omega,by rw[em],by simp[hw]⟩
  ·have em:AvY r n (j+1)=AvY r n j:=by simp only[AvY];omega
   simp -implicitDefEqProofs [hmx]
   exact⟨k-1,by omega,j+1,by omega,by rw[em],by simp[hw]⟩
 ·obtain rfl:j=m:=by omega
  simp -implicitDefEqProofs
def AJV (r:AX):AX:=⟨r.version,r.stages,r.pos,false⟩
def AyU (w:World):Bool:=decide (((Ata w).length:Int)<=Avb (AJV w.rollout) w.ends.length w.reached)
abbrev AxJ:Prop:=∀w:World,Af w<=4194304->R [arg (Bu w)] [] (B (AyU w)) []
theorem AOn (hCp:Je (D 66)) (hH:Axh (D 87)) (hM:AyY (D 219)):AxJ (Body D ALT):=by
 intro w hsz
 simp -implicitDefEqProofs
 refine Aa (hCp w.rollout (OU hsz)) ?_
 simp -implicitDefEqProofs
 refine Aa (hH w hsz) ?_
 simp -implicitDefEqProofs
 refine Aa (hM (AJV w.rollout) _ _ (OU hsz)) ?_
 simp -implicitDefEqProofs [AyU]
theorem AF7 (hH:Axh (D 131)) (hM:AyY (D 245)):AxJ (Body D AvH):=by
 intro w hsz
 simp -implicitDefEqProofs
 refine Aa (hH w hsz) ?_
 simp -implicitDefEqProofs
 refine Aa (hM (AJV w.rollout) _ _ (OU hsz)) ?_
 simp -implicitDefEqProofs [AyU]
end Go.Eng.T
namespace Go.Eng.T
set_option maxRecDepth 20000
set_option maxHeartbeats 2000000
abbrev Auq (D:Dn) (R:Rel):Prop:=∀(xs:List (List Int)) (g:Nat) (caps:List V) (p:List Int->Bool),xs.length<=maxLen->Atz caps->(∀(j:Nat) (h:j<xs.length),D g (.sl 1 1 xs[j].length (ints xs[j])::caps) [] (B (p xs[j])) [])->R [KZ xs,.fn g caps] [] (I (Rc p xs 0)) []
variable (D:Dn)
theorem ACy:Auq D (Body D ApB):=by
 intro xs g caps p hl hc hp
 unfold maxLen at hl
 simp -implicitDefEqProofs
 refine Ag (fun k s=>∃j,j+k=xs.length/\Rc p xs 0=Rc p (xs.drop j) j/\s=⟨[KZ xs,.fn g caps,.undef,.undef,I xs.length,I j,.undef,.undef],[]⟩) ?_ (xs.length) _ ⟨0,by simp,by simp,by simp⟩
 intro k s ⟨j,hj,hi,hs⟩
 subst hs
 by_cases hjn:j<xs.length
 ·have hw:=Cv (j:=j) (by omega)
  rw[AkE hjn]at hi
  simp -implicitDefEqProofs [hjn,hc.1,hc.2.1]
  refine Aa (hp j hjn) ?_
  by_cases he:p xs[j]=true
  ·rw[if_pos he]at hi
   simp -implicitDefEqProofs [he,hi]
  ·rw[if_neg he]at hi
   simp -implicitDefEqProofs [he]
   exact⟨k-1,by omega,j+1,by omega,by simpa using hi,by simp[hw]⟩
 ·rw[Am6 (by omega)]at hi
  simp -implicitDefEqProofs [hjn,hi]
abbrev AsQ (D:Dn) (R:Rel):Prop:=∀(xs:List (List Int)) (g:Nat) (caps:List V) (p:List Int->Bool),xs.length<=maxLen->Atz caps->(∀(j:Nat) (h:j<xs.length),D g (.sl 1 1 xs[j].length (ints xs[j])::caps) [] (B (p xs[j])) [])->R [KZ xs,.fn g caps] [] (B (xs.any p)) []
theorem AzK (hI:Auq D (D 405)):AsQ D (Body D AnX):=by
 intro xs g caps p hl hc hp
 simp -implicitDefEqProofs [hc.2.2]
 refine Aa (hI xs g caps p hl hc hp) ?_
 have e:decide (0<=Rc p xs 0)=xs.any p:=by rw[Bool.eq_iff_iff];simp only[decide_eq_true_eq];rw[AjA (by omega)]
 simp -implicitDefEqProofs [e]
def reach (s l:List Int):Bool:= !decide (AJ s l=0)
def FY (s:List Int) (ls:List (List Int)):Bool:=AQ s&&ls.all (reach s)
variable (R:Rel)
abbrev RP:Prop:=∀(s:List Int) (ls:List (List Int)),s.length<=4194304->GR ls<=4194304->R [.sl 1 1 s.length (ints s),KZ ls] [] (B (FY s ls)) []
theorem AhG (hB:FQ (D 168)) (hA:Dr (D 208)):RP (Body D LQ):=by
 intro sv ls hs hl
 have hll:=Ms (xs:=ls)
 simp -implicitDefEqProofs
 refine Ag (fun k s=>∃j,j+k=ls.length/\(ls.take j).all (reach sv)=true/\s=⟨[.sl 1 1 sv.length (ints sv),KZ ls,.undef,I j,.undef,.undef],[]⟩) ?_ (ls.length) _ ⟨0,by simp,by simp,by simp⟩
 intro k s ⟨j,hj,hp,hs⟩
 subst hs
 by_cases hjn:j<ls.length
 ·have hw:=Cv (j:=j) (by omega)
  have hst:=Qm (p:=reach sv) hjn
  rw[hp,Bool.true_and]at hst
  have hra:=Uz hjn
  simp -implicitDefEqProofs [hjn]
  refine Aa (hB sv _ hs (by omega)) ?_
  by_cases h1:AJ sv ls[j]=0
  ·have e:FY sv ls=false:=by unfold FY;rw[NP hjn (by simp[reach,h1])];simp
   simp -implicitDefEqProofs [h1,e,Aqs]
  ·simp -implicitDefEqProofs [h1,Aqs]
   exact⟨k-1,by omega,j+1,by omega,by simpa using hst.trans (show reach sv ls[j]=true by simp[reach,h1]),by simp[hw]⟩
 ·have e:FY sv ls=AQ sv:=by unfold FY;rw[<-VW (j:=j) (by omega),hp];simp
  simp -implicitDefEqProofs [hjn]
  refine Aa (hA sv (by unfold maxLen;omega)) ?_
  simp -implicitDefEqProofs [e]
abbrev Axn:Prop:=∀(s l:List Int),s.length<=4194304->l.length<=4194304->R [.sl 1 1 l.length (ints l),.rptr 1 [.sl 0 1 s.length (ints s)] 0] [] (B (!reach s l)) []
theorem AGA (hB:FQ (D 190)):Axn (Body D AuY):=by
 intro s l hs hl
 simp -implicitDefEqProofs
 refine Aa (hB s l hs hl) ?_
 simp -implicitDefEqProofs [reach,Aqs]
theorem AHr (hA:Dr (D 232)) (h1':Axn (D 268)) (hC:AsQ D (D 269)):RP (Body D Awf):=by
 intro s ls hs hl
 have hll:=Ms (xs:=ls)
 simp -implicitDefEqProofs
 refine Aa (hA s (by unfold maxLen;omega)) ?_
 by_cases h1:AQ s=true
 rotate_left
 ·simp -implicitDefEqProofs [h1,FY]
 simp -implicitDefEqProofs [h1]
 refine Aa (hC ls 268 _ (fun l=> !reach s l) (by unfold maxLen;omega) (AzG Api) (fun j hj=>h1' s ls[j] hs (by have:=Uz hj;omega))) ?_
 rw[AC2]
 generalize hq:ls.all (reach s)=q
 simp -implicitDefEqProofs [FY,h1,hq]
def Mj (k:Int):Bool:=decide (M6 k 1 2147483646)
abbrev Oe:Prop:=∀k:Int,R [I k] [] (B (Mj k)) []
theorem Aht (hI:Vf (D 71)):Oe (Body D Jd):=by
 intro k
 simp -implicitDefEqProofs
 refine Aa (hI _ _ _) ?_
 simp -implicitDefEqProofs [Mj]
theorem AHy (hI:Vf (D 114)):Oe (Body D AuX):=by
 intro k
 simp -implicitDefEqProofs
 refine Aa (hI _ _ _) ?_
 simp -implicitDefEqProofs [Mj]
def Ke (w:World):Bool:=FY w.server (Fh w)&&(FI w.tags&&Mj w.key)
def FM (w:World):Bool:=AP w.rollout&&(decide (w.rollout.version∈w.server)&&(decide (M6 w.least 1 100)&&decide (M6 w.percent 0 100)))
def Es (w:World):Bool:=decide (w.stage.length<=60)&&(decide (w.log.length<=60)&&(decide (M6 w.now 0 10000)&&(decide (M6 w.hurt 0 w.log.length)&&decide (M6 w.reached 0 w.rollout.stages.length))))
def Ap (w:World):Bool:=Ke w&&(decide (w.ends.length<=6)&&(w.ends.all Au&&(FM w&&Es w)))
abbrev U3:Prop:=∀w:World,Af w<=4194304->R [arg (Bu w)] [] (B (Ap w)) []
abbrev AyN:Prop:=∀e:Ai,Am e<=4194304->R [arg (Ah e)] [] (B (!Au e)) []
theorem AIa (hE:Ij (D 239)):AyN (Body D Avk):=by
 intro e h
 simp -implicitDefEqProofs
 refine Aa (hE e (AhO h)) ?_
 simp -implicitDefEqProofs
theorem AIC (hL:Q8 (D 123)) (hA:RP (D 234)) (hT:VF (D 235)) (hK:Oe (D 236)) (h1':AyN (D 237)) (hC:AsI D (D 238)) (hR:FX (D 176)) (hH:UQ (D 188)) (hI:Vf (D 114)):U3 (Body D AwR):=by
 intro w hsz
 have hs:=Od hsz
 have he:=FE hsz
 simp -implicitDefEqProofs
 refine Aa (hL w hsz) ?_
 simp -implicitDefEqProofs
 refine Aa (hA w.server (Fh w) hs.1 (Ahj hsz)) ?_
 by_cases a1:FY w.server (Fh w)=true
 rotate_left
 ·simp -implicitDefEqProofs [a1,Ap,Ke]
 simp -implicitDefEqProofs [a1]
 refine Aa (hT w.tags (by unfold maxLen;omega)) ?_
 by_cases a2:FI w.tags=true
 rotate_left
 ·simp -implicitDefEqProofs [a2,Ap,Ke]
 simp -implicitDefEqProofs [a2]
 refine Aa (hK w.key) ?_
 by_cases a3:Mj w.key=true
 rotate_left
 ·simp -implicitDefEqProofs [a3,Ap,Ke]
 by_cases e1:w.ends.length<=6
 rotate_left
 ·have e1':(6:Int)<w.ends.length:=by omega
  simp -implicitDefEqProofs [a3,e1',e1,Ap]
 have e1':¬(6:Int)<w.ends.length:=by omega
 simp -implicitDefEqProofs [a3,e1']
 refine Aa (hC w.ends 237 [] (fun e=> !Au e) (by unfold maxLen;omega) Api (fun j hj=>h1' w.ends[j] (AdH hsz hj))) ?_
 rw[AC2]
 generalize hq:w.ends.all Au=q
 by_cases e2:q=true
 rotate_left
 ·have e:Ap w=false:=by unfold Ap;rw[hq];simp[e2]
  simp -implicitDefEqProofs [e2,e]
 have hq':=hq.trans e2
 simp -implicitDefEqProofs [e2]
 refine Aa (hR w.rollout (OU hsz)) ?_
 by_cases b1:AP w.rollout=true
 rotate_left
 ·simp -implicitDefEqProofs [b1,Ap,FM]
 simp -implicitDefEqProofs [b1]
 refine Aa (hH w.server _ (by unfold maxLen;omega)) ?_
 by_cases b2:w.rollout.version∈w.server
 rotate_left
 ·simp -implicitDefEqProofs [b2,Ap,FM]
 simp -implicitDefEqProofs [b2]
 refine Aa (hI _ _ _) ?_
 by_cases b3:M6 w.least 1 100
 rotate_left
 ·simp -implicitDefEqProofs [b3,Ap,FM]
 simp -implicitDefEqProofs [b3]
 refine Aa (hI _ _ _) ?_
 by_cases b4:M6 w.percent 0 100
 rotate_left
 ·simp -implicitDefEqProofs [b4,Ap,FM]
 by_cases c1:w.stage.length<=60
 rotate_left
 ·have c1':¬(w.stage.length:Int)<=60:=by omega
  simp -implicitDefEqProofs [b4,c1',c1,Ap,Es]
 have c1':(w.stage.length:Int)<=60:=by omega
 by_cases c2:w.log.length<=60
 rotate_left
 ·have c2':¬(w.log.length:Int)<=60:=by omega
  simp -implicitDefEqProofs [b4,c1',c2',c2,Ap,Es]
 have c2':(w.log.length:Int)<=60:=by omega
 simp -implicitDefEqProofs [b4,c1',c2']
 refine Aa (hI _ _ _) ?_
 by_cases c3:M6 w.now 0 10000
 rotate_left
 ·simp -implicitDefEqProofs [b4,c1',c2',c3,Ap,Es]
 simp -implicitDefEqProofs [b4,c1',c2',c3]
 refine Aa (hI _ _ _) ?_
 by_cases c4:M6 w.hurt 0 w.log.length
 rotate_left
 ·simp -implicitDefEqProofs [b4,c1',c2',c3,c4,Ap,Es]
 simp -implicitDefEqProofs [b4,c1',c2',c3,c4]
 refine Aa (hI _ _ _) ?_
 have ec:Es w=decide (M6 w.reached 0 w.rollout.stages.length):=by unfold Es;simp[c1,c2,c3,c4]
 have ee:Ap w=Es w:=by unfold Ap Ke FM;rw[hq'];simp[a1,a2,a3,e1,b1,b2,b3,b4]
 simp -implicitDefEqProofs [ee,ec]
theorem Aij (hE:Ij (D 207)) (hV:Dr (D 208)) (hT:VF (D 209)) (hK:Oe (D 210)) (hR:FX (D 145)) (hH:UQ (D 166)) (hL:Q8 (D 95)) (hA:RP (D 211)) (hI:Vf (D 71)):U3 (Body D M8):=by
 intro w hsz
 have hs:=Od hsz
 have he:=FE hsz
 simp -implicitDefEqProofs
 refine Ag (fun k s=>∃j,j+k=w.ends.length/\(w.ends.take j).all Au=true/\s=⟨[.undef,.ptr 0 0,.undef,I j,.undef,.undef,.undef],[.var ((Bu w).map (AO 1)),.free]⟩) ?_ (w.ends.length) _ ⟨0,by simp,by simp,by simp⟩
 intro k s ⟨j,hj,hp,hs⟩
 subst hs
 by_cases hjn:j<w.ends.length
 ·have hw:=Cv (j:=j) (by omega)
  have hst:=Qm (p:=Au) hjn
  rw[hp,Bool.true_and]at hst
  simp -implicitDefEqProofs [hjn]
  refine Aa (hE w.ends[j] (AhO (AdH hsz hjn))) ?_
  by_cases h1:Au w.ends[j]=true
  ·simp -implicitDefEqProofs [h1]
   exact⟨k-1,by omega,j+1,by omega,by simpa using hst.trans h1,by simp[hw]⟩
  ·have e:Ap w=false:=by unfold Ap;rw[NP hjn (by simpa using h1)];simp
   simp -implicitDefEqProofs [h1,e]
 have hq':w.ends.all Au=true:=by rw[<-VW (j:=j) (by omega),hp]
 simp -implicitDefEqProofs [hjn]
 refine Aa (hV w.server (by unfold maxLen;omega)) ?_
 by_cases v1:AQ w.server=true
 rotate_left
 ·simp -implicitDefEqProofs [v1,Ap,Ke,FY]
 simp -implicitDefEqProofs [v1]
 refine Aa (hT w.tags (by unfold maxLen;omega)) ?_
 by_cases a2:FI w.tags=true
 rotate_left
 ·simp -implicitDefEqProofs [a2,Ap,Ke]
 simp -implicitDefEqProofs [a2]
 refine Aa (hK w.key) ?_
 by_cases a3:Mj w.key=true
 rotate_left
 ·simp -implicitDefEqProofs [a3,Ap,Ke]
 by_cases e1:w.ends.length<=6
 rotate_left
 ·have e1':(6:Int)<w.ends.length:=by omega
  simp -implicitDefEqProofs [a3,e1',e1,Ap]
 have e1':¬(6:Int)<w.ends.length:=by omega
 simp -implicitDefEqProofs [a3,e1']
 refine Aa (hR w.rollout (OU hsz)) ?_
 by_cases b1:AP w.rollout=true
 rotate_left
 ·simp -implicitDefEqProofs [b1,Ap,FM]
 simp -implicitDefEqProofs [b1]
 refine Aa (hH w.server _ (by unfold maxLen;omega)) ?_
 by_cases b2:w.rollout.version∈w.server
 rotate_left
 ·simp -implicitDefEqProofs [b2,Ap,FM]
 simp -implicitDefEqProofs [b2]
 refine Aa (hL w hsz) ?_
 simp -implicitDefEqProofs [b2]
 refine Aa (hA w.server (Fh w) hs.1 (Ahj hsz)) ?_
 by_cases a1:FY w.server (Fh w)=true
 rotate_left
 ·simp -implicitDefEqProofs [a1,Ap,Ke]
 simp -implicitDefEqProofs [a1]
 refine Aa (hI _ _ _) ?_
 by_cases b3:M6 w.least 1 100
 rotate_left
 ·simp -implicitDefEqProofs [b3,Ap,FM]
 simp -implicitDefEqProofs [b3]
 refine Aa (hI _ _ _) ?_
 by_cases b4:M6 w.percent 0 100
 rotate_left
 ·simp -implicitDefEqProofs [b4,Ap,FM]
 by_cases c1:w.stage.length<=60
 rotate_left
 ·have c1':¬(w.stage.length:Int)<=60:=by omega
  simp -implicitDefEqProofs [b4,c1',c1,Ap,Es]
 have c1':(w.stage.length:Int)<=60:=by omega
 by_cases c2:w.log.length<=60
 rotate_left
 ·have c2':¬(w.log.length:Int)<=60:=by omega
  simp -implicitDefEqProofs [b4,c1',c2',c2,Ap,Es]
 have c2':(w.log.length:Int)<=60:=by omega
 simp -implicitDefEqProofs [b4,c1',c2']
 refine Aa (hI _ _ _) ?_
 by_cases c3:M6 w.now 0 10000
 rotate_left
 ·simp -implicitDefEqProofs [b4,c1',c2',c3,Ap,Es]
 simp -implicitDefEqProofs [b4,c1',c2',c3]
 refine Aa (hI _ _ _) ?_
 by_cases c4:M6 w.hurt 0 w.log.length
 rotate_left
 ·simp -implicitDefEqProofs [b4,c1',c2',c3,c4,Ap,Es]
 simp -implicitDefEqProofs [b4,c1',c2',c3,c4]
 refine Aa (hI _ _ _) ?_
 have ec:Es w=decide (M6 w.reached 0 w.rollout.stages.length):=by unfold Es;simp[c1,c2,c3,c4]
 have ee:Ap w=Es w:=by unfold Ap Ke FM;rw[hq'];simp[a1,a2,a3,e1,b1,b2,b3,b4]
 simp -implicitDefEqProofs [ee,ec]
def Wl:World:=⟨[],[],0,[],⟨0,[],0,false⟩,0,0,[],[],0,0,0⟩
def Cw (s t:List Int) (es:List Ai) (r:AX):World:=⟨s,t,77,es,r,4,25,[],[],0,0,0⟩
def JV (s t:List Int) (es:List Ai) (r:AX):World×Bool:=if Ap (Cw s t es r)=true then(Cw s t es r,true)else(Wl,false)
abbrev RJ:Prop:=∀(s t:List Int) (es:List Ai) (r:AX),Af (Cw s t es r)<=4194304->R [.sl 1 1 s.length (ints s),.sl 1 1 t.length (ints t),.sl 1 4 es.length (es.flatMap Ah),arg (Dj r)] [] (.tup [.agg (Bu (JV s t es r).1),B (JV s t es r).2]) []
theorem Amh (s t:List Int) (es:List Ai) (r:AX):Af (Cw s t es r)=s.length+t.length+Cr Am es+Db r:=by
 simp[Af,Cw,Cr]
theorem AK5 (s t:List Int) (es:List Ai) (r:AX):Af (JV s t es r).1<=s.length+t.length+Cr Am es+Db r:=by
 unfold JV
 split
 ·rw[Amh];omega
 ·simp[Af,Wl,Cr,Db]
theorem Afw (hC:EF (D 22)) (hW:U3 (D 141)):RJ (Body D LP):=by
 intro s t es r hsz
 simp -implicitDefEqProofs
 refine Aa (hC (Cw s t es r) hsz) ?_
 simp -implicitDefEqProofs [Cw]
 refine Aa (hW (Cw s t es r) hsz) ?_
 generalize hq:Ap (Cw s t es r)=q
 by_cases h1:q=true
 ·have e:JV s t es r=(Cw s t es r,true):=by unfold JV;rw[if_pos (hq.trans h1)]
  simp -implicitDefEqProofs [h1,e,Cw]
 ·have e:JV s t es r=(Wl,false):=by unfold JV;rw[if_neg (by rw[hq];exact h1)]
  simp -implicitDefEqProofs [h1,e,Wl]
theorem AHb (hC:EF (D 38)) (hW:U3 (D 184)):RJ (Body D Av7):=by
 intro s t es r hsz
 simp -implicitDefEqProofs
 refine Aa (hC (Cw s t es r) hsz) ?_
 simp -implicitDefEqProofs [Cw]
 refine Aa (hW (Cw s t es r) hsz) ?_
 generalize hq:Ap (Cw s t es r)=q
 by_cases h1:q=true
 ·have e:JV s t es r=(Cw s t es r,true):=by unfold JV;rw[if_pos (hq.trans h1)]
  simp -implicitDefEqProofs [h1,e,Cw]
 ·have e:JV s t es r=(Wl,false):=by unfold JV;rw[if_neg (by rw[hq];exact h1)]
  simp -implicitDefEqProofs [h1,e,Wl]
end Go.Eng.T
