/- Own work: part 45 of the proof of FnTop. -/
import Derived.Test.YtdoefikagfghnabGreatP44
set_option linter.unusedSimpArgs false
set_option linter.unusedVariables false
namespace Go.Eng.T
set_option maxRecDepth 20000
theorem Aon {w:World} (h:Bo w≤4194304):G8 w.rollout≤4194304:=by unfold Bo at h;omega
theorem Ma {w:World} (h:Bo w≤4194304):w.server.length≤4194304∧w.tags.length≤4194304∧Er Af w.ends≤4194304∧Er BJ w.stage≤4194304∧Er Im w.log≤4194304:=by unfold Bo at h;omega
abbrev Y8 (R:Rel):Prop:=∀w:World,Bo w≤4194304→R [arg (FH w)] [] (.agg (FH w)) []
theorem Atf (D:Dn) (hE:QB (D Amn)) (hR:Tt (D Ajs)) (hD:V6 (D Adr)):Y8 (Body D Rk):=by
 intro w h
 have hl:=Auq h
 have he:=FU h
 have hs:=Acx h
 have hr:=Aon h
 have z:=Ma h
 have b1:w.server.length*8≤1099511627776:=by omega
 have b2:w.tags.length*8≤1099511627776:=by omega
 simp -implicitDefEqProofs [b1,b2]
 refine Ae (fun k s=>∃j o8 o9 o10 o11 o12,j+k=w.ends.length∧s=⟨[.undef,.ptr 0 0,.ptr 1 0,.ptr 2 0,.sc (.int .i64 j),.undef,.undef,.undef,.undef,.undef],[.var ((FH w).map (AX 1)),.var [.nil 1,.nil 1,.sc (.int .i64 0),.nil 4,.sc (.int .i64 0),.nil 1,.sc (.int .i64 0),.sc (.bool false),.sc (.int .i64 0),.sc (.int .i64 0),.nil 5,.nil 8,.sc (.int .i64 0),.sc (.int .i64 0),.sc (.int .i64 0)],.var [.arr 4,.arr 6,.sc (.int .i64 w.key),.arr 24,.sc (.int .i64 w.rollout.version),.sl 1 1 w.rollout.stages.length (ints w.rollout.stages),.sc (.int .i64 w.rollout.pos),.sc (.bool w.rollout.off),.sc (.int .i64 w.least),.sc (.int .i64 w.percent),.sl 1 5 w.stage.length (w.stage.flatMap A7),.sl 1 8 w.log.length (w.log.flatMap AQ),.sc (.int .i64 w.now),.sc (.int .i64 w.hurt),.sc (.int .i64 w.reached)],.dead,.arr 1 0 w.server.length (ints w.server),.dead,.arr 1 0 w.tags.length (ints w.tags),.free,o8,o9,o10,o11,o12,.free,.free,.free,.free,.free,.free,.free,.free,.free,.free,.free,.arr 4 0 j ((w.ends.take j).flatMap Ap),.free,.free]⟩) ?_ w.ends.length _ ⟨0,by simp⟩
 intro k s ⟨j,o8,o9,o10,o11,o12,hj,hs'⟩
 subst hs'
 by_cases hjn:j<w.ends.length
 ·have hw:IntKind.i64.wrap ((j:Int)+1)=(j+1:Nat):=by rw[Ac (by omega) (by omega)];simp
  have hsz:=size_at (f:=Af) hjn
  have h3:(j+1)*80≤1099511627776:=by omega
  have hst:=Wp (f:=Ap) hjn
  simp -implicitDefEqProofs [hjn]
  refine Aa (hE w.ends[j] (by first | omega | (simp only[Im]at hsz;omega))) ?_
  simp -implicitDefEqProofs [hjn,h3]
  exact⟨k-1,by omega,j+1,by omega,by simp[hw],rfl,by rw[←hst];rfl⟩
 obtain rfl:j=w.ends.length:=by omega
 simp -implicitDefEqProofs
 refine Aa (hR w.rollout hr) ?_
 simp -implicitDefEqProofs
 refine Ae (fun k s=>∃j o8 o9 o10 o11 o12 o15 o16 o17 o18,j+k=w.stage.length∧s=⟨[.undef,.ptr 0 0,.ptr 1 0,.ptr 2 0,.undef,.sc (.int .i64 j),.undef,.undef,.undef,.undef],[.var ((FH w).map (AX 1)),.var [.nil 1,.nil 1,.sc (.int .i64 0),.nil 4,.sc (.int .i64 0),.nil 1,.sc (.int .i64 0),.sc (.bool false),.sc (.int .i64 0),.sc (.int .i64 0),.nil 5,.nil 8,.sc (.int .i64 0),.sc (.int .i64 0),.sc (.int .i64 0)],.var [.arr 4,.arr 6,.sc (.int .i64 w.key),.arr 24,.sc (.int .i64 w.rollout.version),.arr 13,.sc (.int .i64 w.rollout.pos),.sc (.bool w.rollout.off),.sc (.int .i64 w.least),.sc (.int .i64 w.percent),.arr 25,.sl 1 8 w.log.length (w.log.flatMap AQ),.sc (.int .i64 w.now),.sc (.int .i64 w.hurt),.sc (.int .i64 w.reached)],.dead,.arr 1 0 w.server.length (ints w.server),.dead,.arr 1 0 w.tags.length (ints w.tags),.free,o8,o9,o10,o11,o12,.arr 1 0 w.rollout.stages.length (ints w.rollout.stages),.free,o15,o16,o17,o18,.free,.free,.free,.free,.free,.arr 4 0 w.ends.length (w.ends.flatMap Ap),.arr 5 0 j ((w.stage.take j).flatMap A7),.free]⟩) ?_ w.stage.length _ ⟨0,by simp⟩
 intro k s ⟨j,o8,o9,o10,o11,o12,o15,o16,o17,o18,hj,hs'⟩
 subst hs'
 by_cases hjn:j<w.stage.length
 ·have hw:IntKind.i64.wrap ((j:Int)+1)=(j+1:Nat):=by rw[Ac (by omega) (by omega)];simp
  have hsz:=size_at (f:=BJ) hjn
  have h3:(j+1)*72≤1099511627776:=by omega
  have hst:=Wp (f:=A7) hjn
  simp -implicitDefEqProofs [hjn]
  refine Aa (hD w.stage[j] (by first | omega | (simp only[Im]at hsz;omega))) ?_
  simp -implicitDefEqProofs [hjn,h3]
  exact⟨k-1,by omega,j+1,by omega,by simp[hw],rfl,by rw[←hst];rfl⟩
 obtain rfl:j=w.stage.length:=by omega
 simp -implicitDefEqProofs
 refine Ae (fun k s=>∃j o8 o9 o10 o11 o12 o15 o16 o17 o18 o20 o21 o22 o23,j+k=w.log.length∧s=⟨[.undef,.ptr 0 0,.ptr 1 0,.ptr 2 0,.undef,.undef,.sc (.int .i64 j),.undef,.undef,.undef],[.var ((FH w).map (AX 1)),.var [.nil 1,.nil 1,.sc (.int .i64 0),.nil 4,.sc (.int .i64 0),.nil 1,.sc (.int .i64 0),.sc (.bool false),.sc (.int .i64 0),.sc (.int .i64 0),.nil 5,.nil 8,.sc (.int .i64 0),.sc (.int .i64 0),.sc (.int .i64 0)],.var [.arr 4,.arr 6,.sc (.int .i64 w.key),.arr 24,.sc (.int .i64 w.rollout.version),.arr 13,.sc (.int .i64 w.rollout.pos),.sc (.bool w.rollout.off),.sc (.int .i64 w.least),.sc (.int .i64 w.percent),.arr 25,.arr 26,.sc (.int .i64 w.now),.sc (.int .i64 w.hurt),.sc (.int .i64 w.reached)],.dead,.arr 1 0 w.server.length (ints w.server),.dead,.arr 1 0 w.tags.length (ints w.tags),.free,o8,o9,o10,o11,o12,.arr 1 0 w.rollout.stages.length (ints w.rollout.stages),.free,o15,o16,o17,o18,.free,o20,o21,o22,o23,.arr 4 0 w.ends.length (w.ends.flatMap Ap),.arr 5 0 w.stage.length (w.stage.flatMap A7),.arr 8 0 j ((w.log.take j).flatMap AQ)]⟩) ?_ w.log.length _ ⟨0,by simp⟩
 intro k s ⟨j,o8,o9,o10,o11,o12,o15,o16,o17,o18,o20,o21,o22,o23,hj,hs'⟩
 subst hs'
 by_cases hjn:j<w.log.length
 ·have hw:IntKind.i64.wrap ((j:Int)+1)=(j+1:Nat):=by rw[Ac (by omega) (by omega)];simp
  have hsz:=size_at (f:=Im) hjn
  have h3:(j+1)*96≤1099511627776:=by omega
  have hst:=Wp (f:=AQ) hjn
  simp -implicitDefEqProofs [hjn]
  refine Aa (hD w.log[j].dialed (by first | omega | (simp only[Im]at hsz;omega))) ?_
  simp -implicitDefEqProofs [hjn,h3]
  exact⟨k-1,by omega,j+1,by omega,by simp[hw],rfl,by rw[←hst];rfl⟩
 obtain rfl:j=w.log.length:=by omega
 simp -implicitDefEqProofs
theorem AMw (D:Dn) (hE:QB (D Ap9)) (hR:Tt (D ArP)) (hD:V6 (D Auv)):Y8 (Body D AGY):=by
 intro w h
 have hl:=Auq h
 have he:=FU h
 have hs:=Acx h
 have hr:=Aon h
 have z:=Ma h
 have b1:w.server.length*8≤1099511627776:=by omega
 have b2:w.tags.length*8≤1099511627776:=by omega
 simp -implicitDefEqProofs [b1,b2]
 refine Aa (hR w.rollout hr) ?_
 simp -implicitDefEqProofs
 refine Ae (fun k s=>∃j o8 o9 o10 o11 o12 o13,j+k=w.ends.length∧s=⟨[.undef,.ptr 0 0,.ptr 1 0,.ptr 2 0,.undef,.undef,.undef,.sl 1 4 w.ends.length (w.ends.flatMap Ap),.sc (.int .i64 w.ends.length),.sc (.int .i64 j),.undef,.undef,.undef,.undef,.undef,.undef,.undef,.undef,.undef],[.var ((FH w).map (AX 1)),.var [.nil 1,.nil 1,.sc (.int .i64 0),.nil 4,.sc (.int .i64 0),.nil 1,.sc (.int .i64 0),.sc (.bool false),.sc (.int .i64 0),.sc (.int .i64 0),.nil 5,.nil 8,.sc (.int .i64 0),.sc (.int .i64 0),.sc (.int .i64 0)],.var [.arr 4,.arr 6,.sc (.int .i64 w.key),.arr 24,.sc (.int .i64 w.rollout.version),.arr 7,.sc (.int .i64 w.rollout.pos),.sc (.bool w.rollout.off),.sc (.int .i64 w.least),.sc (.int .i64 w.percent),.arr 25,.arr 26,.sc (.int .i64 w.now),.sc (.int .i64 w.hurt),.sc (.int .i64 w.reached)],.dead,.arr 1 0 w.server.length (ints w.server),.dead,.arr 1 0 w.tags.length (ints w.tags),.arr 1 0 w.rollout.stages.length (ints w.rollout.stages),o8,o9,o10,o11,o12,o13,.free,.free,.free,.free,.free,.free,.free,.free,.free,.free,.arr 4 0 j ((w.ends.take j).flatMap Ap),.arr 5 0 0 [],.arr 8 0 0 []]⟩) ?_ w.ends.length _ ⟨0,by simp⟩
 intro k s ⟨j,o8,o9,o10,o11,o12,o13,hj,hs'⟩
 subst hs'
 by_cases hjn:j<w.ends.length
 ·have hw:IntKind.i64.wrap ((j:Int)+1)=(j+1:Nat):=by rw[Ac (by omega) (by omega)];simp
  have hsz:=size_at (f:=Af) hjn
  have h3:(j+1)*80≤1099511627776:=by omega
  have hst:=Wp (f:=Ap) hjn
  simp -implicitDefEqProofs [hjn]
  refine Aa (hE w.ends[j] (by first | omega | (simp only[Im]at hsz;omega))) ?_
  simp -implicitDefEqProofs [hjn,h3]
  exact⟨k-1,by omega,j+1,by omega,by simp[hw],rfl,by rw[←hst];rfl⟩
 obtain rfl:j=w.ends.length:=by omega
 simp -implicitDefEqProofs
 refine Ae (fun k s=>∃j o8 o9 o10 o11 o12 o13 o14 o15 o16 o17 o18,j+k=w.stage.length∧s=⟨[.undef,.ptr 0 0,.ptr 1 0,.ptr 2 0,.undef,.undef,.undef,.undef,.undef,.undef,.undef,.sl 1 5 w.stage.length (w.stage.flatMap A7),.sc (.int .i64 w.stage.length),.sc (.int .i64 j),.undef,.undef,.undef,.undef,.undef],[.var ((FH w).map (AX 1)),.var [.nil 1,.nil 1,.sc (.int .i64 0),.nil 4,.sc (.int .i64 0),.nil 1,.sc (.int .i64 0),.sc (.bool false),.sc (.int .i64 0),.sc (.int .i64 0),.nil 5,.nil 8,.sc (.int .i64 0),.sc (.int .i64 0),.sc (.int .i64 0)],.var [.arr 4,.arr 6,.sc (.int .i64 w.key),.arr 24,.sc (.int .i64 w.rollout.version),.arr 7,.sc (.int .i64 w.rollout.pos),.sc (.bool w.rollout.off),.sc (.int .i64 w.least),.sc (.int .i64 w.percent),.arr 25,.arr 26,.sc (.int .i64 w.now),.sc (.int .i64 w.hurt),.sc (.int .i64 w.reached)],.dead,.arr 1 0 w.server.length (ints w.server),.dead,.arr 1 0 w.tags.length (ints w.tags),.arr 1 0 w.rollout.stages.length (ints w.rollout.stages),o8,o9,o10,o11,o12,o13,o14,o15,o16,o17,o18,.free,.free,.free,.free,.free,.arr 4 0 w.ends.length (w.ends.flatMap Ap),.arr 5 0 j ((w.stage.take j).flatMap A7),.arr 8 0 0 []]⟩) ?_ w.stage.length _ ⟨0,by simp⟩
 intro k s ⟨j,o8,o9,o10,o11,o12,o13,o14,o15,o16,o17,o18,hj,hs'⟩
 subst hs'
 by_cases hjn:j<w.stage.length
 ·have hw:IntKind.i64.wrap ((j:Int)+1)=(j+1:Nat):=by rw[Ac (by omega) (by omega)];simp
  have hsz:=size_at (f:=BJ) hjn
  have h3:(j+1)*72≤1099511627776:=by omega
  have hst:=Wp (f:=A7) hjn
  simp -implicitDefEqProofs [hjn]
  refine Aa (hD w.stage[j] (by first | omega | (simp only[Im]at hsz;omega))) ?_
  simp -implicitDefEqProofs [hjn,h3]
  exact⟨k-1,by omega,j+1,by omega,by simp[hw],rfl,by rw[←hst];rfl⟩
 obtain rfl:j=w.stage.length:=by omega
 simp -implicitDefEqProofs
 refine Ae (fun k s=>∃j o8 o9 o10 o11 o12 o13 o14 o15 o16 o17 o18 o19 o20 o21 o22 o23,j+k=w.log.length∧s=⟨[.undef,.undef,.ptr 1 0,.ptr 2 0,.undef,.undef,.undef,.undef,.undef,.undef,.undef,.undef,.undef,.undef,.undef,.sl 1 8 w.log.length (w.log.flatMap AQ),.sc (.int .i64 w.log.length),.sc (.int .i64 j),.undef],[.var ((FH w).map (AX 1)),.var [.nil 1,.nil 1,.sc (.int .i64 0),.nil 4,.sc (.int .i64 0),.nil 1,.sc (.int .i64 0),.sc (.bool false),.sc (.int .i64 0),.sc (.int .i64 0),.nil 5,.nil 8,.sc (.int .i64 0),.sc (.int .i64 0),.sc (.int .i64 0)],.var [.arr 4,.arr 6,.sc (.int .i64 w.key),.arr 24,.sc (.int .i64 w.rollout.version),.arr 7,.sc (.int .i64 w.rollout.pos),.sc (.bool w.rollout.off),.sc (.int .i64 w.least),.sc (.int .i64 w.percent),.arr 25,.arr 26,.sc (.int .i64 w.now),.sc (.int .i64 w.hurt),.sc (.int .i64 w.reached)],.dead,.arr 1 0 w.server.length (ints w.server),.dead,.arr 1 0 w.tags.length (ints w.tags),.arr 1 0 w.rollout.stages.length (ints w.rollout.stages),o8,o9,o10,o11,o12,o13,o14,o15,o16,o17,o18,o19,o20,o21,o22,o23,.arr 4 0 w.ends.length (w.ends.flatMap Ap),.arr 5 0 w.stage.length (w.stage.flatMap A7),.arr 8 0 j ((w.log.take j).flatMap AQ)]⟩) ?_ w.log.length _ ⟨0,by simp⟩
 intro k s ⟨j,o8,o9,o10,o11,o12,o13,o14,o15,o16,o17,o18,o19,o20,o21,o22,o23,hj,hs'⟩
 subst hs'
 by_cases hjn:j<w.log.length
 ·have hw:IntKind.i64.wrap ((j:Int)+1)=(j+1:Nat):=by rw[Ac (by omega) (by omega)];simp
  have hsz:=size_at (f:=Im) hjn
  have h3:(j+1)*96≤1099511627776:=by omega
  have hst:=Wp (f:=AQ) hjn
  simp -implicitDefEqProofs [hjn]
  refine Aa (hD w.log[j].dialed (by first | omega | (simp only[Im]at hsz;omega))) ?_
  simp -implicitDefEqProofs [hjn,h3]
  exact⟨k-1,by omega,j+1,by omega,by simp[hw],rfl,by rw[←hst];rfl⟩
 obtain rfl:j=w.log.length:=by omega
 simp -implicitDefEqProofs
end Go.Eng.T
namespace Go.Eng.T
set_option maxRecDepth 20000
abbrev Qt (a b c:Int):Prop:=b≤a∧a≤c
def JU (xs:List Int) (j:Nat):Bool:=(List.range j).all fun i=>decide (Qt (xs.getD i 0) 1 100)&&(decide (i=0)||decide (xs.getD (i-1) 0<xs.getD i 0))
theorem Vl (xs:List Int) (j:Nat):JU xs (j+1)=(JU xs j&&(decide (Qt (xs.getD j 0) 1 100)&&(decide (j=0)||decide (xs.getD (j-1) 0<xs.getD j 0)))):=by
 unfold JU
 rw[List.range_succ,List.all_append]
 simp
theorem Y0 {xs:List Int} {j:Nat} (h:j<xs.length) (hn:JU xs (j+1)=false):JU xs xs.length=false:=by
 have:∀n,JU xs (j+1+n)=false:=by
  intro n
  induction n with
  | zero=>exact hn
  | succ n ih=>rw[show j+1+(n+1)=(j+1+n)+1 by omega,Vl,ih];rfl
 have:=this (xs.length-(j+1))
 rwa [show j+1+(xs.length-(j+1))=xs.length by omega]at this
def Br (r:EP):Bool:=
 JU r.stages r.stages.length&&(decide (Qt r.version 1 9)&&decide (Qt r.stages.length 1 5)&&decide (r.stages.getD (r.stages.length-1) 0=100)&&decide (Qt r.pos 0 (r.stages.length-1)))
abbrev Iw (R:Rel):Prop:=∀r:EP,r.stages.length≤4194304→R [arg (Iq r)] [] (B (Br r)) []
theorem getD_at {xs:List Int} {j:Nat} (h:j<xs.length):xs.getD j 0=xs[j]:=by simp[h]
theorem Ak5 (D:Dn) (hI:Tg (D CF)):Iw (Body D NT):=by
 intro r hl
 simp -implicitDefEqProofs
 refine Ae (fun k s=>∃j,j+k=r.stages.length∧JU r.stages j=true∧s=⟨[.undef,.ptr 0 0,.undef,.sc (.int .i64 j),.undef,.undef],[.var ((Iq r).map (AX 1))]⟩) ?_ r.stages.length _ ⟨0,by simp,by simp[JU],by simp⟩
 intro k s ⟨j,hj,hr,hs⟩
 subst hs
 by_cases hjn:j<r.stages.length
 ·have hw:IntKind.i64.wrap ((j:Int)+1)=(j+1:Nat):=by rw[Ac (by omega) (by omega)];simp
  have hst:=Vl r.stages j
  rw[hr,Bool.true_and,getD_at hjn]at hst
  simp -implicitDefEqProofs [hjn]
  refine Aa (hI _ _ _) ?_
  by_cases h1:Qt r.stages[j] 1 100
  rotate_left
  ·have e:Br r=false:=by unfold Br;rw[Y0 hjn (by rw[hst];simp[h1])];rfl
   simp -implicitDefEqProofs [h1,e]
  by_cases h0:j=0
  ·subst h0
   simp -implicitDefEqProofs [h1]
   exact⟨k-1,by omega,1,by omega,by rw[hst];simp[h1],by simpa using hw⟩
  ·have hp:((j-1:Nat):Int)=(j:Int)-1:=by omega
   have hw2:IntKind.i64.wrap ((j:Int)-1)=((j-1:Nat):Int):=by rw[Ac (by omega) (by omega)];omega
   have h2:(0:Int)<j:=by omega
   have h2':0<j:=by omega
   have h3:j-1<r.stages.length:=by omega
   rw[getD_at h3]at hst
   by_cases h4:r.stages[j-1]<r.stages[j]
   ·have h4':¬r.stages[j]≤r.stages[j-1]:=by omega
    simp -implicitDefEqProofs [h1,h2,h2',hw2,h3,hjn,h4']
    exact⟨k-1,by omega,j+1,by omega,by rw[hst];simp[h1,h0,h4],by simp[hw]⟩
   ·have e:Br r=false:=by unfold Br;rw[Y0 hjn (by rw[hst];simp[h1,h0,h4])];rfl
    have h4':r.stages[j]≤r.stages[j-1]:=by omega
    simp -implicitDefEqProofs [h1,h2,h2',hw2,h3,hjn,h4',e]
 ·obtain rfl:j=r.stages.length:=by omega
  simp -implicitDefEqProofs
  refine Aa (hI _ _ _) ?_
  by_cases h1:Qt r.version 1 9
  rotate_left
  ·simp -implicitDefEqProofs [h1,Br]
  simp -implicitDefEqProofs [h1]
  refine Aa (hI _ _ _) ?_
  by_cases h2:Qt r.stages.length 1 5
  rotate_left
  ·simp -implicitDefEqProofs [h2,Br]
  have hw2:IntKind.i64.wrap ((r.stages.length:Int)-1)=((r.stages.length-1:Nat):Int):=by rw[Ac (by omega) (by omega)];omega
  have h3:r.stages.length-1<r.stages.length:=by omega
  have h5:0<r.stages.length:=by omega
  by_cases h4:r.stages[r.stages.length-1]=100
  rotate_left
  ·simp -implicitDefEqProofs [h2,hw2,h3,h4,h5,Br]
  simp -implicitDefEqProofs [h2,hw2,h3,h4,h5]
  refine Aa (hI _ _ _) ?_
  have hc:((r.stages.length-1:Nat):Int)=(r.stages.length:Int)-1:=by omega
  have e:Br r=decide (Qt r.pos 0 ((r.stages.length-1:Nat):Int)):=by unfold Br;rw[hr,getD_at h3,h4,hc];simp[h1,h2]
  simp -implicitDefEqProofs [e]
theorem Alv (D:Dn) (hI:Tg (D Bz)):Iw (Body D Og):=by
 intro r hl
 simp -implicitDefEqProofs
 refine Ae (fun k s=>∃j v3 v4,j+k=r.stages.length∧JU r.stages j=true∧s=⟨[.undef,.ptr 0 0,.undef,v3,v4,.sl 1 1 r.stages.length (ints r.stages),.sc (.int .i64 r.stages.length),.sc (.int .i64 j),.undef,.undef],[.var ((Iq r).map (AX 1))]⟩) ?_ r.stages.length _ ⟨0,.undef,.undef,by simp,by simp[JU],by simp⟩
 intro k s ⟨j,v3,v4,hj,hr,hs⟩
 subst hs
 by_cases hjn:j<r.stages.length
 ·have hw:IntKind.i64.wrap ((j:Int)+1)=(j+1:Nat):=by rw[Ac (by omega) (by omega)];simp
  have hst:=Vl r.stages j
  rw[hr,Bool.true_and,getD_at hjn]at hst
  simp -implicitDefEqProofs [hjn]
  refine Aa (hI _ _ _) ?_
  by_cases h1:Qt r.stages[j] 1 100
  rotate_left
  ·have e:Br r=false:=by unfold Br;rw[Y0 hjn (by rw[hst];simp[h1])];rfl
   simp -implicitDefEqProofs [h1,e]
  by_cases h0:j=0
  ·subst h0
   simp -implicitDefEqProofs [h1]
   exact⟨k-1,by omega,1,by omega,by rw[hst];simp[h1],by simpa using hw⟩
  ·have hp:((j-1:Nat):Int)=(j:Int)-1:=by omega
   have hw2:IntKind.i64.wrap ((j:Int)-1)=((j-1:Nat):Int):=by rw[Ac (by omega) (by omega)];omega
   have h2:(0:Int)<j:=by omega
   have h2':0<j:=by omega
   have h3:j-1<r.stages.length:=by omega
   rw[getD_at h3]at hst
   by_cases h4:r.stages[j-1]<r.stages[j]
   ·have h4':¬r.stages[j]≤r.stages[j-1]:=by omega
    simp -implicitDefEqProofs [h1,h2,h2',hw2,h3,hjn,h4']
    exact⟨k-1,by omega,j+1,by omega,by rw[hst];simp[h1,h0,h4],by simp[hw]⟩
   ·have e:Br r=false:=by unfold Br;rw[Y0 hjn (by rw[hst];simp[h1,h0,h4])];rfl
    have h4':r.stages[j]≤r.stages[j-1]:=by omega
    simp -implicitDefEqProofs [h1,h2,h2',hw2,h3,hjn,h4',e]
 ·obtain rfl:j=r.stages.length:=by omega
  simp -implicitDefEqProofs
  refine Aa (hI _ _ _) ?_
  by_cases h1:Qt r.version 1 9
  rotate_left
  ·simp -implicitDefEqProofs [h1,Br]
  simp -implicitDefEqProofs [h1]
  refine Aa (hI _ _ _) ?_
  by_cases h2:Qt r.stages.length 1 5
  rotate_left
  ·simp -implicitDefEqProofs [h2,Br]
  have hw2:IntKind.i64.wrap ((r.stages.length:Int)-1)=((r.stages.length-1:Nat):Int):=by rw[Ac (by omega) (by omega)];omega
  have h3:r.stages.length-1<r.stages.length:=by omega
  have h5:0<r.stages.length:=by omega
  by_cases h4:r.stages[r.stages.length-1]=100
  rotate_left
  ·simp -implicitDefEqProofs [h2,hw2,h3,h4,h5,Br]
  simp -implicitDefEqProofs [h2,hw2,h3,h4,h5]
  refine Aa (hI _ _ _) ?_
  have hc:((r.stages.length-1:Nat):Int)=(r.stages.length:Int)-1:=by omega
  have e:Br r=decide (Qt r.pos 0 ((r.stages.length-1:Nat):Int)):=by unfold Br;rw[hr,getD_at h3,h4,hc];simp[h1,h2]
  simp -implicitDefEqProofs [e]
def Uf (a b:Int):Int:=if Qt a 0 1000000000000∧Qt b 1 1000000000000 then(a+b-1).tdiv b else 0
abbrev AaF (R:Rel):Prop:=∀a b:Int,R [I a,I b] [] (I (Uf a b)) []
theorem AwC {a b:Int} (h1:0≤a) (h2:a≤4000000000000) (h3:1≤b):IntKind.i64.wrap (a.tdiv b)=a.tdiv b:=by
 have a1:0≤a.tdiv b:=Int.tdiv_nonneg h1 (by omega)
 have a2:a.tdiv b≤a:=Int.tdiv_le_self _ h1
 exact Ac (by omega) (by omega)
theorem ApW (D:Dn) (hI:Tg (D Bz)):AaF (Body D Rz):=by
 intro a b
 simp -implicitDefEqProofs
 refine Aa (hI _ _ _) ?_
 by_cases h1:Qt a 0 1000000000000
 rotate_left
 ·simp -implicitDefEqProofs [h1,Uf]
 simp -implicitDefEqProofs [h1]
 refine Aa (hI _ _ _) ?_
 by_cases h2:Qt b 1 1000000000000
 rotate_left
 ·simp -implicitDefEqProofs [h2,Uf]
 have w1:IntKind.i64.wrap (a+b)=a+b:=Ac (by omega) (by omega)
 have w2:IntKind.i64.wrap (a+b-1)=a+b-1:=Ac (by omega) (by omega)
 have w3:=AwC (a:=a+b-1) (b:=b) (by omega) (by omega) (by omega)
 have h0:¬b=0:=by omega
 have e:Uf a b=(a+b-1).tdiv b:=by unfold Uf;rw[if_pos ⟨h1,h2⟩]
 simp -implicitDefEqProofs [h2,w1,w2,w3,h0,e]
end Go.Eng.T
namespace Go.Eng.T
set_option maxRecDepth 20000
theorem Ayz {xs:List Int} {n:Nat} (h:JU xs n=true) {i:Nat} (hi:i<n):Qt (xs.getD i 0) 1 100:=by
 unfold JU at h
 have:=List.all_eq_true.1 h i (List.mem_range.2 hi)
 simp at this
 exact⟨this.1.1,this.1.2⟩
theorem Ayq {r:EP} (h:Br r=true):0≤r.pos∧r.pos<r.stages.length∧r.stages.length≤5∧Qt (r.stages.getD r.pos.toNat 0) 1 100:=by
 unfold Br at h
 simp only[Bool.and_eq_true,decide_eq_true_eq]at h
 obtain⟨h1,⟨⟨h2,h3⟩,h4⟩,h5⟩:=h
 refine⟨h5.1,by omega,by omega,Ayz h1 (by omega)⟩
def countIn (r:EP) (n:Int):Int:=if Br r=true∧r.off=false∧Qt n 0 10000 then Uf (n*r.stages.getD r.pos.toNat 0) 100 else 0
abbrev Aap (R:Rel):Prop:=∀(r:EP) (n:Int),r.stages.length≤4194304→R [arg (Iq r),I n] [] (I (countIn r n)) []
theorem AAh {n x:Int} (h1:Qt n 0 10000) (h2:Qt x 1 100):IntKind.i64.wrap (n*x)=n*x:=by
 have a1:0≤n*x:=Int.mul_nonneg h1.1 (by omega)
 have a2:n*x≤10000*100:=Int.mul_le_mul h1.2 h2.2 (by omega) (by omega)
 exact Ac (by omega) (by omega)
theorem Aqx (D:Dn) (hR:Iw (D Ac6)) (hI:Tg (D Bz)) (hC:AaF (D AjL)):Aap (Body D RG):=by
 intro r n hl
 simp -implicitDefEqProofs
 refine Aa (hR r hl) ?_
 by_cases h1:Br r=true
 rotate_left
 ·simp -implicitDefEqProofs [h1,countIn]
 by_cases h2:r.off=true
 ·simp -implicitDefEqProofs [h1,h2,countIn]
 simp -implicitDefEqProofs [h1,h2]
 refine Aa (hI _ _ _) ?_
 by_cases h3:Qt n 0 10000
 rotate_left
 ·simp -implicitDefEqProofs [h3,countIn]
 obtain⟨p1,p2,p3,p4⟩:=Ayq h1
 obtain⟨q,hq⟩:∃q:Nat,r.pos=q:=⟨r.pos.toNat,by omega⟩
 have hq2:q<r.stages.length:=by omega
 have e:countIn r n=Uf (n*r.stages[q]) 100:=by unfold countIn;rw[if_pos ⟨h1,by simpa using h2,h3⟩,hq];simp[hq2]
 have p4':Qt r.stages[q] 1 100:=by rw[hq]at p4;simpa[hq2]using p4
 have hw:=AAh h3 p4'
 simp -implicitDefEqProofs [h3,hq,hq2,hw]
 refine Aa (hC _ _) ?_
 simp -implicitDefEqProofs [e]
def isIn (r:EP) (i n:Int):Bool:=decide (0≤i)&&decide (i<n)&&decide (i<countIn r n)
abbrev Asg (R:Rel):Prop:=∀(r:EP) (i n:Int),r.stages.length≤4194304→R [arg (Iq r),I i,I n] [] (B (isIn r i n)) []
theorem Azp (D:Dn) (hC:Aap (D AiA)):Asg (Body D Xt):=by
 intro r i n hl
 by_cases h1:0≤i
 ·by_cases h2:i<n
  ·simp -implicitDefEqProofs [h1,h2]
   refine Aa (hC r n hl) ?_
   simp -implicitDefEqProofs [isIn,h1,h2]
  ·simp -implicitDefEqProofs [h1,h2,isIn]
 ·simp -implicitDefEqProofs [h1,isIn]
abbrev TW (R:Rel):Prop:=∀(w:World) (i:Int),w.ends.length≤4194304→R [arg (FH w),I i] [] (B (decide (Qt i 0 ((w.ends.length:Int)-1)))) []
theorem Awf (D:Dn) (hI:Tg (D Bz)):TW (Body D Uh):=by
 intro w i hl
 have hw:IntKind.i64.wrap ((w.ends.length:Int)-1)=(w.ends.length:Int)-1:=Ac (by omega) (by omega)
 simp -implicitDefEqProofs [hw]
 refine Aa (hI _ _ _) ?_
 simp -implicitDefEqProofs
def QM (w:World) (i:Int):Bool:=decide (Qt i 0 ((w.ends.length:Int)-1))&&isIn w.rollout i w.ends.length&&(match w.ends[i.toNat]? with | some e=>decide (w.rollout.version∈e.versions) | none=>false)
theorem Aov {w:World} (h:Bo w≤4194304) {j:Nat} (hj:j<w.ends.length):w.ends[j].versions.length≤maxLen:=by
 have:=size_at (f:=Af) hj
 have e:Af w.ends[j]=w.ends[j].versions.length+w.ends[j].tags.length+Er Lf w.ends[j].path:=rfl
 unfold Bo at h
 unfold maxLen;omega
theorem AfN {w:World} (h:Bo w≤4194304):w.rollout.stages.length≤4194304:=by unfold Bo G8 at h;omega
abbrev Aak (R:Rel):Prop:=∀(w:World) (i:Int),Bo w≤4194304→R [arg (FH w),I i] [] (B (QM w i)) []
theorem Aq4 (D:Dn) (hE:TW (D OQ)) (hN:Asg (D Aro)) (hH:Qw (D Be)):Aak (Body D Ro):=by
 intro w i hsz
 have hl:=FU hsz
 simp -implicitDefEqProofs
 refine Aa (hE w i hl) ?_
 by_cases h1:Qt i 0 ((w.ends.length:Int)-1)
 rotate_left
 ·simp -implicitDefEqProofs [h1,QM]
 simp -implicitDefEqProofs [h1]
 refine Aa (hN w.rollout _ _ (AfN hsz)) ?_
 by_cases h2:isIn w.rollout i w.ends.length=true
 rotate_left
 ·simp -implicitDefEqProofs [h2,QM]
 obtain⟨j,rfl⟩:∃j:Nat,i=j:=⟨i.toNat,by omega⟩
 have hj:j<w.ends.length:=by omega
 simp -implicitDefEqProofs [h2,hj]
 refine Aa (hH _ _ (Aov hsz hj)) ?_
 simp -implicitDefEqProofs [QM,h1,h2,hj]
end Go.Eng.T
namespace Go.Eng.T
set_option maxRecDepth 20000
def AFM (w:World) (n:Int):World×Bool:=if Qt n 1 100∧Qt w.now 0 (10000-n)then({w with now:=w.now+n},true)else(w,false)
abbrev AIn (R:Rel):Prop:=∀(w:World) (n:Int),Bo w≤4194304→R [arg (FH w),I n] [] (.tup [.agg (FH (AFM w n).1),B (AFM w n).2]) []
theorem AMh (D:Dn) (hC:Y8 (D AvV)) (hI:Tg (D Bz)):AIn (Body D AHd):=by
 intro w n h
 simp -implicitDefEqProofs
 refine Aa (hC w h) ?_
 simp -implicitDefEqProofs
 refine Aa (hI _ _ _) ?_
 by_cases h1:Qt n 1 100
 rotate_left
 ·have e:AFM w n=(w,false):=by unfold AFM;rw[if_neg (by omega)]
  simp -implicitDefEqProofs [h1,e]
 have hw:IntKind.i64.wrap (10000-n)=10000-n:=Ac (by omega) (by omega)
 by_cases h3:w.now<0
 ·have e:AFM w n=(w,false):=by unfold AFM;rw[if_neg (by omega)]
  simp -implicitDefEqProofs [h1,hw,h3,e]
 by_cases h2:10000-n<w.now
 ·have e:AFM w n=(w,false):=by unfold AFM;rw[if_neg (by omega)]
  simp -implicitDefEqProofs [h1,hw,h3,h2,e]
 have hw2:IntKind.i64.wrap (w.now+n)=w.now+n:=Ac (by omega) (by omega)
 have e:AFM w n=({w with now:=w.now+n},true):=by unfold AFM;rw[if_pos (by omega)]
 simp -implicitDefEqProofs [h1,hw,h3,h2,e,hw2]
def AIf (w:World) (i:Nat):World:=match w.ends[i]? with
 | some x=> {w with ends:=w.ends.set i ⟨x.versions,x.tags,[],x.cls⟩}
 | none=>w
def AFB (w:World) (i:Int):World×Bool:=
 if 0≤i then(match w.ends[i.toNat]? with
  | some x=>if x.path=[]then(w,false)else(AIf w i.toNat,true)
  | none=>(w,false))else(w,false)
abbrev AHM (R:Rel):Prop:=∀(w:World) (i:Int),Bo w≤4194304→R [arg (FH w),I i] [] (.tup [.agg (FH (AFB w i).1),B (AFB w i).2]) []
theorem AK7 {w:World} {i:Int} (h:¬Qt i 0 ((w.ends.length:Int)-1)):AFB w i=(w,false):=by
 unfold AFB
 by_cases h0:0≤i
 ·rw[if_pos h0,List.getElem?_eq_none (by omega)]
 ·rw[if_neg h0]
theorem ALM (D:Dn) (hC:Y8 (D AvV)) (hE:TW (D OQ)):AHM (Body D AGV):=by
 intro w i h
 have hl:=FU h
 simp -implicitDefEqProofs
 refine Aa (hC w h) ?_
 simp -implicitDefEqProofs
 refine Aa (hE w i hl) ?_
 by_cases h1:Qt i 0 ((w.ends.length:Int)-1)
 rotate_left
 ·simp -implicitDefEqProofs [h1,AK7 h1]
 obtain⟨j,rfl⟩:∃j:Nat,i=j:=⟨i.toNat,by omega⟩
 have hj:j<w.ends.length:=by omega
 by_cases h2:w.ends[j].path=[]
 ·have e:AFB w j=(w,false):=by unfold AFB;rw[if_pos (by omega)];simp[hj,h2]
  simp -implicitDefEqProofs [h1,h2,hj,e]
 ·have e:AFB w j=({w with ends:=w.ends.set j ⟨w.ends[j].versions,w.ends[j].tags,[],w.ends[j].cls⟩},true):=by unfold AFB;rw[if_pos (by omega)];simp[hj,h2,AIf]
  have hf:j*4+2<w.ends.length*4:=by omega
  have hs:(w.ends.flatMap Ap).set (j*4+2) (.sl 0 4 0 [])=(w.ends.set j ⟨w.ends[j].versions,w.ends[j].tags,[],w.ends[j].cls⟩).flatMap Ap:=AzX hj [] rfl
  simp -implicitDefEqProofs [h1,h2,hj,e,hf,hs]
theorem AzP {α:Type} {f:α→Nat}:∀ {xs:List α} {j:Nat} (h:j<xs.length) (y:α),((xs.set j y).map f).sum+f xs[j]=(xs.map f).sum+f y
 | [],j,h,_=>by simp at h
 | x::r,0,h,y=>by simp;omega
 | x::r,j+1,h,y=>by
  have:=AzP (f:=f) (xs:=r) (j:=j) (by simpa using h) y
  simp at *
  omega
theorem size_set {α:Type} {f:α→Nat} {xs:List α} {j:Nat} (h:j<xs.length) (y:α):Er f (xs.set j y)+f xs[j]=Er f xs+f y:=by
 have:=AzP (f:=f) h y
 unfold Er;simp only[List.length_set];omega
end Go.Eng.T
namespace Go.Eng.T
set_option maxRecDepth 20000
theorem Qf {xs:List Int} {lo hi:Int} {j:Nat} (h:j<xs.length):allIn (xs.take (j+1)) lo hi=(allIn (xs.take j) lo hi&&decide (Ov xs[j] lo hi)):=by
 have e:xs.take (j+1)=xs.take j++ [xs[j]]:=by simp
 unfold allIn
 rw[e,List.all_append];simp
theorem AnL {xs:List Int} {lo hi:Int} {j:Nat} (h:j<xs.length) (hn:¬Ov xs[j] lo hi):allIn xs lo hi=false:=by
 unfold allIn
 rw[List.all_eq_false]
 exact⟨xs[j],List.getElem_mem h,by simp[hn]⟩
theorem Ab1 {xs:List Int} {lo hi:Int} {j:Nat} (h:xs.length≤j) (ha:allIn (xs.take j) lo hi=true):allIn xs lo hi=true:=by rwa [List.take_of_length_le h]at ha
abbrev V7 (R:Rel):Prop:=∀xs:List Int,xs.length≤maxLen→R [.sl 1 1 xs.length (ints xs)] [] (B (allIn xs 0 255)) []
theorem Ayi (D:Dn) (hI:Tg (D CF)):V7 (Body D Tz):=by
 intro xs hl
 unfold maxLen at hl
 simp -implicitDefEqProofs
 refine Ae (fun k s=>∃j,j+k=xs.length∧allIn (xs.take j) 0 255=true∧s=⟨[.sl 1 1 xs.length (ints xs),.undef,.sc (.int .i64 j),.undef,.undef],[]⟩) ?_ xs.length _ ⟨0,by simp,by simp[allIn],by simp⟩
 intro k s ⟨j,hj,hp,hs⟩
 subst hs
 by_cases hjn:j<xs.length
 ·have hw:IntKind.i64.wrap ((j:Int)+1)=(j+1:Nat):=by rw[Ac (by omega) (by omega)];simp
  simp -implicitDefEqProofs [hjn]
  refine Aa (hI _ _ _) ?_
  by_cases h1:Ov xs[j] 0 255
  ·simp -implicitDefEqProofs [h1]
   exact⟨k-1,by omega,j+1,by omega,by rw[Qf hjn,hp];simp[h1],by simp[hw]⟩
  ·simp -implicitDefEqProofs [h1,AnL hjn h1]
 ·simp -implicitDefEqProofs [hjn,Ab1 (by omega) hp]
def ET (b:EK):Bool:=decide (Ov b.limit 0 9)&&decide (b.drops.length≤6)&&decide (b.strips.length≤6)&&allIn b.drops 0 255&&allIn b.strips 0 255
abbrev RB (R:Rel):Prop:=∀b:EK,Kr b→R [arg (Cz b)] [] (B (ET b)) []
theorem Ayb (D:Dn) (hI:Tg (D CF)) (hB:V7 (D Tm)):RB (Body D UN):=by
 intro b hl
 simp -implicitDefEqProofs
 refine Aa (hI _ _ _) ?_
 by_cases h1:Ov b.limit 0 9
 rotate_left
 ·simp -implicitDefEqProofs [h1,ET]
 by_cases h2:b.drops.length≤6
 rotate_left
 ·have h2':¬(b.drops.length:Int)≤6:=by omega
  simp -implicitDefEqProofs [h1,h2',h2,ET]
 have h2':(b.drops.length:Int)≤6:=by omega
 by_cases h3:b.strips.length≤6
 rotate_left
 ·have h3':¬(b.strips.length:Int)≤6:=by omega
  simp -implicitDefEqProofs [h1,h2',h3',h3,ET]
 have h3':(b.strips.length:Int)≤6:=by omega
 simp -implicitDefEqProofs [h1,h2',h3']
 refine Aa (hB _ hl.1) ?_
 by_cases h4:allIn b.drops 0 255=true
 rotate_left
 ·simp -implicitDefEqProofs [h4,ET]
 simp -implicitDefEqProofs [h4]
 refine Aa (hB _ hl.2) ?_
 simp -implicitDefEqProofs [ET,h1,h2,h3,h4]
theorem AwU (D:Dn) (hI:Tg (D Bz)) (hB:Gu (D Gj)):RB (Body D Vk):=by
 intro b hl
 simp -implicitDefEqProofs
 refine Aa (hI _ _ _) ?_
 by_cases h1:Ov b.limit 0 9
 rotate_left
 ·simp -implicitDefEqProofs [h1,ET]
 by_cases h2:b.drops.length≤6
 rotate_left
 ·have h2':¬(b.drops.length:Int)≤6:=by omega
  simp -implicitDefEqProofs [h1,h2',h2,ET]
 have h2':(b.drops.length:Int)≤6:=by omega
 by_cases h3:b.strips.length≤6
 rotate_left
 ·have h3':¬(b.strips.length:Int)≤6:=by omega
  simp -implicitDefEqProofs [h1,h2',h3',h3,ET]
 have h3':(b.strips.length:Int)≤6:=by omega
 simp -implicitDefEqProofs [h1,h2',h3']
 refine Aa (hB _ _ _ hl.1) ?_
 by_cases h4:allIn b.drops 0 255=true
 rotate_left
 ·simp -implicitDefEqProofs [h4,ET]
 simp -implicitDefEqProofs [h4]
 refine Aa (hB _ _ _ hl.2) ?_
 simp -implicitDefEqProofs [ET,h1,h2,h3,h4]
def AF0 (w:World) (i:Int) (b:EK):World×Bool:=
 if 0≤i then(match w.ends[i.toNat]? with
  | some x=>if ET b=true∧x.path.length<4 then({w with ends:=w.ends.set i.toNat ⟨x.versions,x.tags,x.path++ [b],x.cls⟩},true)else(w,false)
  | none=>(w,false))else(w,false)
abbrev AJk (R:Rel):Prop:=∀(w:World) (i:Int) (b:EK),Bo w≤4194304→Lf b≤4194304→R [arg (FH w),I i,arg (Cz b)] [] (.tup [.agg (FH (AF0 w i b).1),B (AF0 w i b).2]) []
theorem AMF {w:World} {i:Int} {b:EK} (h:¬Qt i 0 ((w.ends.length:Int)-1)):AF0 w i b=(w,false):=by
 unfold AF0
 by_cases h0:0≤i
 ·rw[if_pos h0,List.getElem?_eq_none (by omega)]
 ·rw[if_neg h0]
theorem AOz {b:EK} (h:Lf b≤4194304):Kr b:=by unfold Lf at h;unfold Kr PO maxLen;omega
theorem ANc (D:Dn) (hC:Y8 (D AvV)) (hE:TW (D OQ)) (hB:RB (D Acr)) (hP:AJj (D Ayg)):AJk (Body D AHE):=by
 intro w i b h hb
 have hl:=FU h
 simp -implicitDefEqProofs
 refine Aa (hC w h) ?_
 simp -implicitDefEqProofs
 refine Aa (hE w i hl) ?_
 by_cases h1:Qt i 0 ((w.ends.length:Int)-1)
 rotate_left
 ·simp -implicitDefEqProofs [h1,AMF h1]
 obtain⟨j,rfl⟩:∃j:Nat,i=j:=⟨i.toNat,by omega⟩
 have hj:j<w.ends.length:=by omega
 simp -implicitDefEqProofs [h1]
 refine Aa (hB b (AOz hb)) ?_
 by_cases h2:ET b=true
 rotate_left
 ·have e:AF0 w j b=(w,false):=by unfold AF0;rw[if_pos (by omega)];simp[hj,h2]
  simp -implicitDefEqProofs [h2,e]
 by_cases h3:w.ends[j].path.length<4
 rotate_left
 ·have e:AF0 w j b=(w,false):=by unfold AF0;rw[if_pos (by omega)];simp[hj,h3]
  have h3':(4:Int)≤w.ends[j].path.length:=by omega
  simp -implicitDefEqProofs [h2,hj,h3',e]
 have e:AF0 w j b=({w with ends:=w.ends.set j ⟨w.ends[j].versions,w.ends[j].tags,w.ends[j].path++ [b],w.ends[j].cls⟩},true):=by unfold AF0;rw[if_pos (by omega)];simp[hj,h2,h3]
 have h3':¬(4:Int)≤w.ends[j].path.length:=by omega
 have hz:Lf b=b.drops.length+b.strips.length:=rfl
 have b3:(w.ends[j].path.length+1)*64≤1099511627776:=by omega
 have hf:j*4+2<w.ends.length*4:=by omega
 simp -implicitDefEqProofs [h2,hj,h3',e,hf]
 have hb6:Lf b≤12:=by
  have:=h2
  simp only[ET,Bool.and_eq_true,decide_eq_true_eq]at this
  unfold Lf;omega
 refine Aa (hP [b] (by unfold Er;simp;omega)) ?_
 simp -implicitDefEqProofs [h2,hj,h3',e,hf,b3]
 have hs:=AzX hj (w.ends[j].path++ [b]) (n:=w.ends[j].path.length+1) (by simp)
 simpa[List.flatMap_append]using hs
end Go.Eng.T
namespace Go.Eng.T
set_option maxRecDepth 20000
abbrev AGa (D:Dn) (R:Rel):Prop:=∀(xs:List Ai) (g:Nat) (caps:List V) (p:Ai→Bool),xs.length≤maxLen→LG caps→(∀(j:Nat) (h:j<xs.length),D g (arg (Ap xs[j])::caps) [] (B (p xs[j])) [])→R [.sl 1 4 xs.length (xs.flatMap Ap),.fn g caps] [] (I (Gr p xs 0)) []
theorem AIy (D:Dn):AGa D (Body D Av3):=by
 intro xs g caps p hl hc hp
 unfold maxLen at hl
 simp -implicitDefEqProofs
 refine Ae (fun k s=>∃j,j+k=xs.length∧Gr p xs 0=Gr p (xs.drop j) j∧s=⟨[.sl 1 4 xs.length (xs.flatMap Ap),.fn g caps,.undef,.undef,.sc (.int .i64 xs.length),.sc (.int .i64 j),.undef,.undef],[]⟩) ?_ xs.length _ ⟨0,by simp,by simp,by simp⟩
 intro k s ⟨j,hj,hi,hs⟩
 subst hs
 by_cases hjn:j<xs.length
 ·have hw:IntKind.i64.wrap ((j:Int)+1)=(j+1:Nat):=by rw[Ac (by omega) (by omega)];simp
  rw[R8 hjn]at hi
  simp -implicitDefEqProofs [hjn,hc.1,hc.2.1]
  refine Aa (hp j hjn) ?_
  by_cases he:p xs[j]=true
  ·rw[if_pos he]at hi
   simp -implicitDefEqProofs [he,hi]
  ·rw[if_neg he]at hi
   simp -implicitDefEqProofs [he]
   exact⟨k-1,by omega,j+1,by omega,by simpa using hi,by simp[hw]⟩
 ·rw[UM (by omega)]at hi
  simp -implicitDefEqProofs [hjn,hi]
abbrev AFT (D:Dn) (R:Rel):Prop:=∀(xs:List Ai) (g:Nat) (caps:List V) (p:Ai→Bool),xs.length≤maxLen→LG caps→(∀(j:Nat) (h:j<xs.length),D g (arg (Ap xs[j])::caps) [] (B (p xs[j])) [])→R [.sl 1 4 xs.length (xs.flatMap Ap),.fn g caps] [] (B (xs.any p)) []
theorem AHV (D:Dn) (hI:AGa D (D Qq)):AFT D (Body D ArW):=by
 intro xs g caps p hl hc hp
 simp -implicitDefEqProofs [hc.2.2]
 refine Aa (hI xs g caps p hl hc hp) ?_
 have e:decide (0≤Gr p xs 0)=xs.any p:=by rw[Bool.eq_iff_iff];simp only[decide_eq_true_eq];rw[Ur (by omega)]
 simp -implicitDefEqProofs [e]
abbrev AGh (D:Dn) (R:Rel):Prop:=∀(xs:List DW) (g:Nat) (caps:List V) (p:DW→Bool),xs.length≤maxLen→LG caps→(∀(j:Nat) (h:j<xs.length),D g (arg (AQ xs[j])::caps) [] (B (p xs[j])) [])→R [.sl 1 8 xs.length (xs.flatMap AQ),.fn g caps] [] (I (Gr p xs 0)) []
theorem AIZ (D:Dn):AGh D (Body D ABt):=by
 intro xs g caps p hl hc hp
 unfold maxLen at hl
 simp -implicitDefEqProofs
 refine Ae (fun k s=>∃j,j+k=xs.length∧Gr p xs 0=Gr p (xs.drop j) j∧s=⟨[.sl 1 8 xs.length (xs.flatMap AQ),.fn g caps,.undef,.undef,.sc (.int .i64 xs.length),.sc (.int .i64 j),.undef,.undef],[]⟩) ?_ xs.length _ ⟨0,by simp,by simp,by simp⟩
 intro k s ⟨j,hj,hi,hs⟩
 subst hs
 by_cases hjn:j<xs.length
 ·have hw:IntKind.i64.wrap ((j:Int)+1)=(j+1:Nat):=by rw[Ac (by omega) (by omega)];simp
  rw[R8 hjn]at hi
  simp -implicitDefEqProofs [hjn,hc.1,hc.2.1]
  refine Aa (hp j hjn) ?_
  by_cases he:p xs[j]=true
  ·rw[if_pos he]at hi
   simp -implicitDefEqProofs [he,hi]
  ·rw[if_neg he]at hi
   simp -implicitDefEqProofs [he]
   exact⟨k-1,by omega,j+1,by omega,by simpa using hi,by simp[hw]⟩
 ·rw[UM (by omega)]at hi
  simp -implicitDefEqProofs [hjn,hi]
abbrev AF5 (D:Dn) (R:Rel):Prop:=∀(xs:List DW) (g:Nat) (caps:List V) (p:DW→Bool),xs.length≤maxLen→LG caps→(∀(j:Nat) (h:j<xs.length),D g (arg (AQ xs[j])::caps) [] (B (p xs[j])) [])→R [.sl 1 8 xs.length (xs.flatMap AQ),.fn g caps] [] (B (xs.any p)) []
theorem AH3 (D:Dn) (hI:AGh D (D S9)):AF5 D (Body D AyW):=by
 intro xs g caps p hl hc hp
 simp -implicitDefEqProofs [hc.2.2]
 refine Aa (hI xs g caps p hl hc hp) ?_
 have e:decide (0≤Gr p xs 0)=xs.any p:=by rw[Bool.eq_iff_iff];simp only[decide_eq_true_eq];rw[Ur (by omega)]
 simp -implicitDefEqProofs [e]
abbrev ML (D:Dn) (R:Rel):Prop:=∀(xs:List EK) (g:Nat) (caps:List V) (p:EK→Bool),xs.length≤maxLen→LG caps→(∀(j:Nat) (h:j<xs.length),D g (arg (Cz xs[j])::caps) [] (B (p xs[j])) [])→R [.sl 1 4 xs.length (xs.flatMap Cz),.fn g caps] [] (I (Gr p xs 0)) []
theorem Ag5 (D:Dn):ML D (Body D CJ):=by
 intro xs g caps p hl hc hp
 unfold maxLen at hl
 simp -implicitDefEqProofs
 refine Ae (fun k s=>∃j,j+k=xs.length∧Gr p xs 0=Gr p (xs.drop j) j∧s=⟨[.sl 1 4 xs.length (xs.flatMap Cz),.fn g caps,.undef,.undef,.sc (.int .i64 xs.length),.sc (.int .i64 j),.undef,.undef],[]⟩) ?_ xs.length _ ⟨0,by simp,by simp,by simp⟩
 intro k s ⟨j,hj,hi,hs⟩
 subst hs
 by_cases hjn:j<xs.length
 ·have hw:IntKind.i64.wrap ((j:Int)+1)=(j+1:Nat):=by rw[Ac (by omega) (by omega)];simp
  rw[R8 hjn]at hi
  simp -implicitDefEqProofs [hjn,hc.1,hc.2.1]
  refine Aa (hp j hjn) ?_
  by_cases he:p xs[j]=true
  ·rw[if_pos he]at hi
   simp -implicitDefEqProofs [he,hi]
  ·rw[if_neg he]at hi
   simp -implicitDefEqProofs [he]
   exact⟨k-1,by omega,j+1,by omega,by simpa using hi,by simp[hw]⟩
 ·rw[UM (by omega)]at hi
  simp -implicitDefEqProofs [hjn,hi]
abbrev IU (D:Dn) (R:Rel):Prop:=∀(xs:List EK) (g:Nat) (caps:List V) (p:EK→Bool),xs.length≤maxLen→LG caps→(∀(j:Nat) (h:j<xs.length),D g (arg (Cz xs[j])::caps) [] (B (p xs[j])) [])→R [.sl 1 4 xs.length (xs.flatMap Cz),.fn g caps] [] (B (xs.any p)) []
theorem Zy (D:Dn) (hI:ML D (D Il)):IU D (Body D Ck):=by
 intro xs g caps p hl hc hp
 simp -implicitDefEqProofs [hc.2.2]
 refine Aa (hI xs g caps p hl hc hp) ?_
 have e:decide (0≤Gr p xs 0)=xs.any p:=by rw[Bool.eq_iff_iff];simp only[decide_eq_true_eq];rw[Ur (by omega)]
 simp -implicitDefEqProofs [e]
end Go.Eng.T
namespace Go.Eng.T
set_option maxRecDepth 20000
theorem APv {xs:List DW} {j:Nat} (h:j<xs.length):xs[j].dialed.up.length≤Er Im xs:=by
 have:=size_at (f:=Im) h
 simp only[Im,BJ]at this⊢
 omega
theorem AMH {w:World} (h:Bo w≤4194304) {j:Nat} (hj:j<w.log.length):w.log[j].dialed.up.length≤maxLen:=by
 have:=APv hj
 unfold Bo at h
 unfold maxLen;omega
def AFX (w:World) (l:DW):Bool:=l.on&&SE w.rollout.version l.dialed
abbrev AMu (R:Rel):Prop:=∀(w:World) (l:DW),l.dialed.up.length≤maxLen→R [arg (FH w),arg (AQ l)] [] (B (AFX w l)) []
theorem AOx (D:Dn) (hB:Gy (D Ac8)):AMu (Body D AHL):=by
 intro w l hl
 by_cases h:l.on=true
 ·simp -implicitDefEqProofs [h]
  refine Aa (hB l.dialed _ hl) ?_
  simp -implicitDefEqProofs [AFX,h]
 ·simp -implicitDefEqProofs [h,AFX]
abbrev AHT (R:Rel):Prop:=∀(w:World),Bo w≤4194304→R [arg (FH w)] [] (B (decide (w.hurt=cntF (AFX w) w.log))) []
theorem ALJ (D:Dn) (hB:AMu (D Azs)):AHT (Body D AG3):=by
 intro w hsz
 have hl:=Auq hsz
 simp -implicitDefEqProofs
 refine Ae (fun k s=>∃j o,j+k=w.log.length∧s=⟨[.undef,.ptr 0 0,.undef,.sc (.int .i64 (cntF (AFX w) (w.log.take j))),.undef,.sl 1 8 w.log.length (w.log.flatMap AQ),.sc (.int .i64 w.log.length),.sc (.int .i64 j),.undef,.undef],[.var ((FH w).map (AX 1)),o]⟩) ?_ w.log.length _ ⟨0,.free,by simp,by simp[cntF]⟩
 intro k s ⟨j,o,hj,hs⟩
 subst hs
 by_cases hjn:j<w.log.length
 ·have hw:IntKind.i64.wrap ((j:Int)+1)=(j+1:Nat):=by rw[Ac (by omega) (by omega)];simp
  have hc:=Aom (f:=AFX w) hjn
  have hcl:=AxC (f:=AFX w) (xs:=w.log) (j:=j) (by omega)
  have hw2:IntKind.i64.wrap ((cntF (AFX w) (w.log.take j):Int)+1)=(cntF (AFX w) (w.log.take j)+1:Nat):=by rw[Ac (by omega) (by omega)];simp
  simp -implicitDefEqProofs [hjn]
  refine Aa (hB w w.log[j] (AMH hsz hjn)) ?_
  by_cases he:AFX w w.log[j]=true
  ·simp -implicitDefEqProofs [he]
   exact⟨k-1,by omega,j+1,by omega,by rw[hc,hw2];simp[he],by simp[hw]⟩
  ·simp -implicitDefEqProofs [he]
   exact⟨k-1,by omega,j+1,by omega,by rw[hc];simp[he],by simp[hw]⟩
 ·have hx:=AsH (f:=AFX w) (xs:=w.log) (j:=j) (by omega)
  simp -implicitDefEqProofs [hjn,hx,Anu]
end Go.Eng.T
namespace Go.Eng.T
set_option maxRecDepth 20000
def Aq (t:Int):Bool:=decide (Ov t 0 255)&&decide (t.tmod 16=10)
abbrev EJ (R:Rel):Prop:=∀t:Int,R [I t] [] (B (Aq t)) []
theorem Aij (D:Dn) (hI:Tg (D CF)):EJ (Body D Mj):=by
 intro t
 simp -implicitDefEqProofs
 refine Aa (hI _ _ _) ?_
 by_cases h:Ov t 0 255
 ·simp -implicitDefEqProofs [h,Aq,Anu]
 ·simp -implicitDefEqProofs [h,Aq]
theorem Ajw (D:Dn) (hI:Tg (D Bz)):EJ (Body D Ml):=by
 intro t
 simp -implicitDefEqProofs
 refine Aa (hI _ _ _) ?_
 by_cases h:Ov t 0 255
 ·simp -implicitDefEqProofs [h,Aq,Anu]
 ·simp -implicitDefEqProofs [h,Aq]
abbrev M6 (R:Rel):Prop:=∀xs:List Int,xs.length≤maxLen→R [.sl 1 1 xs.length (ints xs)] [] (B (xs.any Aq)) []
theorem U3 {α:Type} {p:α→Bool} {xs:List α} {j:Nat} (h:j<xs.length) (hp:p xs[j]=true):xs.any p=true:=List.any_eq_true.2 ⟨_,List.getElem_mem h,hp⟩
theorem AgO {α:Type} {p:α→Bool} {xs:List α} {j:Nat} (h:j<xs.length):(xs.take (j+1)).any p=((xs.take j).any p||p xs[j]):=by
 have e:xs.take (j+1)=xs.take j++ [xs[j]]:=by simp
 rw[e,List.any_append];simp
theorem any_none {α:Type} {p:α→Bool} {xs:List α} {j:Nat} (h:xs.length≤j) (ha:(xs.take j).any p=false):xs.any p=false:=by rwa [List.take_of_length_le h]at ha
theorem Aih (D:Dn) (hR:EJ (D R4)) (hC:JA D (D F3)):M6 (Body D LZ):=by
 intro xs hl
 simp -implicitDefEqProofs
 refine Aa (hC xs 279 _ Aq hl FJ (fun x=>hR x)) ?_
 generalize xs.any Aq=b
 simp -implicitDefEqProofs
def AG6 (l:DW):Bool:=l.dialed.deal.ok&&(l.dialed.deal.tags.any Aq|| !decide (Ov l.dialed.deal.version 1 9))
abbrev AJs (R:Rel):Prop:=∀w:World,Bo w≤4194304→R [arg (FH w)] [] (B (!w.log.any AG6)) []
theorem AMI {w:World} (h:Bo w≤4194304) {j:Nat} (hj:j<w.log.length):w.log[j].dialed.deal.tags.length≤maxLen:=by
 have:=size_at (f:=Im) hj
 have e:Im w.log[j]=w.log[j].dialed.deal.tags.length+w.log[j].dialed.up.length:=rfl
 unfold Bo at h
 unfold maxLen;omega
abbrev AIh (R:Rel):Prop:=∀l:DW,l.dialed.deal.tags.length≤maxLen→R [arg (AQ l)] [] (B (AG6 l)) []
theorem ANe (D:Dn) (hH:M6 (D Si)) (hI:Tg (D Bz)):AIh (Body D AG1):=by
 intro l hl
 by_cases h1:l.dialed.deal.ok=true
 rotate_left
 ·simp -implicitDefEqProofs [h1,AG6]
 simp -implicitDefEqProofs [h1]
 refine Aa (hH _ hl) ?_
 unfold AG6
 rw[h1]
 generalize l.dialed.deal.tags.any Aq=c
 cases c
 rotate_left
 ·simp -implicitDefEqProofs
 simp -implicitDefEqProofs
 refine Aa (hI _ _ _) ?_
 simp -implicitDefEqProofs
theorem ANx (D:Dn) (h1:AIh (D AvO)) (hC:AF5 D (D QN)):AJs (Body D AHw):=by
 intro w hsz
 simp -implicitDefEqProofs
 refine Aa (hC w.log 247 _ AG6 (by have:=Auq hsz;unfold maxLen;omega) FJ (fun j hj=>h1 _ (AMI hsz hj))) ?_
 generalize w.log.any AG6=b
 simp -implicitDefEqProofs
end Go.Eng.T
namespace Go.Eng.T
open Go.Eng.X
def AkS:Nat→Bu
 |0=>R 0 [x 0 (s 0),a 1 zW] [(1,0),(2,1)] [0]
 |1=>T 1 [D (P 15 (s 1)) [0] [],D (C 38 [r (l 0)] [2,3,4,5,6,7]) [2,3,4,5,6,7] [2,3,4,5,6,7],D (F (s 1) 4) [] [],D (P 4 (l 2)) [0] [],D (a 8 zW) [8] [8],D (a 9 zR) [9] [9],D (W 15 (l 4) (l 1)) [8,11] [8],D (W 4 (l 5) (l 3)) [9,11] [9]] [(3,4),(4,5)] []
 |2=>R 2 [P 4 (s 4),C 176 [r (l 0)] [],n (l 1),m (l 2),G 3 (F (s 4) 3),G 3 (L (l 4)),k (l 3) t (l 5)] [(6,6)] []
 |3=>R 3 [P 15 (s 3),W 15 (s 2) (l 0)] [] [1,3,4]
 |4=>R 4 [F (s 3) 3,L (l 0),e (l 1),m (i 0)] [(7,2),(8,3)] []
 |5=>R 5 [y .lss (s 8) (s 7)] [(9,0)] []
 |6=>R 6 [m (s 8),m (l 0)] [(5,1)] []
 |7=>R 7 [P 4 (s 4),m (s 5),F (s 3) 3,L (l 2),e (l 3),C 228 [r (l 0),r (l 1),r (l 4)] []] [(10,5)] []
 |8=>Y 8 [D (F (s 3) 3) [] [],D (L (l 0)) [8] [],D (m (s 5)) [] [],D (F (s 3) 3) [] [],D (L (l 3)) [8] [],D (m (s 5)) [] [],D (A 4 (l 4) (l 5)) [4] [],D (F (l 6) 0) [] [],D (.take 11 (l 7)) [4,11] [4,11],D (F (s 4) 0) [] [],D (L (l 9)) [9] [],D (C 230 [v (l 8),r (l 10)] [10]) [10,11] [10,11],D (A 4 (l 1) (l 2)) [4] [],D (F (l 12) 0) [] [],D (W 1 (l 13) (l 11)) [4,10,11] [4,10]] [] [5] [10,11] []
 |9=>R 9 [y .add (s 8) (i 1),m (l 0)] [(8,1)] []
 |10=>T 10 [D (F (s 1) 14) [] [],D (L (l 0)) [0] [],D (F (s 4) 2) [] [],D (L (l 2)) [9] [],D (y .add (l 3) (i 1)) [] [],D (.minmax true (l 1) [l 4]) [] [],D (F (s 3) 10) [] [],D (W 1 (l 6) (z 5)) [8,11] [8],D (F (s 3) 14) [] [],D (W 1 (l 8) (l 5)) [8,11] [8]] [] [1,4,7,8]
 |_=>R 11 [P 15 (s 3),W 15 (s 2) (l 0)] [] [3]
def AGA:Bw:=⟨11,12,[0],0,false,[11],j (d (AkS 0)) (j (d (AkS 1)) (j (j (d (AkS 2)) (h 6 (j (d (AkS 3)) (.ret)) (.skip))) (j (j (d (AkS 4)) (.block 0 (.loop (j (d (AkS 5)) (j (h 9 (.skip) (.exit 0)) (j (.block 1 (j (d (AkS 6)) (j (d (AkS 7)) (h 10 (d (AkS 8)) (.skip))))) (d (AkS 9)))))))) (j (d (AkS 10)) (j (d (AkS 11)) (.ret)))))),[.cell 2 (some 15)]⟩
def AIz:List Tmp:=[0,1,2,3,4,5,16,20,21,22,29]
def Ay8:Nat→Bu
 |0=>R 0 [x 0 (s 0),m (z 1)] [(1,0)] [0,2]
 |1=>Q 1 [M 1 1 0 [],m (l 0)] [(3,1)] [] [] [w 1 6]
 |2=>R 2 [F (s 1) 11,L (l 0),e (l 1),m (i 0)] [(5,1),(6,2),(7,3)] []
 |3=>R 3 [y .lss (s 7) (s 6)] [(8,0)] []
 |4=>Q 4 [A 8 (s 5) (s 7),P 8 (l 0),a 2 zL,W 8 (l 2) (l 1)] [(4,2)] [] [2] []
 |5=>R 5 [P 15 (s 1),P 8 (s 4),C 196 [r (l 0),r (l 1)] []] [(9,2)] []
 |6=>Q 6 [m (s 3),F (s 4) 0,L (l 1),M 3 1 1 [l 2],q 4 1 8 (l 0) (l 3),m (l 4)] [(3,5)] [4] [3,4] [w 4 6]
 |7=>R 7 [y .add (s 7) (i 1),m (l 0)] [(7,1)] []
 |8=>R 8 [m (s 3),C 197 [v (l 0)] []] [] [1,5,6,7]
 |_=>R 9 [m (s 3),C 198 [v (l 0)] [5],m (l 1)] [(2,2)] [3]
def AGZ:Bw:=⟨10,7,[0],0,false,[],j (d (Ay8 0)) (j (d (Ay8 1)) (j (j (d (Ay8 2)) (.block 0 (.loop (j (d (Ay8 3)) (j (h 8 (.skip) (.exit 0)) (j (.block 1 (j (d (Ay8 4)) (j (d (Ay8 5)) (h 9 (d (Ay8 6)) (.skip))))) (d (Ay8 7)))))))) (j (d (Ay8 8)) (j (d (Ay8 9)) (.ret))))),[.slot 2]⟩
def AJr:List Tmp:=[0,1,2,3,5,8,9,10,11,16]
def ACx:Nat→Bu
 |0=>R 0 [m (z 1)] [] [2]
 |1=>R 1 [m (i 0)] [(3,0)] []
 |2=>R 2 [m (s 3),m (s 0),e (l 1),y .lss (l 0) (l 2),m (l 3),J 4 (m (s 0)),J 4 (m (s 3)),J 4 (A 1 (l 5) (l 6)),J 4 (L (l 7)),J 4 (m (s 1)),J 4 (y .lss (l 8) (l 9)),k (l 4) (l 10) f] [(4,11)] []
 |3=>R 3 [m (s 3),y .add (l 0) (i 1),m (l 1)] [(3,2)] []
 |4=>R 4 [m (s 3),m (s 0),e (l 1),y .lss (l 0) (l 2),m (l 3),J 4 (m (s 0)),J 4 (m (s 3)),J 4 (A 1 (l 5) (l 6)),J 4 (L (l 7)),J 4 (m (s 1)),J 4 (y .eql (l 8) (l 9)),k (l 4) (l 10) f] [(5,11)] []
 |5=>R 5 [m (s 0),m (l 0)] [(2,1)] [0,1,3]
 |_=>R 6 [m (s 0),m (s 3),m (s 1),M 1 1 1 [l 2],C 264 [v (l 0),r (l 1),v (l 3)] [2],m (l 4)] [(2,5)] [0,1,3]
def AGr:Bw:=⟨6,3,[0,1],1,false,[],j (d (ACx 0)) (j (d (ACx 1)) (j (.block 0 (.loop (j (j (d (ACx 2)) (h 4 (.skip) (.exit 0))) (.block 1 (d (ACx 3)))))) (j (j (d (ACx 4)) (h 5 (j (d (ACx 5)) (.ret)) (.skip))) (j (d (ACx 6)) (.ret))))),[.slot 2]⟩
def AIg:List Tmp:=[0,1,4,5,17,31]
def ADe:Nat→Bu
 |0=>R 0 [m (z 1),m f] [] [2,3]
 |1=>R 1 [M 0 1 0 [],m (s 0),q 1 1 8 (l 0) (l 1),m (l 2)] [(4,3)] []
 |2=>R 2 [m (s 0),C 232 [r (l 0)] [],n (l 1),m (l 2),G 3 (m (s 1)),G 3 (C 114 [r (l 4),r (i 1),r (i 9)] []),G 3 (n (l 5)),k (l 3) t (l 6),m (l 7),G 8 (m (s 0)),G 8 (m (s 1)),G 8 (C 188 [r (l 9),r (l 10)] []),k (l 8) t (l 11)] [(5,12)] [0]
 |3=>R 3 [m (s 4),m (l 0),m f] [(2,1),(3,2)] [1,4]
 |4=>R 4 [m (s 4),m (s 1),M 2 1 1 [l 1],q 3 1 8 (l 0) (l 2),m (l 3)] [(4,4)] [1]
 |5=>R 5 [m (s 4),C 197 [v (l 0)] []] [] []
 |_=>R 6 [m (s 4),m (l 0),m t] [(2,1),(3,2)] [4]
def AGx:Bw:=⟨6,4,[0,1],0,false,[],j (d (ADe 0)) (j (d (ADe 1)) (j (j (d (ADe 2)) (h 5 (j (d (ADe 3)) (.ret)) (.skip))) (j (d (ADe 4)) (j (d (ADe 5)) (j (d (ADe 6)) (.ret)))))),[.slot 2,.slot 3]⟩
def AIA:List Tmp:=[0,1,4,5,6,22]
attribute [simp] AkS AGA Ay8 AGZ ACx AGr ADe AGx
end Go.Eng.T
namespace Go.Eng.T
set_option maxRecDepth 20000
abbrev Jp (D:Dn) (R:Rel):Prop:=∀(xs:List Ext) (g:Nat) (caps:List V) (p:Ext→Bool),xs.length≤maxLen→LG caps→(∀(j:Nat) (h:j<xs.length),D g (arg (Bl xs[j])::caps) [] (B (p xs[j])) [])→R [.sl 1 2 xs.length (xs.flatMap Bl),.fn g caps] [] (I (Gr p xs 0)) []
theorem AfH (D:Dn):Jp D (Body D CG):=by
 intro xs g caps p hl hc hp
 unfold maxLen at hl
 simp -implicitDefEqProofs
 refine Ae (fun k s=>∃j,j+k=xs.length∧Gr p xs 0=Gr p (xs.drop j) j∧s=⟨[.sl 1 2 xs.length (xs.flatMap Bl),.fn g caps,.undef,.undef,.sc (.int .i64 xs.length),.sc (.int .i64 j),.undef,.undef],[]⟩) ?_ xs.length _ ⟨0,by simp,by simp,by simp⟩
 intro k s ⟨j,hj,hi,hs⟩
 subst hs
 by_cases hjn:j<xs.length
 ·have hw:IntKind.i64.wrap ((j:Int)+1)=(j+1:Nat):=by rw[Ac (by omega) (by omega)];simp
  rw[R8 hjn]at hi
  simp -implicitDefEqProofs [hjn,hc.1,hc.2.1]
  refine Aa (hp j hjn) ?_
  by_cases he:p xs[j]=true
  ·rw[if_pos he]at hi
   simp -implicitDefEqProofs [he,hi]
  ·rw[if_neg he]at hi
   simp -implicitDefEqProofs [he]
   exact⟨k-1,by omega,j+1,by omega,by simpa using hi,by simp[hw]⟩
 ·rw[UM (by omega)]at hi
  simp -implicitDefEqProofs [hjn,hi]
abbrev I5 (D:Dn) (R:Rel):Prop:=∀(xs:List Ext) (g:Nat) (caps:List V) (p:Ext→Bool),xs.length≤maxLen→LG caps→(∀(j:Nat) (h:j<xs.length),D g (arg (Bl xs[j])::caps) [] (B (p xs[j])) [])→R [.sl 1 2 xs.length (xs.flatMap Bl),.fn g caps] [] (B (xs.any p)) []
theorem Zp (D:Dn) (hI:Jp D (D EH)):I5 D (Body D Cm):=by
 intro xs g caps p hl hc hp
 simp -implicitDefEqProofs [hc.2.2]
 refine Aa (hI xs g caps p hl hc hp) ?_
 have e:decide (0≤Gr p xs 0)=xs.any p:=by rw[Bool.eq_iff_iff];simp only[decide_eq_true_eq];rw[Ur (by omega)]
 simp -implicitDefEqProofs [e]
end Go.Eng.T
namespace Go.Eng.T
set_option maxRecDepth 20000
def EZ (t:Int) (x:Ext):Bool:=decide (x.tag=t)
def Ij (l:List Ext) (t:Int):Int:=Gr (EZ t) l 0
abbrev NC (R:Rel):Prop:=∀(l:List Ext) (t:Int),l.length≤maxLen→R [.sl 1 2 l.length (l.flatMap Bl),I t] [] (I (Ij l t)) []
abbrev AeS (R:Rel):Prop:=∀(x:Ext) (t:Int),R [arg (Bl x),.rptr 1 [I t] 0] [] (B (EZ t x)) []
theorem AxA (D:Dn):AeS (Body D Rq):=by
 intro x t
 simp -implicitDefEqProofs [EZ,Anu]
theorem AxX (D:Dn) (h1:AeS (D Ah2)) (hX:Jp D (D EH)):NC (Body D UR):=by
 intro l t hl
 have hres:Ij l t=Gr (EZ t) l 0:=rfl
 rw[hres]
 simp -implicitDefEqProofs
 refine Aa (hX l 351 _ (EZ t) hl (AbG FJ) (fun j h=>h1 l[j] t)) ?_
 simp -implicitDefEqProofs
def O9 (x:Ext):Bool:=decide (Ov x.tag 0 255)&&(decide (x.body.length≤4)&&allIn x.body 0 255)
def Rf (l:List Ext) (i:Nat):Bool:=match l[i]? with
 | some x=>O9 x&& !(l.take i).any (EZ x.tag)
 | none=>true
theorem O5 {l:List Ext} {i:Nat} (h:i<l.length):Rf l i=(O9 l[i]&& !(l.take i).any (EZ l[i].tag)):=by
 unfold Rf
 rw[List.getElem?_eq_getElem h]
def BX (l:List Ext):Bool:=P8 (Rf l) l.length&&decide (l.length≤6)
theorem AqG {α:Type} {p:α→Bool}:∀ {xs:List α} {i:Int},Gr p xs i= -1∨(i≤Gr p xs i∧Gr p xs i<i+xs.length)
 | [],i=> .inl rfl
 | x::r,i=>by
  by_cases hp:p x=true
  ·right;simp[Gr,hp];omega
  ·rcases AqG (p:=p) (xs:=r) (i:=i+1)with h | h
   ·left;simp[Gr,hp,h]
   ·right;simp[Gr,hp]at *;omega
theorem AsN {α:Type} {p:α→Bool}:∀ {xs:List α} {i:Int} {j:Nat},0≤i→(h:j<xs.length)→p xs[j]=true→(Gr p xs i<i+j↔(xs.take j).any p=true)
 | x::r,i,0,hi,h,hp=>by
  have:p x=true:=hp
  simp[Gr,this]
 | x::r,i,j+1,hi,h,hp=>by
  by_cases hx:p x=true
  ·simp[Gr,hx];omega
  ·have:=AsN (p:=p) (xs:=r) (i:=i+1) (j:=j) (by omega) (by simpa using h) (by simpa using hp)
   simp only[Gr,hx,List.take_succ_cons,List.any_cons,Bool.false_or]
   rw[←this]
   simp
   omega
theorem AfF {l:List Ext} {j:Nat} {t:Int}:(0≤Ij (l.take j) t)=((l.take j).any (EZ t)=true):=Ur (by omega)
theorem Ia {l:List Ext} {j:Nat} (h:j<l.length) (hn:Rf l j=false):BX l=false:=by
 unfold BX
 rw[AnP h hn];rfl
abbrev EW (R:Rel):Prop:=∀l:List Ext,Q8 l→R [.sl 1 2 l.length (l.flatMap Bl)] [] (B (BX l)) []
theorem Arj (D:Dn) (hI:Tg (D Bz)) (hX:NC (D Acj)) (hN:Gu (D Gj)):EW (Body D Rp):=by
 intro l hl
 have hll:=hl.1
 simp -implicitDefEqProofs
 refine Ae (fun k s=>∃j o0,j+k=l.length∧P8 (Rf l) j=true∧s=⟨[.sl 1 2 l.length (l.flatMap Bl),.undef,.undef,.undef,.sl 1 2 l.length (l.flatMap Bl),I l.length,I j,.undef,.undef],[o0]⟩) ?_ (l.length) _ ⟨0,.free,by simp,by simp,by simp⟩
 intro k s ⟨j,o0,hj,hr,hs⟩
 subst hs
 by_cases hjn:j<l.length
 ·have hw:IntKind.i64.wrap ((j:Int)+1)=(j+1:Nat):=by rw[Ac (by omega) (by omega)];simp
  have hst:=JW (Rf l) j
  have hq:=O5 hjn
  have hb:=Ld hl hjn
  rw[hr,Bool.true_and]at hst
  simp -implicitDefEqProofs [hjn]
  refine Aa (hI _ _ _) ?_
  by_cases h1:Ov l[j].tag 0 255
  rotate_left
  ·have e:=Ia hjn (by rw[hq];simp[O9,h1])
   simp -implicitDefEqProofs [h1,e]
  have hjl:j≤l.length:=by omega
  have hmin:min j l.length=j:=by omega
  simp -implicitDefEqProofs [hjn,hjl,hmin,h1]
  have hxx:=hX (l.take j) l[j].tag (by simp;unfold maxLen;omega)
  rw[List.length_take,hmin]at hxx
  refine Aa (hxx) ?_
  by_cases h4:(l.take j).any (EZ l[j].tag)=true
  ·have e:=Ia hjn (by rw[hq];simp only[h4];simp)
   have h4':0≤Ij (l.take j) l[j].tag:=by rw[AfF];exact h4
   simp -implicitDefEqProofs [hjn,h4',e]
  have h4':¬0≤Ij (l.take j) l[j].tag:=by rw[AfF];exact h4
  have h4f:(l.take j).any (EZ l[j].tag)=false:=by simpa using h4
  by_cases h2:l[j].body.length≤4
  rotate_left
  ·have e:=Ia hjn (by rw[hq];simp[O9,h2])
   have h2':(4:Int)<l[j].body.length:=by omega
   simp -implicitDefEqProofs [hjn,h4',h2',e]
  have h2':¬(4:Int)<l[j].body.length:=by omega
  simp -implicitDefEqProofs [hjn,h4',h2']
  refine Aa (hN _ _ _ (by unfold maxLen;omega)) ?_
  by_cases h3:allIn l[j].body 0 255=true
  rotate_left
  ·have e:=Ia hjn (by rw[hq];simp[O9,h3])
   simp -implicitDefEqProofs [hjn,h3,e]
  simp -implicitDefEqProofs [hjn,h3]
  exact⟨k-1,by omega,j+1,by omega,by rw[hst,hq,h4f];simp[O9,h1,h2,h3],by simp[hw]⟩
 ·obtain rfl:j=l.length:=by omega
  have e:BX l=decide (l.length≤6):=by unfold BX;rw[hr];rfl
  by_cases h5:l.length≤6
  ·have h5':(l.length:Int)≤6:=by omega
   simp -implicitDefEqProofs [e,h5,h5']
  ·have h5':¬(l.length:Int)≤6:=by omega
   simp -implicitDefEqProofs [e,h5,h5']
def Ao (l:List Ext):List Int:=l.map (·.tag)
theorem Aky {l:List Ext} {j:Nat} (h:j<l.length):Ao (l.take (j+1))=Ao (l.take j)++ [l[j].tag]:=by
 have e:l.take (j+1)=l.take j++ [l[j]]:=by simp
 unfold Ao
 rw[e,List.map_append];rfl
abbrev JH (R:Rel):Prop:=∀l:List Ext,l.length≤4194304→R [.sl 1 2 l.length (l.flatMap Bl)] [] (.sl 0 1 (Ao l).length (ints (Ao l))) []
theorem AuP (D:Dn):JH (Body D Um):=by
 intro l hl
 simp -implicitDefEqProofs
 refine Ae (fun k s=>∃j v3 o1 o2 o3,j+k=l.length∧s=⟨[.undef,.undef,.arr 4,v3,.sl 1 2 l.length (l.flatMap Bl),I l.length,I j,.undef],[.free,o1,o2,o3,.arr 1 0 (Ao (l.take j)).length (ints (Ao (l.take j)))]⟩) ?_ (l.length) _ ⟨0,.undef,.free,.free,.free,by simp,by simp[Ao]⟩
 intro k s ⟨j,v3,o1,o2,o3,hj,hs⟩
 subst hs
 by_cases hjn:j<l.length
 ·have hw:IntKind.i64.wrap ((j:Int)+1)=(j+1:Nat):=by rw[Ac (by omega) (by omega)];simp
  have hst:=Aky hjn
  have hlen:(Ao (l.take j)).length=j:=by simp[Ao];omega
  have hb:(j+1)*8≤1099511627776:=by omega
  simp -implicitDefEqProofs [hjn,hlen,hb]
  exact⟨k-1,by omega,j+1,by omega,by simp[hw],by rw[hst];simp[hlen],by rw[hst]⟩
 ·have e:l.take j=l:=List.take_of_length_le (by omega)
  simp -implicitDefEqProofs [hjn,e]
end Go.Eng.T
namespace Go.Eng.T
set_option maxRecDepth 20000
def kept (p:Int→Bool) (l:List Ext):List Ext:=l.filter fun x=>p x.tag
theorem Wd {p:Int→Bool} {l:List Ext} {j:Nat} (h:j<l.length):kept p (l.take (j+1))=kept p (l.take j)++(if p l[j].tag then [l[j]]else []):=AfM (p:=fun x:Ext=>p x.tag) h
theorem R6 {p:Int→Bool} {l:List Ext} {j:Nat} (h:l.length≤j):kept p (l.take j)=kept p l:=AbH h
theorem Sc {p:Int→Bool} {l:List Ext} {j:Nat}:(kept p (l.take j)).length≤j:=Akz
theorem Tc {l:List Ext} (h:Q8 l) (p:Int→Bool):Q8 (kept p l):=Art h _
theorem OU {p:Int→Bool} {l:List Ext} {j:Nat} (h:j<l.length) (hp:p l[j].tag=true):
 (kept p (l.take j)).flatMap Bl++ [.sc (.int .i64 l[j].tag),.sl 0 1 l[j].body.length (ints l[j].body)]=(kept p (l.take (j+1))).flatMap Bl:=by
 rw[Wd h,if_pos hp,List.flatMap_append];simp
theorem G7 {p:Int→Bool} {l:List Ext} {j:Nat} (h:j<l.length) (hp:p l[j].tag=true):(kept p (l.take (j+1))).length=(kept p (l.take j)).length+1:=by
 rw[Wd h,if_pos hp];simp
theorem SV {p:Int→Bool} {l:List Ext} {j:Nat} (h:j<l.length) (hp:¬p l[j].tag=true):kept p (l.take (j+1))=kept p (l.take j):=by
 rw[Wd h,if_neg hp,List.append_nil]
def Akv (caps:List V):Prop:=∀k,caps.any (m1 k)=false
theorem OX:Akv []:=fun _=>rfl
theorem Yv {fl:Nat} {cs:List V} {o:Nat} {r:List V} (h:Akv r):Akv (.rptr fl cs o::r):=fun k=>by
 have:=h k
 simp only[List.any_cons,this,m1,Bool.or_self]
theorem OW {k g:Nat} {caps:List V} (h:Akv caps):O8 k (.fn g caps)= .fn g caps:=by
 have:=h k
 simp only[O8,m3,m2,this]
 rfl
theorem VE {a b g:Nat} {caps:List V} (h:Akv caps):Za a b (.fn g caps)= .fn g caps:=by
 have:=h a
 simp only[Za,m3,m2,this]
 rfl
abbrev Kk (D:Dn) (R:Rel):Prop:=∀(l:List Ext) (g:Nat) (caps:List V) (p:Int→Bool),Q8 l→LG caps→Akv caps→(∀t:Int,D g (I t::caps) [] (B (p t)) [])→
 R [.sl 1 2 l.length (l.flatMap Bl),.fn g caps] [] (.sl 0 2 (kept p l).length ((kept p l).flatMap Bl)) []
theorem ApB (D:Dn):Kk D (Body D PL):=by
 intro l g caps p hl hc hno hp
 have hll:=hl.1
 simp -implicitDefEqProofs [↓OW hno,↓VE hno]
 refine Ae (fun k s=>∃j v4 o1 o2 o3 o4 o5,j+k=l.length∧s=⟨[.undef,.fn g caps,.undef,.arr 6,v4,.sl 1 2 l.length (l.flatMap Bl),I l.length,I j,.undef,.undef],[.free,o1,o2,o3,o4,o5,.arr 2 0 (kept p (l.take j)).length ((kept p (l.take j)).flatMap Bl)]⟩) ?_ (l.length) _ ⟨0,.undef,.free,.free,.free,.free,.free,by simp,by simp[kept,↓OW hno,↓VE hno]⟩
 intro k s ⟨j,v4,o1,o2,o3,o4,o5,hj,hs⟩
 subst hs
 by_cases hjn:j<l.length
 ·have hw:IntKind.i64.wrap ((j:Int)+1)=(j+1:Nat):=by rw[Ac (by omega) (by omega)];simp
  have hb:=Ld hl hjn
  have h1:l[j].body.length*8≤1099511627776:=by omega
  have hkl:=Sc (p:=p) (l:=l) (j:=j)
  have h2:((kept p (l.take j)).length+1)*32≤1099511627776:=by omega
  simp -implicitDefEqProofs [hjn,↓OW hno,↓VE hno,hc.1,hc.2.1]
  refine Aa (hp l[j].tag) ?_
  by_cases he:p l[j].tag=true
  ·have hst:=OU hjn he
   have hsl:=G7 hjn he
   simp -implicitDefEqProofs [he,hjn,↓OW hno,↓VE hno,h1,h2]
   exact⟨k-1,by omega,j+1,by omega,by simp[hw],by rw[hsl],by rw[←hst]⟩
  ·have hst:=SV hjn he
   simp -implicitDefEqProofs [he,↓OW hno,↓VE hno]
   exact⟨k-1,by omega,j+1,by omega,by simp[hw],by rw[hst],by rw[hst]⟩
 ·have e:=R6 (p:=p) (l:=l) (j:=j) (by omega)
  simp -implicitDefEqProofs [hjn,e]
abbrev ZL (R:Rel):Prop:=∀t:Int,R [I t] [] (B true) []
abbrev TG (R:Rel):Prop:=∀t:Int,R [I t] [] (B (!Aq t)) []
theorem AnQ (D:Dn):ZL (Body D AGH):=by
 intro t
 simp -implicitDefEqProofs
theorem Agg (D:Dn) (hR:EJ (D R4)):TG (Body D Jh):=by
 intro t
 simp -implicitDefEqProofs
 refine Aa (hR t) ?_
 simp -implicitDefEqProofs
theorem Aj5 (l:List Ext):kept (fun _=>true) l=l:=by simp[kept]
abbrev MV (R:Rel):Prop:=∀l:List Ext,Q8 l→R [.sl 1 2 l.length (l.flatMap Bl)] [] (.sl 0 2 l.length (l.flatMap Bl)) []
theorem Ari (D:Dn) (h1:ZL (D Sb)) (hK:Kk D (D II)):MV (Body D PS):=by
 intro l hl
 simp -implicitDefEqProofs
 refine Aa (hK l Sb [] (fun _=>true) hl FJ OX (fun t=>h1 t)) ?_
 simp -implicitDefEqProofs [Aj5]
def Hf (l:List Ext):List Ext:=kept (fun t=> !Aq t) l
def Eo (l:List Ext) (tags:List Int):List Ext:=kept (fun t=>decide (t∈tags)) l
abbrev FO (R:Rel):Prop:=∀l:List Ext,Q8 l→R [.sl 1 2 l.length (l.flatMap Bl)] [] (.sl 0 2 (Hf l).length ((Hf l).flatMap Bl)) []
theorem Ahw (D:Dn) (h1:TG (D Ou)) (hK:Kk D (D II)):FO (Body D KX):=by
 intro l hl
 simp -implicitDefEqProofs
 refine Aa (hK l Ou [] (fun t=> !Aq t) hl FJ OX (fun t=>h1 t)) ?_
 simp -implicitDefEqProofs [Hf]
abbrev KJ (R:Rel):Prop:=∀(l:List Ext) (tags:List Int),Q8 l→tags.length≤maxLen→R [.sl 1 2 l.length (l.flatMap Bl),.sl 1 1 tags.length (ints tags)] [] (.sl 0 2 (Eo l tags).length ((Eo l tags).flatMap Bl)) []
abbrev VT (R:Rel):Prop:=∀(t:Int) (tags:List Int),tags.length≤maxLen→R [I t,.rptr 1 [.sl 0 1 tags.length (ints tags)] 0] [] (B (decide (t∈tags))) []
theorem AgZ {a:List Int} {r:List V} (h:LG r):LG (.rptr 1 [.sl 0 1 a.length (ints a)] 0::r):=XW (fun H=>by simp) (fun H=>by simp) h
theorem ApN (D:Dn) (hH:Qw (D Be)):VT (Body D NJ):=by
 intro t tags hl
 simp -implicitDefEqProofs
 refine Aa (hH tags t hl) ?_
 simp -implicitDefEqProofs
theorem Apu (D:Dn) (h1:VT (D Uz)) (hK:Kk D (D II)):KJ (Body D Ri):=by
 intro l tags hl ht
 simp -implicitDefEqProofs
 refine Aa (hK l Uz _ (fun t=>decide (t∈tags)) hl (AgZ FJ) (Yv OX) (fun t=>h1 t tags ht)) ?_
 simp -implicitDefEqProofs [Eo]
theorem Jw (l:List Ext):(Ao l).length=l.length:=by simp[Ao]
end Go.Eng.T
namespace Go.Eng.T
set_option maxRecDepth 20000
abbrev InV (a b c:Int):Prop:=b≤a∧a≤c
def Jk (xs:List Int) (j:Nat):Bool:=(List.range j).all fun i=>decide (InV (xs.getD i 0) 1 9)&&(decide (i=0)||decide (xs.getD (i-1) 0<xs.getD i 0))
theorem QA (xs:List Int) (j:Nat):Jk xs (j+1)=(Jk xs j&&(decide (InV (xs.getD j 0) 1 9)&&(decide (j=0)||decide (xs.getD (j-1) 0<xs.getD j 0)))):=by
 unfold Jk
 rw[List.range_succ,List.all_append]
 simp
theorem Ws {xs:List Int} {j:Nat} (h:j<xs.length) (hn:Jk xs (j+1)=false):Jk xs xs.length=false:=by
 have:∀n,Jk xs (j+1+n)=false:=by
  intro n
  induction n with
  | zero=>exact hn
  | succ n ih=>rw[show j+1+(n+1)=(j+1+n)+1 by omega,QA,ih];rfl
 have:=this (xs.length-(j+1))
 rwa [show j+1+(xs.length-(j+1))=xs.length by omega]at this
theorem R7 {xs:List Int} {j:Nat} (h:j<xs.length):xs.getD j 0=xs[j]:=by simp[h]
def Ar (xs:List Int):Bool:=Jk xs xs.length&&decide (0<xs.length)
abbrev BG (R:Rel):Prop:=∀xs:List Int,xs.length≤maxLen→R [.sl 1 1 xs.length (ints xs)] [] (B (Ar xs)) []
theorem Ae1 (D:Dn) (hI:Tg (D CF)):BG (Body D K4):=by
 intro xs hl
 unfold maxLen at hl
 simp -implicitDefEqProofs
 refine Ae (fun k s=>∃j,j+k=xs.length∧Jk xs j=true∧s=⟨[.sl 1 1 xs.length (ints xs),.undef,.sc (.int .i64 j),.undef,.undef],[]⟩) ?_ xs.length _ ⟨0,by simp,by simp[Jk],by simp⟩
 intro k s ⟨j,hj,hr,hs⟩
 subst hs
 by_cases hjn:j<xs.length
 ·have hw:IntKind.i64.wrap ((j:Int)+1)=(j+1:Nat):=by rw[Ac (by omega) (by omega)];simp
  have hst:=QA xs j
  rw[hr,Bool.true_and,R7 hjn]at hst
  simp -implicitDefEqProofs [hjn]
  refine Aa (hI _ _ _) ?_
  by_cases h1:InV xs[j] 1 9
  rotate_left
  ·have e:Ar xs=false:=by unfold Ar;rw[Ws hjn (by rw[hst];simp[h1])];rfl
   simp -implicitDefEqProofs [h1,e]
  by_cases h0:j=0
  ·subst h0
   simp -implicitDefEqProofs [h1]
   exact⟨k-1,by omega,1,by omega,by rw[hst];simp[h1],by simpa using hw⟩
  ·have hw2:IntKind.i64.wrap ((j:Int)-1)=((j-1:Nat):Int):=by rw[Ac (by omega) (by omega)];omega
   have h2:(0:Int)<j:=by omega
   have h2':0<j:=by omega
   have h3:j-1<xs.length:=by omega
   rw[R7 h3]at hst
   by_cases h4:xs[j-1]<xs[j]
   ·have h4':¬xs[j]≤xs[j-1]:=by omega
    simp -implicitDefEqProofs [h1,h2,h2',hw2,h3,hjn,h4']
    exact⟨k-1,by omega,j+1,by omega,by rw[hst];simp[h1,h0,h4],by simp[hw]⟩
   ·have e:Ar xs=false:=by unfold Ar;rw[Ws hjn (by rw[hst];simp[h1,h0,h4])];rfl
    have h4':xs[j]≤xs[j-1]:=by omega
    simp -implicitDefEqProofs [h1,h2,h2',hw2,h3,hjn,h4',e]
 ·obtain rfl:j=xs.length:=by omega
  have e:Ar xs=decide (0<xs.length):=by unfold Ar;rw[hr];rfl
  by_cases h5:0<xs.length
  ·have h5':(0:Int)<xs.length:=by omega
   simp -implicitDefEqProofs [e,h5,h5']
  ·have h5':¬(0:Int)<xs.length:=by omega
   simp -implicitDefEqProofs [e,h5,h5']
theorem Ahf (D:Dn) (hI:Tg (D Bz)):BG (Body D KQ):=by
 intro xs hl
 unfold maxLen at hl
 simp -implicitDefEqProofs
 refine Ae (fun k s=>∃j v2 v3,j+k=xs.length∧Jk xs j=true∧s=⟨[.sl 1 1 xs.length (ints xs),.undef,v2,v3,.sl 1 1 xs.length (ints xs),.sc (.int .i64 xs.length),.sc (.int .i64 j),.undef,.undef],[]⟩) ?_ xs.length _ ⟨0,.undef,.undef,by simp,by simp[Jk],by simp⟩
 intro k s ⟨j,v2,v3,hj,hr,hs⟩
 subst hs
 by_cases hjn:j<xs.length
 ·have hw:IntKind.i64.wrap ((j:Int)+1)=(j+1:Nat):=by rw[Ac (by omega) (by omega)];simp
  have hst:=QA xs j
  rw[hr,Bool.true_and,R7 hjn]at hst
  simp -implicitDefEqProofs [hjn]
  refine Aa (hI _ _ _) ?_
  by_cases h1:InV xs[j] 1 9
  rotate_left
  ·have e:Ar xs=false:=by unfold Ar;rw[Ws hjn (by rw[hst];simp[h1])];rfl
   simp -implicitDefEqProofs [h1,e]
  by_cases h0:j=0
  ·subst h0
   simp -implicitDefEqProofs [h1]
   exact⟨k-1,by omega,1,by omega,by rw[hst];simp[h1],by simpa using hw⟩
  ·have hw2:IntKind.i64.wrap ((j:Int)-1)=((j-1:Nat):Int):=by rw[Ac (by omega) (by omega)];omega
   have h2:(0:Int)<j:=by omega
   have h2':0<j:=by omega
   have h3:j-1<xs.length:=by omega
   rw[R7 h3]at hst
   by_cases h4:xs[j-1]<xs[j]
   ·have h4':¬xs[j]≤xs[j-1]:=by omega
    simp -implicitDefEqProofs [h1,h2,h2',hw2,h3,hjn,h4']
    exact⟨k-1,by omega,j+1,by omega,by rw[hst];simp[h1,h0,h4],by simp[hw]⟩
   ·have e:Ar xs=false:=by unfold Ar;rw[Ws hjn (by rw[hst];simp[h1,h0,h4])];rfl
    have h4':xs[j]≤xs[j-1]:=by omega
    simp -implicitDefEqProofs [h1,h2,h2',hw2,h3,hjn,h4',e]
 ·obtain rfl:j=xs.length:=by omega
  have e:Ar xs=decide (0<xs.length):=by unfold Ar;rw[hr];rfl
  by_cases h5:0<xs.length
  ·have h5':(0:Int)<xs.length:=by omega
   simp -implicitDefEqProofs [e,h5,h5']
  ·have h5':¬(0:Int)<xs.length:=by omega
   simp -implicitDefEqProofs [e,h5,h5']
theorem Kt {p:Int→Bool} {xs:List Int} {j:Nat} (h:j<xs.length):(xs.take (j+1)).filter p=(xs.take j).filter p++(if p xs[j]then [xs[j]]else []):=by
 have e:xs.take (j+1)=xs.take j++ [xs[j]]:=by simp
 rw[e,List.filter_append]
 by_cases hp:p xs[j]=true<;>simp[hp]
theorem K5 {p:Int→Bool} {xs:List Int} {j:Nat} (h:xs.length≤j):(xs.take j).filter p=xs.filter p:=by rw[List.take_of_length_le h]
theorem Nb {p:Int→Bool} {xs:List Int} {j:Nat}:((xs.take j).filter p).length≤j:=by
 have:=List.length_filter_le p (xs.take j)
 have h2:(xs.take j).length≤j:=by simp;omega
 omega
def common (a b:List Int):List Int:=a.filter fun v=>decide (v∈b)
def AfB (a:List Int) (v:Int):List Int:=a.filter fun x=> !decide (x=v)
abbrev Kc (R:Rel):Prop:=∀a b:List Int,a.length≤4194304→b.length≤maxLen→R [.sl 1 1 a.length (ints a),.sl 1 1 b.length (ints b)] [] (.sl 0 1 (common a b).length (ints (common a b))) []
abbrev AHI (R:Rel):Prop:=∀(a:List Int) (v:Int),a.length≤4194304→R [.sl 1 1 a.length (ints a),.sl 1 1 1 (ints [v])] [] (.sl 0 1 (AfB a v).length (ints (AfB a v))) []
theorem Anl (D:Dn) (hH:Qw (D Ii)):Kc (Body D Pq):=by
 intro a b ha hb'
 have hres:common a b=a.filter (fun v=>decide (v∈b)):=rfl
 rw[hres]
 simp -implicitDefEqProofs
 refine Ae (fun k s=>∃j o1 o2,j+k=a.length∧s=⟨[.sl 1 1 a.length (ints a),.sl 1 1 b.length (ints b),.undef,.arr 3,.sc (.int .i64 j),.undef,.undef],[.free,o1,o2,.arr 1 0 ((a.take j).filter (fun v=>decide (v∈b))).length (ints ((a.take j).filter (fun v=>decide (v∈b))))]⟩) ?_ a.length _ ⟨0,by simp⟩
 intro k s ⟨j,o1,o2,hj,hs⟩
 subst hs
 by_cases hjn:j<a.length
 ·have hw:IntKind.i64.wrap ((j:Int)+1)=(j+1:Nat):=by rw[Ac (by omega) (by omega)];simp
  have hst:=Kt (p:=fun v=>decide (v∈b)) hjn
  have hln:=Nb (p:=fun v=>decide (v∈b)) (xs:=a) (j:=j)
  have hb:(((a.take j).filter (fun v=>decide (v∈b))).length+1)*8≤1099511627776:=by omega
  simp -implicitDefEqProofs [hjn]
  refine Aa (hH b _ hb') ?_
  by_cases h1:a[j]∈b
  ·rw[if_pos (by simp[h1])]at hst
   simp -implicitDefEqProofs [h1,hjn,hb]
   exact⟨k-1,by omega,j+1,by omega,by simp[hw],by rw[hst];simp,by rw[hst]⟩
  ·rw[if_neg (by simp[h1]),List.append_nil]at hst
   simp -implicitDefEqProofs [h1,hjn,hb]
   exact⟨k-1,by omega,j+1,by omega,by simp[hw],by rw[hst],by rw[hst]⟩
 ·have hx:=K5 (p:=fun v=>decide (v∈b)) (xs:=a) (j:=j) (by omega)
  simp -implicitDefEqProofs [hjn,hx]
theorem Am8 (D:Dn) (hH:Qw (D Be)):Kc (Body D Qe):=by
 intro a b ha hb'
 have hres:common a b=a.filter (fun v=>decide (v∈b)):=rfl
 rw[hres]
 simp -implicitDefEqProofs
 refine Ae (fun k s=>∃j v4 o1 o2,j+k=a.length∧s=⟨[.undef,.sl 1 1 b.length (ints b),.undef,.arr 3,v4,.sl 1 1 a.length (ints a),.sc (.int .i64 a.length),.sc (.int .i64 j),.undef,.undef],[.free,o1,o2,.arr 1 0 ((a.take j).filter (fun v=>decide (v∈b))).length (ints ((a.take j).filter (fun v=>decide (v∈b))))]⟩) ?_ a.length _ ⟨0,by simp⟩
 intro k s ⟨j,v4,o1,o2,hj,hs⟩
 subst hs
 by_cases hjn:j<a.length
 ·have hw:IntKind.i64.wrap ((j:Int)+1)=(j+1:Nat):=by rw[Ac (by omega) (by omega)];simp
  have hst:=Kt (p:=fun v=>decide (v∈b)) hjn
  have hln:=Nb (p:=fun v=>decide (v∈b)) (xs:=a) (j:=j)
  have hb:(((a.take j).filter (fun v=>decide (v∈b))).length+1)*8≤1099511627776:=by omega
  simp -implicitDefEqProofs [hjn]
  refine Aa (hH b _ hb') ?_
  by_cases h1:a[j]∈b
  ·rw[if_pos (by simp[h1])]at hst
   simp -implicitDefEqProofs [h1,hjn,hb]
   exact⟨k-1,by omega,j+1,by omega,by simp[hw],by rw[hst];simp,by rw[hst]⟩
  ·rw[if_neg (by simp[h1]),List.append_nil]at hst
   simp -implicitDefEqProofs [h1,hjn,hb]
   exact⟨k-1,by omega,j+1,by omega,by simp[hw],by rw[hst],by rw[hst]⟩
 ·have hx:=K5 (p:=fun v=>decide (v∈b)) (xs:=a) (j:=j) (by omega)
  simp -implicitDefEqProofs [hjn,hx]
theorem ANT (D:Dn) (hH:Qw (D Be)):AHI (Body D Q5):=by
 intro a v ha
 have hres:AfB a v=a.filter (fun x=> !decide (x=v)):=rfl
 rw[hres]
 simp -implicitDefEqProofs
 refine Ae (fun k s=>∃j v4 o1 o2,j+k=a.length∧s=⟨[.undef,.sl 1 1 1 (ints [v]),.undef,.arr 3,v4,.sl 1 1 a.length (ints a),.sc (.int .i64 a.length),.sc (.int .i64 j),.undef,.undef],[.free,o1,o2,.arr 1 0 ((a.take j).filter (fun x=> !decide (x=v))).length (ints ((a.take j).filter (fun x=> !decide (x=v))))]⟩) ?_ a.length _ ⟨0,by simp⟩
 intro k s ⟨j,v4,o1,o2,hj,hs⟩
 subst hs
 by_cases hjn:j<a.length
 ·have hw:IntKind.i64.wrap ((j:Int)+1)=(j+1:Nat):=by rw[Ac (by omega) (by omega)];simp
  have hst:=Kt (p:=fun x=> !decide (x=v)) hjn
  have hln:=Nb (p:=fun x=> !decide (x=v)) (xs:=a) (j:=j)
  have hb:(((a.take j).filter (fun x=> !decide (x=v))).length+1)*8≤1099511627776:=by omega
  simp -implicitDefEqProofs [hjn]
  refine Aa (hH [v] _ (by unfold maxLen;simp)) ?_
  by_cases h1:a[j]=v
  ·rw[if_neg (by simp[h1]),List.append_nil]at hst
   simp -implicitDefEqProofs [h1,hjn,hb]
   exact⟨k-1,by omega,j+1,by omega,by simp[hw],by rw[hst],by rw[hst]⟩
  ·rw[if_pos (by simp[h1])]at hst
   simp -implicitDefEqProofs [h1,hjn,hb]
   exact⟨k-1,by omega,j+1,by omega,by simp[hw],by rw[hst];simp,by rw[hst]⟩
 ·have hx:=K5 (p:=fun x=> !decide (x=v)) (xs:=a) (j:=j) (by omega)
  simp -implicitDefEqProofs [hjn,hx]
end Go.Eng.T
namespace Go.Eng.T
set_option maxRecDepth 20000
def hB (h:Hello):Prop:=h.versions.length≤4194304∧Q8 h.exts
def AP (h:Hello):Bool:=Ar h.versions&&BX h.exts
abbrev Dg (R:Rel):Prop:=∀h:Hello,hB h→R [arg (Ce h)] [] (B (AP h)) []
theorem Ars (D:Dn) (hA:BG (D FP)) (hE:EW (D Js)):Dg (Body D RA):=by
 intro h hh
 simp -implicitDefEqProofs
 refine Aa (hA _ (by have:=hh.1;unfold maxLen;omega)) ?_
 by_cases h1:Ar h.versions=true
 rotate_left
 ·simp -implicitDefEqProofs [h1,AP]
 simp -implicitDefEqProofs [h1]
 refine Aa (hE _ hh.2) ?_
 simp -implicitDefEqProofs [h1,AP]
abbrev Jz (R:Rel):Prop:=∀h:Hello,hB h→R [arg (Ce h)] [] (.agg (Ce h)) []
theorem AmN (D:Dn) (hE:MV (D VI)):Jz (Body D Nz):=by
 intro h hh
 have h1:h.versions.length*8≤1099511627776:=by have:=hh.1;omega
 simp -implicitDefEqProofs [h1]
 refine Aa (hE _ hh.2) ?_
 simp -implicitDefEqProofs
def lossy (b:EK) (x:Ext):Bool:=decide (x.tag∈b.drops)||(b.lists&&(!decide (x.tag∈b.strips)&& !decide (Ov x.tag 1 3)))
def Aii (vs:List Int):Int:=vs.getLastD 0
def Jl (b:EK) (h:Hello):Bool:=(decide (0<b.limit)&&decide (b.limit<Aii h.versions))||h.exts.any (lossy b)
def stays (b:EK) (t:Int):Bool:= !decide (t∈b.strips)
def Ay:Hello:=⟨[],[]⟩
def Ba (b:EK) (h:Hello):Hello×Bool:=if ET b&&(AP h&& !Jl b h)then(⟨h.versions,kept (stays b) h.exts⟩,true)else(Ay,false)
abbrev Nl (R:Rel):Prop:=∀(b:EK) (h:Hello),Kr b→hB h→R [arg (Cz b),arg (Ce h)] [] (.tup [.agg (Ce (Ba b h).1),B (Ba b h).2]) []
theorem Pj {xs:List Int} (h:Ar xs=true):0<xs.length:=by
 unfold Ar at h
 simp only[Bool.and_eq_true,decide_eq_true_eq]at h
 exact h.2
theorem Ams {xs:List Int} (h:xs.length-1<xs.length):Aii xs=xs[xs.length-1]:=by
 unfold Aii
 rw[List.getLastD_eq_getLast?,List.getLast?_eq_getElem?,List.getElem?_eq_getElem h];rfl
abbrev V5 (R:Rel):Prop:=∀(t:Int) (b:EK),Kr b→R [I t,.rptr 1 (Cz b) 0] [] (B (stays b t)) []
theorem Aqv (D:Dn) (hH:Qw (D Be)):V5 (Body D NH):=by
 intro t b hb
 simp -implicitDefEqProofs
 refine Aa (hH b.strips t hb.2) ?_
 simp -implicitDefEqProofs [stays]
abbrev AeI (R:Rel):Prop:=∀(x:Ext) (b:EK),Kr b→R [arg (Bl x),.rptr 1 (Cz b) 0] [] (B (lossy b x)) []
theorem AxV (D:Dn) (hH:Qw (D Be)) (hI:Tg (D Bz)):AeI (Body D RD):=by
 intro x b hb
 simp -implicitDefEqProofs
 refine Aa (hH b.drops x.tag hb.1) ?_
 by_cases g1:x.tag∈b.drops
 ·simp -implicitDefEqProofs [g1,lossy]
 by_cases g3:b.lists=true
 rotate_left
 ·simp -implicitDefEqProofs [g1,g3,lossy]
 simp -implicitDefEqProofs [g1,g3]
 refine Aa (hH b.strips x.tag hb.2) ?_
 by_cases g2:x.tag∈b.strips
 ·simp -implicitDefEqProofs [g1,g2,g3,lossy]
 simp -implicitDefEqProofs [g2]
 refine Aa (hI _ _ _) ?_
 simp -implicitDefEqProofs [g1,g2,g3,lossy]
def AAY (xs:List Int):Int:=xs.foldl max (xs.headD 0)
abbrev ACI (R:Rel):Prop:=∀xs:List Int,0<xs.length→xs.length≤4194304→R [.sl 1 1 xs.length (ints xs)] [] (I (AAY xs)) []
abbrev ArD (R:Rel):Prop:=∀xs:List Int,xs.length≤4194304→R [.sl 1 1 xs.length (ints xs)] [] (.sl 0 1 xs.length (ints xs)) []
abbrev AkR (R:Rel):Prop:=∀(b:EK) (h:Hello),Kr b→hB h→ET b=true→Ar h.versions=true→R [arg (Cz b),arg (Ce h)] [] (B (Jl b h)) []
theorem Aag:∀(xs:List Int) (a:Int),(∀x,x∈xs→a≤x)→(∀i,(h:i+1<xs.length)→xs[i]≤xs[i+1])→xs.foldl max a=(xs.getLast?.getD a)
 | [],a,_,_=>rfl
 | x::r,a,h1,h2=>by
  have hx:=h1 x (by simp)
  have hr:∀y,y∈r→x≤y:=by
   intro y hy
   obtain⟨n,hn,rfl⟩:=List.getElem_of_mem hy
   have key:∀m,(hm:m<r.length)→x≤r[m]:=by
    intro m
    induction m with
    | zero=>intro hm;have:=h2 0 (by simp;omega);simpa using this
    | succ m ih=>
     intro hm
     have h3:=ih (by omega)
     have:=h2 (m+1) (by simp;omega)
     simp only[List.getElem_cons_succ]at this
     omega
   exact key n hn
  have ih:=Aag r x hr (fun i h=>by have:=h2 (i+1) (by simp;omega);simpa using this)
  simp only[List.foldl_cons]
  rw[show max a x=x by omega,ih]
  cases r with
  | nil=>rfl
  | cons y s=>simp[List.getLast?_cons_cons,List.getLast?_cons]
theorem Al0 {xs:List Int} (h:Ar xs=true) {i:Nat} (hi:i+1<xs.length):xs[i]<xs[i+1]:=by
 unfold Ar Jk at h
 simp only[Bool.and_eq_true,List.all_eq_true,List.mem_range]at h
 have:=(h.1 (i+1) hi).2
 rw[R7 hi,show i+1-1=i by omega,R7 (by omega)]at this
 simpa using this
theorem AtS {xs:List Int} (h:Ar xs=true):AAY xs=Aii xs:=by
 cases xs with
 | nil=>rfl
 | cons x r=>
  unfold AAY Aii
  simp only[List.headD_cons,List.foldl_cons]
  rw[show max x x=x by omega,Aag r x ?_ ?_]
  ·cases r with
   | nil=>rfl
   | cons y s=>simp[List.getLastD_eq_getLast?,List.getLast?_cons_cons,List.getLast?_cons]
  ·intro y hy
   obtain⟨n,hn,rfl⟩:=List.getElem_of_mem hy
   induction n with
   | zero=>have:=Al0 h (i:=0) (by simp;omega);simp at this;omega
   | succ m ih=>
    have h3:=ih (by omega) (List.getElem_mem _)
    have:=Al0 h (i:=m+1) (by simp;omega)
    simp only[List.getElem_cons_succ]at this
    omega
  ·intro i hi
   have:=Al0 h (i:=i+1) (by simp;omega)
   simp only[List.getElem_cons_succ]at this
   omega
theorem Abc {b:EK} {r:List V} (h:LG r):LG (.rptr 1 (Cz b) 0::r):=XW (fun H=>by simp) (fun H=>by simp) h
theorem AzB (D:Dn) (hM:ACI (D TI)) (h1:AeI (D RS)) (hC:I5 D (D GK)):AkR (Body D VL):=by
 intro b h hb hh hbox hver
 obtain⟨hv,hx⟩:=hh
 have hll:=hx.1
 have hpos:=Pj hver
 have hlim:0≤b.limit:=by unfold ET at hbox;simp only[Bool.and_eq_true,decide_eq_true_eq]at hbox;exact hbox.1.1.1.1.1
 by_cases h0:b.limit=0
 ·obtain⟨lim,dr,st,li⟩:=b
  dsimp only at h0
  subst h0
  simp -implicitDefEqProofs
  refine Aa (hC h.exts RS _ (lossy ⟨0,dr,st,li⟩) (by unfold maxLen;omega) (Abc (b:=⟨0,dr,st,li⟩) FJ) (fun j hj=>h1 h.exts[j] ⟨0,dr,st,li⟩ hb)) ?_
  simp -implicitDefEqProofs [Jl]
 ·have hn:0<b.limit:=by omega
  simp -implicitDefEqProofs [h0]
  refine Aa (hM h.versions hpos hv) ?_
  rw[AtS hver]
  by_cases h4:b.limit<Aii h.versions
  ·simp -implicitDefEqProofs [h0,h4,Jl,hn]
  ·simp -implicitDefEqProofs [h0,h4]
   refine Aa (hC h.exts RS _ (lossy b) (by unfold maxLen;omega) (Abc FJ) (fun j hj=>h1 h.exts[j] b hb)) ?_
   simp -implicitDefEqProofs [Jl,hn,h4]
theorem Aru (D:Dn) (hX:RB (D Acr)) (hE:Dg (D FY)) (hL:AkR (D Am5)) (hC:ArD (D Rc)) (h1':V5 (D Uy)) (hK:Kk D (D II)):Nl (Body D Rn):=by
 intro b h hb hh
 simp -implicitDefEqProofs
 refine Aa (hX b hb) ?_
 by_cases h1:ET b=true
 rotate_left
 ·simp -implicitDefEqProofs [h1,Ba,Ay]
 simp -implicitDefEqProofs [h1]
 refine Aa (hE h hh) ?_
 by_cases h2:AP h=true
 rotate_left
 ·simp -implicitDefEqProofs [h2,Ba,Ay]
 have hver:Ar h.versions=true:=by unfold AP at h2;simp only[Bool.and_eq_true]at h2;exact h2.1
 simp -implicitDefEqProofs [h2]
 refine Aa (hL b h hb hh h1 hver) ?_
 by_cases h3:Jl b h=true
 ·simp -implicitDefEqProofs [h3,Ba,Ay]
 have e:Ba b h=(⟨h.versions,kept (stays b) h.exts⟩,true):=by simp[Ba,h1,h2,h3]
 simp -implicitDefEqProofs [h3]
 refine Aa (hC h.versions hh.1) ?_
 simp -implicitDefEqProofs
 refine Aa (hK h.exts Uy _ (stays b) hh.2 (Abc FJ) (Yv OX) (fun t=>h1' t b hb)) ?_
 simp -implicitDefEqProofs [e]
end Go.Eng.T
namespace Go.Eng.T
set_option maxRecDepth 20000
def EQ:List EK→Hello→Hello×Bool
 | [],h=>(h,true)
 | b::r,h=>if(Ba b h).2=true then EQ r (Ba b h).1 else(Ay,false)
theorem Acy {path:List EK} {j:Nat} {x:Hello} (h:j<path.length):EQ (path.drop j) x=if(Ba path[j] x).2=true then EQ (path.drop (j+1)) (Ba path[j] x).1 else(Ay,false):=by
 rw[List.drop_eq_getElem_cons h];rfl
theorem AgS {path:List EK} {j:Nat} {x:Hello} (h:path.length≤j):EQ (path.drop j) x=(x,true):=by rw[List.drop_eq_nil_of_le h];rfl
def AZ (path:List EK) (h:Hello):Hello×Bool:=if decide (path.length≤4)&&AP h then EQ path h else(Ay,false)
theorem Afz:hB Ay:=⟨by simp[Ay],Z4⟩
theorem Ak0 {b:EK} {h:Hello} (hh:hB h):hB (Ba b h).1:=by
 unfold Ba
 split
 ·exact⟨hh.1,Tc hh.2 _⟩
 ·exact Afz
theorem Aqq {b:EK} {h:Hello} (hk:(Ba b h).2=false):(Ba b h).1=Ay:=by
 unfold Ba at *
 split at hk
 ·cases hk
 ·rename_i hc;rw[if_neg hc]
abbrev EN (R:Rel):Prop:=∀(path:List EK) (h:Hello),lnS Kr path→hB h→R [.sl 1 4 path.length (path.flatMap Cz),arg (Ce h)] [] (.tup [.agg (Ce (AZ path h).1),B (AZ path h).2]) []
theorem AoO (D:Dn) (hE:Dg (D FY)) (hC:Jz (D Ux)) (hP:Nl (D Aiz)):EN (Body D Pz):=by
 intro path h hb hh
 have hl:=hb.1
 unfold maxLen at hl
 simp -implicitDefEqProofs
 refine Aa (hE h hh) ?_
 by_cases h2:AP h=true
 rotate_left
 ·simp -implicitDefEqProofs [h2,AZ,Ay]
 by_cases h1:path.length≤4
 rotate_left
 ·have h1':(4:Int)<path.length:=by omega
  simp -implicitDefEqProofs [h2,h1',h1,AZ,Ay]
 have h1':¬(4:Int)<path.length:=by omega
 have e:AZ path h=EQ path h:=by simp[AZ,h1,h2]
 rw[e]
 simp -implicitDefEqProofs [h2,h1']
 refine Aa (hC h hh) ?_
 simp -implicitDefEqProofs
 refine Ae (fun k s=>∃j x ok o5 o6,j+k=path.length∧hB x∧EQ path h=(if ok=true then EQ (path.drop j) x else(Ay,false))∧(ok=false→x=Ay)∧s=⟨[.sl 1 4 path.length (path.flatMap Cz),.undef,.undef,.ptr 1 0,.undef,.ptr 4 0,B ok,I j,.undef,.undef],[.var ((Ce h).map (AX 1)),.var [.nil 1,.nil 2],.free,.free,.var [.arr 7,.arr 8],o5,o6,.arr 1 0 x.versions.length (ints x.versions),.arr 2 0 x.exts.length (x.exts.flatMap Bl)]⟩) ?_ (path.length) _ ⟨0,h,true,.free,.free,by simp,hh,by simp,by simp,by simp⟩
 intro k s ⟨j,x,ok,o5,o6,hj,hx,hg,hno,hs⟩
 subst hs
 by_cases hok:ok=true
 rotate_left
 ·rw[if_neg hok]at hg
  have hok':ok=false:=by simpa using hok
  have hno':=hno hok'
  subst hok'
  subst hno'
  by_cases hjn:j<path.length
  ·simp -implicitDefEqProofs [hjn,hg,Ay]
  ·simp -implicitDefEqProofs [hjn,hg,Ay]
 rw[if_pos hok]at hg
 subst hok
 by_cases hjn:j<path.length
 ·have hw:IntKind.i64.wrap ((j:Int)+1)=(j+1:Nat):=by rw[Ac (by omega) (by omega)];simp
  rw[Acy hjn]at hg
  simp -implicitDefEqProofs [hjn]
  refine Aa (hP path[j] x (hb.2 j hjn) hx) ?_
  have hx':=Ak0 (b:=path[j]) hx
  have hno':=Aqq (b:=path[j]) (h:=x)
  generalize Ba path[j] x=r at hg hx' hno'
  simp -implicitDefEqProofs
  refine⟨k-1,by omega,j+1,by omega,r.1,hx',?_⟩
  simp[hw,hg,hno']
  by_cases hr:r.2=true
  ·right;exact⟨fun h=>by simp[hr]at h,hr⟩
  ·left;exact⟨fun h=>absurd h hr,hno' (by simpa using hr),by simpa using hr⟩
 ·rw[AgS (by omega)]at hg
  simp -implicitDefEqProofs [hjn,hg]
def AGf (b:EK):Bool:=decide (b.limit=0)&&(decide (b.drops.length=0)&&(decide (b.strips.length=0)&& !b.lists))
abbrev AI4 (R:Rel):Prop:=∀b:EK,Kr b→R [arg (Cz b)] [] (B (AGf b)) []
theorem AN3 {b:EK} (h:AGf b=true):ET b=true:=by
 unfold AGf at h
 simp only[Bool.and_eq_true,decide_eq_true_eq]at h
 obtain⟨h1,h2,h3,_⟩:=h
 have h2':=List.eq_nil_of_length_eq_zero h2
 have h3':=List.eq_nil_of_length_eq_zero h3
 simp[ET,h1,h2',h3',allIn]
theorem ANb (D:Dn):AI4 (Body D AHz):=by
 intro b hb
 by_cases g1:b.limit=0
 rotate_left
 ·simp -implicitDefEqProofs [g1,AGf,Anu]
 by_cases g2:b.drops.length=0
 rotate_left
 ·have g2':¬(b.drops.length:Int)=0:=by omega
  simp -implicitDefEqProofs [g1,g2,g2',AGf,Anu]
 have g2':(b.drops.length:Int)=0:=by omega
 by_cases g3:b.strips.length=0
 rotate_left
 ·have g3':¬(b.strips.length:Int)=0:=by omega
  simp -implicitDefEqProofs [g1,g2,g2',g3,g3',AGf,Anu]
 have g3':(b.strips.length:Int)=0:=by omega
 simp -implicitDefEqProofs [g1,g2,g2',g3,g3',AGf,Anu]
def AF1 (path:List EK):Bool:=decide (path.length≤4)&&path.all AGf
abbrev AHb (R:Rel):Prop:=∀path:List EK,lnS Kr path→R [.sl 1 4 path.length (path.flatMap Cz)] [] (B (AF1 path)) []
theorem SF {α:Type} {p:α→Bool} {xs:List α} {j:Nat} (h:j<xs.length) (hp:p xs[j]=false):xs.all p=false:=List.all_eq_false.2 ⟨_,List.getElem_mem h,by simp[hp]⟩
theorem Vz {α:Type} {p:α→Bool} {xs:List α} {j:Nat} (h:j<xs.length):(xs.take (j+1)).all p=((xs.take j).all p&&p xs[j]):=by
 have e:xs.take (j+1)=xs.take j++ [xs[j]]:=by simp
 rw[e,List.all_append];simp
theorem ZW {α:Type} {p:α→Bool} {xs:List α} {j:Nat} (h:xs.length≤j):(xs.take j).all p=xs.all p:=by rw[List.take_of_length_le h]
abbrev AGM (R:Rel):Prop:=∀b:EK,Kr b→R [arg (Cz b)] [] (B (!AGf b)) []
theorem AKB (D:Dn) (hC:AI4 (D AyS)):AGM (Body D AGm):=by
 intro b hb
 simp -implicitDefEqProofs
 refine Aa (hC b hb) ?_
 simp -implicitDefEqProofs
theorem AKI (D:Dn) (h1:AGM (D Apo)) (hC:IU D (D GQ)):AHb (Body D AGv):=by
 intro path hb
 have hl:=hb.1
 by_cases g1:path.length≤4
 rotate_left
 ·have g1':¬(path.length:Int)≤4:=by omega
  simp -implicitDefEqProofs [g1',g1,AF1]
 have g1':(path.length:Int)≤4:=by omega
 simp -implicitDefEqProofs [g1']
 refine Aa (hC path Apo [] (fun b=> !AGf b) hl FJ (fun j hj=>h1 path[j] (hb.2 j hj))) ?_
 have e:(path.any fun b=> !AGf b)= !path.all AGf:=by rw[List.all_eq_not_any_not];simp
 rw[e]
 generalize hq:path.all AGf=q
 simp -implicitDefEqProofs [AF1,g1,hq]
abbrev Fq (R:Rel):Prop:=∀xs:List Int,xs.length≤4194304→R [.sl 1 1 xs.length (ints xs)] [] (.agg (Ce ⟨xs,[]⟩)) []
theorem Ait (D:Dn):Fq (Body D Md):=by
 intro xs h
 have h1:xs.length*8≤1099511627776:=by omega
 simp -implicitDefEqProofs [h1]
def isOpen (path:List EK) (vs:List Int):Bool:=Ar vs&&(AZ path ⟨vs.take 1,[]⟩).2
abbrev FT (R:Rel):Prop:=∀(path:List EK) (vs:List Int),lnS Kr path→vs.length≤4194304→R [.sl 1 4 path.length (path.flatMap Cz),.sl 1 1 vs.length (ints vs)] [] (B (isOpen path vs)) []
theorem Aix (D:Dn) (hA:BG (D FP)) (hH:Fq (D SY)) (hP:EN (D KE)):FT (Body D L8):=by
 intro path vs hb hv
 simp -implicitDefEqProofs
 refine Aa (hA vs (by unfold maxLen;omega)) ?_
 by_cases h1:Ar vs=true
 rotate_left
 ·simp -implicitDefEqProofs [h1,isOpen]
 have hpos:=Pj h1
 have h1l:(1:Int)≤vs.length:=by omega
 have h1n:1≤vs.length:=by omega
 have hlen:(vs.take 1).length=1:=by simp;omega
 have hmin:min 1 vs.length=1:=by omega
 simp -implicitDefEqProofs [h1,h1l,h1n]
 have hh:=hH (vs.take 1) (by omega)
 rw[hlen]at hh
 refine Aa (hh) ?_
 simp -implicitDefEqProofs [hmin]
 have hp:=hP path ⟨vs.take 1,[]⟩ hb ⟨by simp;omega,Z4⟩
 simp -implicitDefEqProofs [hmin]at hp
 refine Aa (hp) ?_
 simp -implicitDefEqProofs [isOpen,h1]
def GR (path:List EK) (v:Int):Bool:= !(AZ path ⟨[v],[]⟩).2
def Ak (path:List EK) (vs:List Int):List Int:=if Ar vs=true then vs.filter (GR path)else []
abbrev DY (R:Rel):Prop:=∀(path:List EK) (vs:List Int),lnS Kr path→vs.length≤4194304→R [.sl 1 4 path.length (path.flatMap Cz),.sl 1 1 vs.length (ints vs)] [] (.sl 0 1 (Ak path vs).length (ints (Ak path vs))) []
theorem Ad9 (D:Dn) (hA:BG (D FP)) (hH:Fq (D SY)) (hP:EN (D KE)):DY (Body D J9):=by
 intro path vs hb hv
 simp -implicitDefEqProofs
 refine Aa (hA vs (by unfold maxLen;omega)) ?_
 by_cases h1:Ar vs=true
 rotate_left
 ·have e:Ak path vs=[]:=by unfold Ak;rw[if_neg h1]
  rw[e]
  simp -implicitDefEqProofs [h1]
 have e:Ak path vs=vs.filter (GR path):=by unfold Ak;rw[if_pos h1]
 rw[e]
 simp -implicitDefEqProofs [h1]
 refine Ae (fun k s=>∃j v4 o1 o2 o3 o4 o5 o6 o7 o8,j+k=vs.length∧s=⟨[.sl 1 4 path.length (path.flatMap Cz),.undef,.undef,.arr 9,v4,.undef,.undef,.sl 1 1 vs.length (ints vs),I vs.length,I j,.undef,.undef],[.free,o1,o2,o3,o4,o5,o6,o7,o8,.arr 1 0 ((vs.take j).filter (GR path)).length (ints ((vs.take j).filter (GR path)))]⟩) ?_ (vs.length) _ ⟨0,.undef,.free,.free,.free,.free,.free,.free,.free,.free,by simp,by simp⟩
 intro k s ⟨j,v4,o1,o2,o3,o4,o5,o6,o7,o8,hj,hs⟩
 subst hs
 by_cases hjn:j<vs.length
 ·have hw:IntKind.i64.wrap ((j:Int)+1)=(j+1:Nat):=by rw[Ac (by omega) (by omega)];simp
  have hst:=Kt (p:=GR path) hjn
  have hfl:=Nb (p:=GR path) (xs:=vs) (j:=j)
  have hb1:(((vs.take j).filter (GR path)).length+1)*8≤1099511627776:=by omega
  simp -implicitDefEqProofs [hjn]
  refine Aa (hH [vs[j]] (by simp)) ?_
  simp -implicitDefEqProofs
  refine Aa (hP path ⟨[vs[j]],[]⟩ hb ⟨by simp,Z4⟩) ?_
  have hq:GR path vs[j]= !(AZ path ⟨[vs[j]],[]⟩).2:=rfl
  generalize AZ path ⟨[vs[j]],[]⟩=r at hq
  by_cases h2:r.2=true
  ·have h3:¬GR path vs[j]=true:=by rw[hq,h2];simp
   rw[if_neg h3,List.append_nil]at hst
   simp -implicitDefEqProofs [h2]
   exact⟨k-1,by omega,j+1,by omega,by simp[hw],by rw[hst],by rw[hst]⟩
  ·have h3:GR path vs[j]=true:=by rw[hq];simpa using h2
   rw[if_pos h3]at hst
   simp -implicitDefEqProofs [h2,hb1]
   exact⟨k-1,by omega,j+1,by omega,by simp[hw],by rw[hst];simp,by rw[hst]⟩
 ·have e2:=K5 (p:=GR path) (xs:=vs) (j:=j) (by omega)
  simp -implicitDefEqProofs [hjn,e2]
end Go.Eng.T
namespace Go.Eng.T
set_option maxRecDepth 20000
set_option maxHeartbeats 1000000
def Ti (l:List Int):Int:=l.foldl (fun a v=>if v>a then v else a) 0
theorem Asu {x:Int}:∀(l:List Int) (a:Int),(∀y,y∈l→y<x)→a<x→l.foldl (fun a v=>if v>a then v else a) a<x
 | [],a,_,h=>h
 | y::l,a,hl,h=>by
  simp only[List.foldl_cons]
  refine Asu l _ (fun z hz=>hl z (by simp[hz])) ?_
  split
  ·exact hl y (by simp)
  ·exact h
theorem AfT {xs:List Int}:∀(n:Nat),Jk xs n=true→∀i j,i<j→j<n→xs.getD i 0<xs.getD j 0
 | 0,_,i,j,_,h=>by omega
 | n+1,hr,i,j,hij,hj=>by
  rw[QA]at hr
  simp only[Bool.and_eq_true,Bool.or_eq_true,decide_eq_true_eq]at hr
  obtain⟨h1,_,h3⟩:=hr
  by_cases hjn:j<n
  ·exact AfT n h1 i j hij hjn
  ·obtain rfl:j=n:=by omega
   have h4:xs.getD (j-1) 0<xs.getD j 0:=by
    rcases h3 with h3 | h3
    ·omega
    ·exact h3
   by_cases he:i=j-1
   ·rw[he];exact h4
   ·have:=AfT j h1 i (j-1) (by omega) (by omega)
    omega
theorem Awg {xs:List Int} {n i:Nat} (h:Jk xs n=true) (hi:i<n):InV (xs.getD i 0) 1 9:=by
 unfold Jk at h
 have:=List.all_eq_true.1 h i (List.mem_range.2 hi)
 simp at this
 exact⟨this.1.1,this.1.2⟩
theorem MH {xs:List Int} (h:Ar xs=true):xs.Pairwise (· < ·):=by
 unfold Ar at h
 simp only[Bool.and_eq_true,decide_eq_true_eq]at h
 rw[List.pairwise_iff_getElem]
 intro i j hi hj hij
 have:=AfT _ h.1 i j hij hj
 rwa [R7 hi,R7 hj]at this
theorem MX {xs:List Int} (h:Ar xs=true):∀x,x∈xs→InV x 1 9:=by
 unfold Ar at h
 simp only[Bool.and_eq_true,decide_eq_true_eq]at h
 intro x hx
 obtain⟨i,hi,rfl⟩:=List.getElem_of_mem hx
 have:=Awg h.1 hi
 rwa [R7 hi]at this
theorem Ab2 {l:List Int} (hp:l.Pairwise (· < ·)) (h0:∀x,x∈l→0<x) (hn:0<l.length):Ti l=l[l.length-1]:=by
 obtain⟨l',x,rfl⟩:∃l' x,l=l'++ [x]:=by
  rcases List.eq_nil_or_concat l with h | ⟨l',x,h⟩
  ·rw[h]at hn;simp at hn
  ·exact⟨l',x,by simpa using h⟩
 rw[List.pairwise_append]at hp
 have h1:Ti l' <x:=Asu l' 0 (fun y hy=>hp.2.2 y hy x (by simp)) (h0 x (by simp))
 have h2:Ti (l'++ [x])=if x>Ti l' then x else Ti l':=by unfold Ti;rw[List.foldl_append];rfl
 rw[h2,if_pos h1]
 simp
def AB (a b:List Int):Int:=if Ar a=true∧Ar b=true then Ti (common a b)else 0
abbrev EA (R:Rel):Prop:=∀a b:List Int,a.length≤4194304→b.length≤4194304→R [.sl 1 1 a.length (ints a),.sl 1 1 b.length (ints b)] [] (I (AB a b)) []
theorem ml {n:Nat} (h:n≤4194304):n≤maxLen:=by unfold maxLen;omega
theorem AiZ (D:Dn) (hC:Kc (D AfQ)) (hA:BG (D D6)):EA (Body D Mh):=by
 intro a b ha hb
 have hcl:(common a b).length≤4194304:=Nat.le_trans (List.length_filter_le _ _) ha
 simp -implicitDefEqProofs
 refine Aa (hC a b ha (ml hb)) ?_
 simp -implicitDefEqProofs
 refine Aa (hA a (ml ha)) ?_
 by_cases h1:Ar a=true
 rotate_left
 ·simp -implicitDefEqProofs [h1,AB]
 simp -implicitDefEqProofs [h1]
 refine Aa (hA b (ml hb)) ?_
 by_cases h2:Ar b=true
 rotate_left
 ·simp -implicitDefEqProofs [h2,AB]
 have e:AB a b=Ti (common a b):=by unfold AB;rw[if_pos ⟨h1,h2⟩]
 rw[e]
 by_cases h3:common a b=[]
 ·simp -implicitDefEqProofs [h2,h3,Ti]
 have h4:0<(common a b).length:=List.length_pos_iff.2 h3
 have h5:=Ab2 (l:=common a b) ((MH h1).filter _) (fun x hx=>by have:=MX h1 x (List.mem_filter.1 hx).1;omega) h4
 rw[h5]
 generalize common a b=l at h3 h4 hcl
 have hw:IntKind.i64.wrap ((l.length:Int)-1)=((l.length-1:Nat):Int):=by rw[Ac (by omega) (by omega)];omega
 have h6:l.length-1<l.length:=by omega
 simp -implicitDefEqProofs [h2,h3,hw,h6,h4]
theorem AjB (D:Dn) (hC:Kc (D AgW)) (hA:BG (D FP)):EA (Body D Me):=by
 intro a b ha hb
 have hcl:(common a b).length≤4194304:=Nat.le_trans (List.length_filter_le _ _) ha
 simp -implicitDefEqProofs
 refine Aa (hA a (ml ha)) ?_
 by_cases h1:Ar a=true
 rotate_left
 ·simp -implicitDefEqProofs [h1,AB]
 simp -implicitDefEqProofs [h1]
 refine Aa (hA b (ml hb)) ?_
 by_cases h2:Ar b=true
 rotate_left
 ·simp -implicitDefEqProofs [h2,AB]
 have e:AB a b=Ti (common a b):=by unfold AB;rw[if_pos ⟨h1,h2⟩]
 rw[e]
 simp -implicitDefEqProofs [h2]
 refine Aa (hC a b ha (ml hb)) ?_
 generalize common a b=l at hcl
 simp -implicitDefEqProofs
 refine Ae (fun k s=>∃j,j+k=l.length∧s=⟨[.undef,.undef,.undef,.sc (.int .i64 (Ti (l.take j))),.undef,.undef,.arr 0,.sc (.int .i64 l.length),.sc (.int .i64 j),.undef],[.arr 1 0 l.length (ints l)]⟩) ?_ l.length _ ⟨0,by simp,by simp[Ti]⟩
 intro k s ⟨j,hj,hs⟩
 subst hs
 by_cases hjn:j<l.length
 ·have hw:IntKind.i64.wrap ((j:Int)+1)=(j+1:Nat):=by rw[Ac (by omega) (by omega)];simp
  have hst:Ti (l.take (j+1))=if l[j]>Ti (l.take j)then l[j]else Ti (l.take j):=by
   have e:l.take (j+1)=l.take j++ [l[j]]:=by simp
   unfold Ti
   rw[e,List.foldl_append];rfl
  simp -implicitDefEqProofs [hjn]
  exact⟨k-1,by omega,j+1,by omega,by rw[hst],by simp[hw]⟩
 ·have hx:l.take j=l:=List.take_of_length_le (by omega)
  simp -implicitDefEqProofs [hjn,hx]
end Go.Eng.T
namespace Go.Eng.T
set_option maxRecDepth 20000
def Qr {α:Type} (p:α→Bool):List α→Nat→List Int
 | [],_=> []
 | x::r,i=>if p x then(i:Int)::Qr p r (i+1)else Qr p r (i+1)
theorem Aoa {α:Type} {p:α→Bool} (b:List α):∀(a:List α) (i:Nat),Qr p (a++b) i=Qr p a i++Qr p b (i+a.length)
 | [],i=>by simp[Qr]
 | x::r,i=>by
  have:=Aoa (p:=p) b r (i+1)
  simp only[List.cons_append,Qr,this,List.length_cons]
  rw[show i+1+r.length=i+(r.length+1)by omega]
  by_cases h:p x=true<;>simp[h]
theorem ANZ {α:Type} {p:α→Bool} {xs:List α} {j:Nat} (h:j<xs.length):Qr p (xs.take (j+1)) 0=Qr p (xs.take j) 0++(if p xs[j]then [(j:Int)]else []):=by
 have e:xs.take (j+1)=xs.take j++ [xs[j]]:=by simp
 rw[e,Aoa]
 have hl:(xs.take j).length=j:=by simp;omega
 by_cases hp:p xs[j]=true<;>simp[Qr,hp,hl]
theorem AOM {α:Type} {p:α→Bool} {xs:List α} {j:Nat} (h:xs.length≤j):Qr p (xs.take j) 0=Qr p xs 0:=by rw[List.take_of_length_le h]
theorem AwS {α:Type} {p:α→Bool}:∀(xs:List α) (i:Nat),(Qr p xs i).length≤xs.length
 | [],_=>by simp[Qr]
 | x::r,i=>by
  have:=AwS (p:=p) r (i+1)
  by_cases h:p x=true
  ·simp[Qr,h];omega
  ·simp[Qr,h];omega
theorem Aqd {w:World} (h:Bo w≤4194304) {j:Nat} (hj:j<w.ends.length):w.ends[j].versions.length≤maxLen:=by
 have:=size_at (f:=Af) hj
 have e:Af w.ends[j]=w.ends[j].versions.length+w.ends[j].tags.length+Er Lf w.ends[j].path:=rfl
 unfold Bo at h
 unfold maxLen;omega
end Go.Eng.T
namespace Go.Eng.T
set_option maxRecDepth 20000
set_option maxHeartbeats 1000000
def I9 (xs:List (List Int)):List V:=xs.map fun l=> .sl 0 1 l.length (ints l)
@[simp high] theorem ADN (xs:List (List Int)):(I9 xs).length=xs.length:=by simp[I9]
@[simp] theorem ADK:I9 []=[]:=rfl
@[simp] theorem AEB (xs:List (List Int)):(I9 xs).map (AX 0)=I9 xs:=by simp[I9,Function.comp_def,AX]
@[simp high] theorem AEr {xs:List (List Int)} {j:Nat} (h:j<xs.length):(I9 xs)[j]? =some (V.sl 0 1 xs[j].length (ints xs[j])):=by simp[I9,h]
theorem Apw (xs:List (List Int)) (l:List Int) {n:Nat} (h:n=l.length):I9 xs++ [.sl 0 1 n (ints l)]=I9 (xs++ [l]):=by subst h;simp[I9]
def GH (xs:List (List Int)):Nat:=Er List.length xs
theorem Aav {xs:List (List Int)} {j:Nat} (h:j<xs.length):xs[j].length≤GH xs:=size_at (f:=List.length) h
theorem Sg {xs:List (List Int)}:xs.length≤GH xs:=Nr
def Oy (w:World):List (List Int):=w.ends.map (·.versions)
abbrev Zb (R:Rel):Prop:=∀w:World,Bo w≤4194304→R [arg (FH w)] [] (.sl 0 1 (Oy w).length (I9 (Oy w))) []
theorem Arz {xs:List Ai} {j:Nat} (h:j<xs.length):I9 ((xs.map (·.versions)).take j)++ [.sl 0 1 xs[j].versions.length (ints xs[j].versions)]=I9 ((xs.map (·.versions)).take (j+1)):=by
 have h':j<(xs.map (·.versions)).length:=by simpa using h
 have e:(xs.map (·.versions)).take (j+1)=(xs.map (·.versions)).take j++ [xs[j].versions]:=by
  have:=List.take_append_getElem h'
  rw[←this];simp
 rw[e,Apw _ _ rfl]
theorem AqM (D:Dn):Zb (Body D RF):=by
 intro w h
 have hl:=FU h
 have hres:Oy w=w.ends.map (·.versions):=rfl
 rw[hres]
 simp -implicitDefEqProofs
 refine Ae (fun k s=>∃j o2 o3 o4 o5,j+k=w.ends.length∧s=⟨[.undef,.ptr 0 0,.undef,.arr 6,.sc (.int .i64 j),.undef],[.var ((FH w).map (AX 1)),.free,o2,o3,o4,o5,.arr 1 0 j (I9 ((w.ends.take j).map (·.versions)))]⟩) ?_ w.ends.length _ ⟨0,.free,.free,.free,.free,by simp,by simp⟩
 intro k s ⟨j,o2,o3,o4,o5,hj,hs⟩
 subst hs
 by_cases hjn:j<w.ends.length
 ·have hw:IntKind.i64.wrap ((j:Int)+1)=(j+1:Nat):=by rw[Ac (by omega) (by omega)];simp
  have hst:=Arz hjn
  have hvl:=Aqd h hjn
  unfold maxLen at hvl
  have h2:w.ends[j].versions.length≤4194304:=by
   have:=size_at (f:=Af) hjn
   have e:Af w.ends[j]=w.ends[j].versions.length+w.ends[j].tags.length+Er Lf w.ends[j].path:=rfl
   unfold Bo at h
   omega
  have hb:w.ends[j].versions.length*8≤1099511627776:=by omega
  have hb2:(j+1)*24≤1099511627776:=by omega
  have hjl:min j w.ends.length=j:=by omega
  simp -implicitDefEqProofs [hjn,hb,hb2,hjl]
  exact⟨k-1,by omega,j+1,by omega,by simp[hw],rfl,hst⟩
 ·obtain rfl:j=w.ends.length:=by omega
  simp -implicitDefEqProofs
theorem ANm (D:Dn):Zb (Body D AHy):=by
 intro w h
 have hl:=FU h
 have hres:Oy w=w.ends.map (·.versions):=rfl
 rw[hres]
 simp -implicitDefEqProofs
 refine Ae (fun k s=>∃j o2 o3 o4 o5 o6,j+k=w.ends.length∧s=⟨[.undef,.undef,.undef,.arr 7,.undef,.sl 1 4 w.ends.length (w.ends.flatMap Ap),.sc (.int .i64 w.ends.length),.sc (.int .i64 j),.undef],[.var ((FH w).map (AX 1)),.free,o2,o3,o4,o5,o6,.arr 1 0 j (I9 ((w.ends.take j).map (·.versions)))]⟩) ?_ w.ends.length _ ⟨0,.free,.free,.free,.free,.free,by simp,by simp⟩
 intro k s ⟨j,o2,o3,o4,o5,o6,hj,hs⟩
 subst hs
 by_cases hjn:j<w.ends.length
 ·have hw:IntKind.i64.wrap ((j:Int)+1)=(j+1:Nat):=by rw[Ac (by omega) (by omega)];simp
  have hst:=Arz hjn
  have h2:w.ends[j].versions.length≤4194304:=by
   have:=size_at (f:=Af) hjn
   have e:Af w.ends[j]=w.ends[j].versions.length+w.ends[j].tags.length+Er Lf w.ends[j].path:=rfl
   unfold Bo at h
   omega
  have hb:w.ends[j].versions.length*8≤1099511627776:=by omega
  have hb2:(j+1)*24≤1099511627776:=by omega
  have hjl:min j w.ends.length=j:=by omega
  simp -implicitDefEqProofs [hjn,hb,hb2,hjl]
  exact⟨k-1,by omega,j+1,by omega,by simp[hw],rfl,hst⟩
 ·obtain rfl:j=w.ends.length:=by omega
  simp -implicitDefEqProofs
abbrev I8 (ls:List (List Int)):V:= .sl 1 1 ls.length (I9 ls)
def AKT (s:List Int) (v:Int) (l:List Int):Bool:=decide (AB s l=v)
def AID (s:List Int) (ls:List (List Int)) (v:Int):Nat:=if 1≤v then cntF (AKT s v) ls else 0
abbrev ALO (R:Rel):Prop:=∀(s:List Int) (ls:List (List Int)) (v:Int),s.length≤4194304→GH ls≤4194304→R [.sl 1 1 s.length (ints s),I8 ls,I v] [] (I (AID s ls v)) []
theorem AOs (D:Dn) (hB:EA (D SK)):ALO (Body D AIb):=by
 intro s ls v hs0 hl
 have hll:=Sg (xs:=ls)
 by_cases hv:1≤v
 rotate_left
 ·have e:AID s ls v=0:=by unfold AID;rw[if_neg hv]
  have hv':v<1:=by omega
  simp -implicitDefEqProofs [e,hv']
 have e:AID s ls v=cntF (AKT s v) ls:=by unfold AID;rw[if_pos hv]
 have hv':¬v<1:=by omega
 rw[e]
 simp -implicitDefEqProofs [hv']
 refine Ae (fun k st=>∃j,j+k=ls.length∧st=⟨[.sl 1 1 s.length (ints s),.undef,I v,.undef,.sc (.int .i64 (cntF (AKT s v) (ls.take j))),.undef,.undef,I8 ls,.sc (.int .i64 ls.length),.sc (.int .i64 j),.undef,.undef],[]⟩) ?_ ls.length _ ⟨0,by simp,by simp[cntF]⟩
 intro k st ⟨j,hj,hs⟩
 subst hs
 by_cases hjn:j<ls.length
 ·have hw:IntKind.i64.wrap ((j:Int)+1)=(j+1:Nat):=by rw[Ac (by omega) (by omega)];simp
  have hc:=Aom (f:=AKT s v) hjn
  have hcl:=AxC (f:=AKT s v) (xs:=ls) (j:=j) (by omega)
  have hw2:IntKind.i64.wrap ((cntF (AKT s v) (ls.take j):Int)+1)=(cntF (AKT s v) (ls.take j)+1:Nat):=by rw[Ac (by omega) (by omega)];simp
  have hra:=Aav hjn
  simp -implicitDefEqProofs [hjn,hv]
  refine Aa (hB s _ hs0 (by omega)) ?_
  by_cases he:AB s ls[j]=v
  ·simp -implicitDefEqProofs [he]
   exact⟨k-1,by omega,j+1,by omega,by rw[hc,hw2];simp[AKT,he],by simp[hw]⟩
  ·simp -implicitDefEqProofs [he]
   exact⟨k-1,by omega,j+1,by omega,by rw[hc];simp[AKT,he],by simp[hw]⟩
 ·have hx:=AsH (f:=AKT s v) (xs:=ls) (j:=j) (by omega)
  simp -implicitDefEqProofs [hjn,hx]
def AFz (s:List Int) (v:Int) (l:List Int):Bool:=decide (0<AB s l)&&decide (AB (AfB s v) l=0)
def AEw (s:List Int) (ls:List (List Int)) (v:Int):List Int:=Qr (AFz s v) ls 0
abbrev AIm (R:Rel):Prop:=∀(s:List Int) (ls:List (List Int)) (v:Int),s.length≤4194304→GH ls≤4194304→R [.sl 1 1 s.length (ints s),I8 ls,I v] [] (.sl 0 1 (AEw s ls v).length (ints (AEw s ls v))) []
theorem AMc (D:Dn) (hB:EA (D SK)) (hW:AHI (D Jr)):AIm (Body D AHf):=by
 intro s ls v hs0 hl
 have hll:=Sg (xs:=ls)
 have hres:AEw s ls v=Qr (AFz s v) ls 0:=rfl
 have hwl:=List.length_filter_le (fun x=> !decide (x=v)) s
 rw[hres]
 simp -implicitDefEqProofs
 refine Aa (hW s v hs0) ?_
 simp -implicitDefEqProofs
 refine Ae (fun k st=>∃j v6 v7 o1 o3 o4,j+k=ls.length∧st=⟨[.sl 1 1 s.length (ints s),.undef,.undef,.undef,.arr 5,.arr 2,v6,v7,I8 ls,.sc (.int .i64 ls.length),.sc (.int .i64 j),.undef,.undef],[.free,o1,.arr 1 0 (AfB s v).length (ints (AfB s v)),o3,o4,.arr 1 0 (Qr (AFz s v) (ls.take j) 0).length (ints (Qr (AFz s v) (ls.take j) 0))]⟩) ?_ ls.length _ ⟨0,.undef,.undef,.arr 1 0 1 [.sc (.int .i64 v)],.free,.free,by simp,by simp[Qr]⟩
 intro k st ⟨j,v6,v7,o1,o3,o4,hj,hs⟩
 subst hs
 by_cases hjn:j<ls.length
 ·have hw:IntKind.i64.wrap ((j:Int)+1)=(j+1:Nat):=by rw[Ac (by omega) (by omega)];simp
  have hst:=ANZ (p:=AFz s v) hjn
  have hln:=AwS (p:=AFz s v) (ls.take j) 0
  have htl:(ls.take j).length≤j:=by simp;omega
  have hb:((Qr (AFz s v) (ls.take j) 0).length+1)*8≤1099511627776:=by omega
  have hra:=Aav hjn
  simp -implicitDefEqProofs [hjn]
  refine Aa (hB s _ hs0 (by omega)) ?_
  by_cases h1:0<AB s ls[j]
  rotate_left
  ·rw[if_neg (by simp[AFz,h1]),List.append_nil]at hst
   simp -implicitDefEqProofs [h1]
   exact⟨k-1,by omega,j+1,by omega,by simp[hw],by rw[hst],by rw[hst]⟩
  simp -implicitDefEqProofs [h1,hjn]
  refine Aa (hB (AfB s v) ls[j] (by unfold AfB;omega) (by omega)) ?_
  by_cases h2:AB (AfB s v) ls[j]=0
  ·rw[if_pos (by simp[AFz,h1,h2])]at hst
   simp -implicitDefEqProofs [h2,hb]
   exact⟨k-1,by omega,j+1,by omega,by simp[hw],by rw[hst];simp,by rw[hst]⟩
  ·rw[if_neg (by simp[AFz,h1,h2]),List.append_nil]at hst
   simp -implicitDefEqProofs [h2]
   exact⟨k-1,by omega,j+1,by omega,by simp[hw],by rw[hst],by rw[hst]⟩
 ·have hx:=AOM (p:=AFz s v) (xs:=ls) (j:=j) (by omega)
  simp -implicitDefEqProofs [hjn,hx]
theorem AOO (s:List Int) (ls:List (List Int)) (v:Int):AID s ls v≤ls.length:=by
 unfold AID
 split
 ·have:=AxC (f:=AKT s v) (xs:=ls) (j:=ls.length) (by omega)
  rwa [List.take_length]at this
 ·omega
def AF8 (s:List Int) (ls:List (List Int)) (v pm:Int):Bool:=Ar s&&(decide (v∈s)&&(!decide (s.length=1)&&(decide (InV pm 0 1000)&&(decide (AEw s ls v=[])&&decide (1000*(AID s ls v:Int)≤pm*(ls.length:Int))))))
abbrev AHP (R:Rel):Prop:=∀(s:List Int) (ls:List (List Int)) (v pm:Int),s.length≤4194304→GH ls≤4194304→R [.sl 1 1 s.length (ints s),I8 ls,I v,I pm] [] (B (AF8 s ls v pm)) []
theorem ALS (D:Dn) (hA:BG (D FP)) (hH:Qw (D Be)) (hI:Tg (D Bz)) (hS:AIm (D AxS)) (hU:ALO (D ABO)):AHP (Body D AG4):=by
 intro s ls v pm hs0 hl
 have hll:=Sg (xs:=ls)
 simp -implicitDefEqProofs
 refine Aa (hA s (by unfold maxLen;omega)) ?_
 by_cases h1:Ar s=true
 rotate_left
 ·simp -implicitDefEqProofs [h1,AF8]
 simp -implicitDefEqProofs [h1]
 refine Aa (hH s v (by unfold maxLen;omega)) ?_
 by_cases h2:v∈s
 rotate_left
 ·simp -implicitDefEqProofs [h1,h2,AF8]
 by_cases h3:s.length=1
 ·have h3':(s.length:Int)=1:=by omega
  simp -implicitDefEqProofs [h1,h2,h3,h3',AF8]
 have h3':¬(s.length:Int)=1:=by omega
 simp -implicitDefEqProofs [h1,h2,h3,h3']
 refine Aa (hI _ _ _) ?_
 by_cases h4:InV pm 0 1000
 rotate_left
 ·simp -implicitDefEqProofs [h1,h2,h3,h3',h4,AF8]
 simp -implicitDefEqProofs [h3,h3',h4]
 refine Aa (hS s ls v hs0 hl) ?_
 by_cases h5:(AEw s ls v).length=0
 rotate_left
 ·have h5':¬((AEw s ls v).length:Int)=0:=by omega
  have h5'':¬AEw s ls v=[]:=by intro h;rw[h]at h5;simp at h5
  simp -implicitDefEqProofs [h5,h5',h5'',h1,h2,h3,h4,AF8]
 have h5'':AEw s ls v=[]:=List.eq_nil_of_length_eq_zero h5
 simp -implicitDefEqProofs [h5'']
 refine Aa (hU s ls v hs0 hl) ?_
 have hu:=AOO s ls v
 have w1:IntKind.i64.wrap (1000*(AID s ls v:Int))=1000*(AID s ls v:Int):=Ac (by omega) (by omega)
 have w2:IntKind.i64.wrap (pm*(ls.length:Int))=pm*(ls.length:Int):=by
  have a1:0≤pm*(ls.length:Int):=Int.mul_nonneg h4.1 (by omega)
  have a2:pm*(ls.length:Int)≤1000*4194304:=Int.mul_le_mul h4.2 (by omega) (by omega) (by omega)
  exact Ac (by omega) (by omega)
 simp -implicitDefEqProofs [h1,h2,h3,h3',h4,h5'',w1,w2,AF8]
def AGl (s:List Int) (ls:List (List Int)) (v pm:Int):List Int×Bool:=if AF8 s ls v pm=true then(AfB s v,true)else(s,false)
abbrev AGt (R:Rel):Prop:=∀(s:List Int) (ls:List (List Int)) (v pm:Int),s.length≤4194304→GH ls≤4194304→R [.sl 1 1 s.length (ints s),I8 ls,I v,I pm] [] (.tup [.sl 0 1 (AGl s ls v pm).1.length (ints (AGl s ls v pm).1),B (AGl s ls v pm).2]) []
theorem AJT (D:Dn) (hM:AHP (D AvU)) (hW:AHI (D Jr)):AGt (Body D AGk):=by
 intro s ls v pm hs0 hl
 have hll:=Sg (xs:=ls)
 have hb:s.length*8≤1099511627776:=by omega
 simp -implicitDefEqProofs
 refine Aa (hM s ls v pm hs0 hl) ?_
 by_cases h1:AF8 s ls v pm=true
 rotate_left
 ·have e:AGl s ls v pm=(s,false):=by unfold AGl;rw[if_neg h1]
  simp -implicitDefEqProofs [h1,e,hb]
 have e:AGl s ls v pm=(AfB s v,true):=by unfold AGl;rw[if_pos h1]
 simp -implicitDefEqProofs [h1,e]
 refine Aa (hW s v hs0) ?_
 simp -implicitDefEqProofs [h1,e]
theorem AMy {w:World} (h:Bo w≤4194304):w.server.length≤4194304:=by unfold Bo at h;omega
theorem ADl (xs:List Ai):GH (xs.map (·.versions))≤Er Af xs:=by
 induction xs with
 | nil=>simp[GH,Er]
 | cons x r ih=>
  simp only[GH,Er,List.map_cons,List.sum_cons,List.length_cons,Af,List.length_map]at *
  omega
theorem Ayd {w:World} (h:Bo w≤4194304):GH (Oy w)≤4194304:=by
 have:=ADl w.ends
 unfold Bo at h
 unfold Oy
 omega
def Awn (w:World) (v pm:Int):World×Bool:=if(AGl w.server (Oy w) v pm).2=true∧¬v=w.rollout.version then({w with server:=(AGl w.server (Oy w) v pm).1},true)else(w,false)
abbrev AHq (R:Rel):Prop:=∀(w:World) (v pm:Int),Bo w≤4194304→R [arg (FH w),I v,I pm] [] (.tup [.agg (FH (Awn w v pm).1),B (Awn w v pm).2]) []
theorem ALd (D:Dn) (hC:Y8 (D AvV)) (hL:Zb (D AyU)) (hR:AGt (D Apm)):AHq (Body D AGE):=by
 intro w v pm h
 simp -implicitDefEqProofs
 refine Aa (hC w h) ?_
 simp -implicitDefEqProofs
 refine Aa (hL w h) ?_
 simp -implicitDefEqProofs
 refine Aa (hR w.server (Oy w) v pm (AMy h) (Ayd h)) ?_
 by_cases h1:(AGl w.server (Oy w) v pm).2=true
 rotate_left
 ·have e:Awn w v pm=(w,false):=by unfold Awn;rw[if_neg (by simp[h1])]
  simp -implicitDefEqProofs [h1,e]
 by_cases h2:v=w.rollout.version
 ·subst h2
  have e:Awn w w.rollout.version pm=(w,false):=by unfold Awn;rw[if_neg (by simp)]
  simp -implicitDefEqProofs [h1,e]
 have e:Awn w v pm=({w with server:=(AGl w.server (Oy w) v pm).1},true):=by unfold Awn;rw[if_pos ⟨h1,h2⟩]
 simp -implicitDefEqProofs [h1,h2,e]
end Go.Eng.T
namespace Go.Eng.T
set_option maxRecDepth 20000
set_option maxHeartbeats 1000000
def leftOf (a b:List Int):List Int:=a.filter fun v=> !decide (v∈b)
abbrev QD (R:Rel):Prop:=∀a b:List Int,a.length≤4194304→b.length≤4194304→R [.sl 1 1 a.length (ints a),.sl 1 1 b.length (ints b)] [] (.sl 0 1 (leftOf a b).length (ints (leftOf a b))) []
theorem Aqi (D:Dn) (hH:Qw (D Be)):QD (Body D Q5):=by
 intro a b ha hb
 have hres:leftOf a b=a.filter (fun v=> !decide (v∈b)):=rfl
 rw[hres]
 simp -implicitDefEqProofs
 refine Ae (fun k s=>∃j v4 o1 o2,j+k=a.length∧s=⟨[.undef,.sl 1 1 b.length (ints b),.undef,.arr 3,v4,.sl 1 1 a.length (ints a),I a.length,I j,.undef,.undef],[.free,o1,o2,.arr 1 0 ((a.take j).filter (fun v=> !decide (v∈b))).length (ints ((a.take j).filter (fun v=> !decide (v∈b))))]⟩) ?_ (a.length) _ ⟨0,.undef,.free,.free,by simp,by simp⟩
 intro k s ⟨j,v4,o1,o2,hj,hs⟩
 subst hs
 by_cases hjn:j<a.length
 ·have hw:IntKind.i64.wrap ((j:Int)+1)=(j+1:Nat):=by rw[Ac (by omega) (by omega)];simp
  have hst:=Kt (p:=fun v=> !decide (v∈b)) hjn
  have hln:=Nb (p:=fun v=> !decide (v∈b)) (xs:=a) (j:=j)
  have hbd:(((a.take j).filter (fun v=> !decide (v∈b))).length+1)*8≤1099511627776:=by omega
  simp -implicitDefEqProofs [hjn]
  refine Aa (hH b _ (by unfold maxLen;omega)) ?_
  by_cases h1:a[j]∈b
  ·rw[if_neg (by simp[h1]),List.append_nil]at hst
   simp -implicitDefEqProofs [h1,hjn,hbd]
   exact⟨k-1,by omega,j+1,by omega,by simp[hw],by rw[hst],by rw[hst]⟩
  ·rw[if_pos (by simp[h1])]at hst
   simp -implicitDefEqProofs [h1,hjn,hbd]
   exact⟨k-1,by omega,j+1,by omega,by simp[hw],by rw[hst];simp,by rw[hst]⟩
 ·have hx:=K5 (p:=fun v=> !decide (v∈b)) (xs:=a) (j:=j) (by omega)
  simp -implicitDefEqProofs [hjn,hx]
def upTo (xs:List Int) (i:Nat):Bool:=decide (i=0)||decide (xs.getD (i-1) 0<xs.getD i 0)
def EO (xs:List Int):Bool:=P8 (upTo xs) xs.length&&allIn xs 0 255
abbrev Nk (R:Rel):Prop:=∀xs:List Int,xs.length≤maxLen→R [.sl 1 1 xs.length (ints xs)] [] (B (EO xs)) []
theorem AcH {xs:List Int} {j:Nat} (h:j<xs.length) (hn:¬Ov xs[j] 0 255):EO xs=false:=by unfold EO;rw[AnL h hn];simp
theorem Vd {xs:List Int} {j:Nat} (h:j<xs.length) (hn:upTo xs j=false):EO xs=false:=by unfold EO;rw[AnP h hn];simp
theorem Wq (xs:List Int):upTo xs 0=true:=by simp[upTo]
theorem TN {xs:List Int} {j:Nat} (h0:¬j=0) (h:j<xs.length) (h':j-1<xs.length):upTo xs j=decide (xs[j-1]<xs[j]):=by
 unfold upTo
 rw[R7 h,R7 h']
 simp[h0]
theorem ApP (D:Dn) (hI:Tg (D CF)):Nk (Body D Q6):=by
 intro xs hl
 unfold maxLen at hl
 simp -implicitDefEqProofs
 refine Ae (fun k s=>∃j,j+k=xs.length∧allIn (xs.take j) 0 255=true∧P8 (upTo xs) j=true∧s=⟨[.sl 1 1 xs.length (ints xs),.undef,I j,.undef,.undef],[]⟩) ?_ (xs.length) _ ⟨0,by simp,by simp[allIn],by simp,by simp⟩
 intro k s ⟨j,hj,hp,hr,hs⟩
 subst hs
 by_cases hjn:j<xs.length
 ·have hw:IntKind.i64.wrap ((j:Int)+1)=(j+1:Nat):=by rw[Ac (by omega) (by omega)];simp
  have hst:=JW (upTo xs) j
  rw[hr,Bool.true_and]at hst
  simp -implicitDefEqProofs [hjn]
  refine Aa (hI _ _ _) ?_
  by_cases h1:Ov xs[j] 0 255
  rotate_left
  ·simp -implicitDefEqProofs [h1,AcH hjn h1]
  by_cases h0:j=0
  ·subst h0
   simp -implicitDefEqProofs [h1]
   exact⟨k-1,by omega,1,by omega,by rw[Qf hjn,hp];simp[h1],by rw[hst,Wq],by simpa using hw⟩
  ·have hw2:IntKind.i64.wrap ((j:Int)-1)=((j-1:Nat):Int):=by rw[Ac (by omega) (by omega)];omega
   have h2:(0:Int)<j:=by omega
   have h2':0<j:=by omega
   have h3:j-1<xs.length:=by omega
   rw[TN h0 hjn h3]at hst
   by_cases h4:xs[j-1]<xs[j]
   ·have h4':¬xs[j]≤xs[j-1]:=by omega
    simp -implicitDefEqProofs [h1,h2,h2',hw2,h3,hjn,h4']
    exact⟨k-1,by omega,j+1,by omega,by rw[Qf hjn,hp];simp[h1],by rw[hst];simp[h4],by simp[hw]⟩
   ·have e:=Vd hjn (by rw[TN h0 hjn h3];simp[h4])
    have h4':xs[j]≤xs[j-1]:=by omega
    simp -implicitDefEqProofs [h1,h2,h2',hw2,h3,hjn,h4',e]
 ·obtain rfl:j=xs.length:=by omega
  have e:EO xs=true:=by unfold EO;rw[hr,Ab1 (by omega) hp];rfl
  simp -implicitDefEqProofs [e]
theorem Arw (D:Dn) (hN:Gu (D Gj)):Nk (Body D QX):=by
 intro xs hl
 have hl0:=hl
 unfold maxLen at hl
 simp -implicitDefEqProofs
 refine Ae (fun k s=>∃j,j+k=xs.length∧P8 (upTo xs) j=true∧s=⟨[.sl 1 1 xs.length (ints xs),.undef,.undef,.undef,.sl 1 1 xs.length (ints xs),I xs.length,I j,.undef,.undef],[]⟩) ?_ (xs.length) _ ⟨0,by simp,by simp,by simp⟩
 intro k s ⟨j,hj,hr,hs⟩
 subst hs
 by_cases hjn:j<xs.length
 ·have hw:IntKind.i64.wrap ((j:Int)+1)=(j+1:Nat):=by rw[Ac (by omega) (by omega)];simp
  have hst:=JW (upTo xs) j
  rw[hr,Bool.true_and]at hst
  by_cases h0:j=0
  ·subst h0
   simp -implicitDefEqProofs [hjn]
   exact⟨k-1,by omega,1,by omega,by rw[hst,Wq],by simpa using hw⟩
  ·have hw2:IntKind.i64.wrap ((j:Int)-1)=((j-1:Nat):Int):=by rw[Ac (by omega) (by omega)];omega
   have h2:(0:Int)<j:=by omega
   have h2':0<j:=by omega
   have h3:j-1<xs.length:=by omega
   rw[TN h0 hjn h3]at hst
   by_cases h4:xs[j-1]<xs[j]
   ·have h4':¬xs[j]≤xs[j-1]:=by omega
    simp -implicitDefEqProofs [h2,h2',hw2,h3,hjn,h4']
    exact⟨k-1,by omega,j+1,by omega,by rw[hst];simp[h4],by simp[hw]⟩
   ·have e:=Vd hjn (by rw[TN h0 hjn h3];simp[h4])
    have h4':xs[j]≤xs[j-1]:=by omega
    simp -implicitDefEqProofs [h2,h2',hw2,h3,hjn,h4',e]
 ·obtain rfl:j=xs.length:=by omega
  have e:EO xs=allIn xs 0 255:=by unfold EO;rw[hr];rfl
  simp -implicitDefEqProofs
  refine Aa (hN xs _ _ hl0) ?_
  simp -implicitDefEqProofs [e]
def Aj (e:Ai):Bool:=Ar e.versions&&(decide (e.tags.length≤5)&&(EO e.tags&&(!e.tags.any Aq&&(decide (e.path.length≤4)&&(e.path.all ET&&decide (Ov e.cls 0 5))))))
abbrev DV (R:Rel):Prop:=∀e:Ai,YC e→R [arg (Ap e)] [] (B (Aj e)) []
theorem AiM (D:Dn) (hI:Tg (D CF)) (hR:EJ (D MI)) (hX:RB (D AcK)) (hA:BG (D D6)):DV (Body D LP):=by
 intro e hl
 obtain⟨hl1,hl2,hl3⟩:=hl
 have hl4:=hl3.1
 have hl2':=hl2
 unfold PO at hl2
 unfold maxLen at hl2 hl4
 simp -implicitDefEqProofs
 refine Ae (fun k s=>∃j,j+k=e.tags.length∧allIn (e.tags.take j) 0 255=true∧P8 (upTo e.tags) j=true∧(e.tags.take j).any Aq=false∧s=⟨[.undef,.ptr 0 0,.undef,I j,.undef,.undef,.undef,.undef,.undef],[.var ((Ap e).map (AX 1))]⟩) ?_ (e.tags.length) _ ⟨0,by simp,by simp[allIn],by simp,by simp,by simp⟩
 intro k s ⟨j,hj,hp,hr,hq,hs⟩
 subst hs
 by_cases hjn:j<e.tags.length
 ·have hw:IntKind.i64.wrap ((j:Int)+1)=(j+1:Nat):=by rw[Ac (by omega) (by omega)];simp
  have hst:=JW (upTo e.tags) j
  rw[hr,Bool.true_and]at hst
  have hsq:=AgO (p:=Aq) hjn
  rw[hq,Bool.false_or]at hsq
  simp -implicitDefEqProofs [hjn]
  refine Aa (hI _ _ _) ?_
  by_cases h1:Ov e.tags[j] 0 255
  rotate_left
  ·have e0:Aj e=false:=by unfold Aj;rw[AcH hjn h1];simp
   simp -implicitDefEqProofs [h1,e0]
  simp -implicitDefEqProofs [h1,hjn]
  refine Aa (hR _) ?_
  by_cases h5:Aq e.tags[j]=true
  ·have e0:Aj e=false:=by unfold Aj;rw[U3 hjn h5];simp
   simp -implicitDefEqProofs [h5,e0]
  have h5':Aq e.tags[j]=false:=by simpa using h5
  by_cases h0:j=0
  ·subst h0
   simp -implicitDefEqProofs [h1,h5']
   exact⟨k-1,by omega,1,by omega,by rw[Qf hjn,hp];simp[h1],by rw[hst,Wq],by simpa using hsq.trans h5',by simpa using hw⟩
  ·have hw2:IntKind.i64.wrap ((j:Int)-1)=((j-1:Nat):Int):=by rw[Ac (by omega) (by omega)];omega
   have h2:(0:Int)<j:=by omega
   have h2':0<j:=by omega
   have h3:j-1<e.tags.length:=by omega
   rw[TN h0 hjn h3]at hst
   by_cases h4:e.tags[j-1]<e.tags[j]
   ·have h4':¬e.tags[j]≤e.tags[j-1]:=by omega
    simp -implicitDefEqProofs [h1,h5',h2,h2',hw2,h3,hjn,h4']
    exact⟨k-1,by omega,j+1,by omega,by rw[Qf hjn,hp];simp[h1],by rw[hst];simp[h4],by simpa using hsq.trans h5',by simp[hw]⟩
   ·have e0:Aj e=false:=by unfold Aj;rw[Vd hjn (by rw[TN h0 hjn h3];simp[h4])];simp
    have h4':e.tags[j]≤e.tags[j-1]:=by omega
    simp -implicitDefEqProofs [h1,h5',h2,h2',hw2,h3,hjn,h4',e0]
 obtain rfl:j=e.tags.length:=by omega
 have et:EO e.tags=true:=by unfold EO;rw[hr,Ab1 (by omega) hp];rfl
 have er:e.tags.any Aq=false:=any_none (by omega) hq
 simp -implicitDefEqProofs
 refine Ae (fun k s=>∃j,j+k=e.path.length∧(e.path.take j).all ET=true∧s=⟨[.undef,.ptr 0 0,.undef,.undef,I j,.undef,.undef,.undef,.undef],[.var ((Ap e).map (AX 1))]⟩) ?_ (e.path.length) _ ⟨0,by simp,by simp,by simp⟩
 intro k s ⟨j,hj,hb,hs⟩
 subst hs
 by_cases hjn:j<e.path.length
 ·have hw:IntKind.i64.wrap ((j:Int)+1)=(j+1:Nat):=by rw[Ac (by omega) (by omega)];simp
  have hst:=Vz (p:=ET) hjn
  rw[hb,Bool.true_and]at hst
  simp -implicitDefEqProofs [hjn]
  refine Aa (hX _ (hl3.2 j hjn)) ?_
  by_cases h1:ET e.path[j]=true
  ·simp -implicitDefEqProofs [h1]
   exact⟨k-1,by omega,j+1,by omega,by simpa using hst.trans h1,by simp[hw]⟩
  ·have e0:Aj e=false:=by unfold Aj;rw[SF hjn (by simpa using h1)];simp
   simp -implicitDefEqProofs [h1,e0]
 have eb:e.path.all ET=true:=by rw[←ZW (j:=j) (by omega),hb]
 simp -implicitDefEqProofs [hjn]
 refine Aa (hA _ hl1) ?_
 by_cases g1:Ar e.versions=true
 rotate_left
 ·simp -implicitDefEqProofs [g1,Aj]
 by_cases g2:e.tags.length≤5
 rotate_left
 ·have g2':¬(e.tags.length:Int)≤5:=by omega
  simp -implicitDefEqProofs [g1,g2,g2',Aj]
 have g2':(e.tags.length:Int)≤5:=by omega
 by_cases g3:e.path.length≤4
 rotate_left
 ·have g3':¬(e.path.length:Int)≤4:=by omega
  simp -implicitDefEqProofs [g1,g2,g2',g3,g3',Aj]
 have g3':(e.path.length:Int)≤4:=by omega
 simp -implicitDefEqProofs [g1,g2',g3']
 refine Aa (hI _ _ _) ?_
 have ee:Aj e=decide (Ov e.cls 0 5):=by unfold Aj;rw[et,er,eb];simp[g1,g2,g3]
 simp -implicitDefEqProofs [ee]
abbrev OT (R:Rel):Prop:=∀b:EK,Kr b→R [arg (Cz b)] [] (B (!ET b)) []
theorem AiE (D:Dn) (hX:RB (D Acr)):OT (Body D JQ):=by
 intro b hb
 simp -implicitDefEqProofs
 refine Aa (hX b hb) ?_
 simp -implicitDefEqProofs
theorem Asv {α:Type} (p:α→Bool) (xs:List α):(xs.any fun x=> !p x)= !xs.all p:=by rw[List.all_eq_not_any_not];simp
theorem Ai9 (D:Dn) (hA:BG (D FP)) (hT:Nk (D Ah7)) (hH:M6 (D Si)) (h1:OT (D Ql)) (hC:IU D (D GQ)) (hI:Tg (D Bz)):DV (Body D Mk):=by
 intro e hl
 obtain⟨hl1,hl2,hl3⟩:=hl
 simp -implicitDefEqProofs
 refine Aa (hA _ hl1) ?_
 by_cases g1:Ar e.versions=true
 rotate_left
 ·simp -implicitDefEqProofs [g1,Aj]
 by_cases g2:e.tags.length≤5
 rotate_left
 ·have g2':¬(e.tags.length:Int)≤5:=by omega
  simp -implicitDefEqProofs [g1,g2,g2',Aj]
 have g2':(e.tags.length:Int)≤5:=by omega
 simp -implicitDefEqProofs [g1,g2']
 refine Aa (hT _ hl2) ?_
 by_cases g4:EO e.tags=true
 rotate_left
 ·simp -implicitDefEqProofs [g4,Aj]
 simp -implicitDefEqProofs [g4]
 refine Aa (hH _ hl2) ?_
 by_cases g5:e.tags.any Aq=true
 ·have e0:Aj e=false:=by unfold Aj;rw[g5];simp
  generalize e.tags.any Aq=q at g5
  subst g5
  simp -implicitDefEqProofs [e0]
 have g5':e.tags.any Aq=false:=by simpa using g5
 have ee:Aj e=(decide (e.path.length≤4)&&(e.path.all ET&&decide (Ov e.cls 0 5))):=by unfold Aj;rw[g5',g1,g4];simp[g2]
 rw[ee]
 generalize e.tags.any Aq=q at g5'
 subst g5'
 by_cases g3:e.path.length≤4
 rotate_left
 ·have g3':¬(e.path.length:Int)≤4:=by omega
  simp -implicitDefEqProofs [g3,g3']
 have g3':(e.path.length:Int)≤4:=by omega
 simp -implicitDefEqProofs [g3,g3']
 refine Aa (hC e.path Ql [] (fun b=> !ET b) hl3.1 FJ (fun j hj=>h1 e.path[j] (hl3.2 j hj))) ?_
 rw[Asv]
 generalize e.path.all ET=q
 by_cases g6:q=true
 rotate_left
 ·simp -implicitDefEqProofs [g6]
 simp -implicitDefEqProofs [g6]
 refine Aa (hI _ _ _) ?_
 simp -implicitDefEqProofs
theorem ACZ {b:EK} (h:Lf b≤4194304):Kr b:=by
 unfold Lf at h
 exact⟨by unfold PO maxLen;omega,by unfold PO maxLen;omega⟩
theorem AAL {p:List EK} (h:Er Lf p≤4194304):lnS Kr p:=
 ⟨by have:=Nr (f:=Lf) (xs:=p);unfold maxLen;omega,fun j hj=>ACZ (by have:=size_at (f:=Lf) hj;omega)⟩
theorem Tj {e:Ai} (h:Af e≤4194304):YC e:=by
 unfold Af at h
 exact⟨by unfold PO maxLen;omega,by unfold PO maxLen;omega,AAL (by omega)⟩
theorem O1 {w:World} (h:Bo w≤4194304) {n:Nat} (hn:n<w.ends.length):Af w.ends[n]≤4194304:=by
 have:=size_at (f:=Af) hn
 have:=(Ma h).2.2.1
 omega
theorem OY {e:Ai} (h:Af e≤4194304):e.versions.length≤4194304:=by unfold Af at h;omega
def IW (e:Ai) (s:List Int):Int:=if Aj e=true then AB s (leftOf e.versions (Ak e.path e.versions))else 0
abbrev Nw (R:Rel):Prop:=∀(e:Ai) (s:List Int),Af e≤4194304→s.length≤4194304→R [arg (Ap e),.sl 1 1 s.length (ints s)] [] (I (IW e s)) []
theorem AaA (path:List EK) (vs:List Int):(Ak path vs).length≤vs.length:=by
 unfold Ak
 split
 ·exact List.length_filter_le _ _
 ·simp
theorem Anh (a b:List Int):(leftOf a b).length≤a.length:=List.length_filter_le _ _
theorem Aqs (D:Dn) (hE:DV (D Mg)) (hV:DY (D Qn)) (hL:QD (D Jr)) (hB:EA (D SK)):Nw (Body D RO):=by
 intro e s hsz hs
 have hl:=Tj hsz
 have hv:=OY hsz
 obtain⟨hl1,hl2,hl3⟩:=hl
 simp -implicitDefEqProofs
 refine Aa (hE e (Tj hsz)) ?_
 by_cases h1:Aj e=true
 rotate_left
 ·simp -implicitDefEqProofs [h1,IW]
 have hll:=AaA e.path e.versions
 have hll2:=Anh e.versions (Ak e.path e.versions)
 simp -implicitDefEqProofs [h1]
 refine Aa (hV e.path e.versions hl3 hv) ?_
 simp -implicitDefEqProofs
 refine Aa (hL e.versions (Ak e.path e.versions) hv (by omega)) ?_
 simp -implicitDefEqProofs
 refine Aa (hB s (leftOf e.versions (Ak e.path e.versions)) hs (by omega)) ?_
 simp -implicitDefEqProofs [IW,h1]
def E8 (w:World) (i:Int):Int:=if Qt i 0 ((w.ends.length:Int)-1)then(match w.ends[i.toNat]? with | some e=>IW e w.server | none=>0)else 0
abbrev Nt (R:Rel):Prop:=∀(w:World) (i:Int),Bo w≤4194304→R [arg (FH w),I i] [] (I (E8 w i)) []
theorem Aqw (D:Dn) (hI:TW (D OQ)) (hB:Nw (D AjI)):Nt (Body D RJ):=by
 intro w i hsz
 have he:=FU hsz
 simp -implicitDefEqProofs
 refine Aa (hI w i he) ?_
 by_cases h1:Qt i 0 ((w.ends.length:Int)-1)
 rotate_left
 ·simp -implicitDefEqProofs [h1,E8]
 obtain⟨n,rfl⟩:∃n:Nat,i=n:=⟨i.toNat,by have:=h1.1;omega⟩
 have hn:n<w.ends.length:=by have:=h1.2;omega
 have hb:=Ma hsz
 have hes:=O1 hsz hn
 have e:E8 w n=IW w.ends[n] w.server:=by unfold E8;rw[if_pos h1];simp[hn]
 rw[e]
 simp -implicitDefEqProofs [h1,hn]
 refine Aa (hB w.ends[n] w.server hes hb.1) ?_
 simp -implicitDefEqProofs
end Go.Eng.T
namespace Go.Eng.T
set_option maxRecDepth 20000
set_option maxHeartbeats 2000000
abbrev KF (D:Dn) (R:Rel):Prop:=∀(xs:List (List Int)) (g:Nat) (caps:List V) (p:List Int→Bool),xs.length≤maxLen→LG caps→(∀(j:Nat) (h:j<xs.length),D g (.sl 1 1 xs[j].length (ints xs[j])::caps) [] (B (p xs[j])) [])→R [I8 xs,.fn g caps] [] (I (Gr p xs 0)) []
theorem AeE (D:Dn):KF D (Body D D7):=by
 intro xs g caps p hl hc hp
 unfold maxLen at hl
 simp -implicitDefEqProofs
 refine Ae (fun k s=>∃j,j+k=xs.length∧Gr p xs 0=Gr p (xs.drop j) j∧s=⟨[I8 xs,.fn g caps,.undef,.undef,I xs.length,I j,.undef,.undef],[]⟩) ?_ (xs.length) _ ⟨0,by simp,by simp,by simp⟩
 intro k s ⟨j,hj,hi,hs⟩
 subst hs
 by_cases hjn:j<xs.length
 ·have hw:IntKind.i64.wrap ((j:Int)+1)=(j+1:Nat):=by rw[Ac (by omega) (by omega)];simp
  rw[R8 hjn]at hi
  simp -implicitDefEqProofs [hjn,hc.1,hc.2.1]
  refine Aa (hp j hjn) ?_
  by_cases he:p xs[j]=true
  ·rw[if_pos he]at hi
   simp -implicitDefEqProofs [he,hi]
  ·rw[if_neg he]at hi
   simp -implicitDefEqProofs [he]
   exact⟨k-1,by omega,j+1,by omega,by simpa using hi,by simp[hw]⟩
 ·rw[UM (by omega)]at hi
  simp -implicitDefEqProofs [hjn,hi]
abbrev Hw (D:Dn) (R:Rel):Prop:=∀(xs:List (List Int)) (g:Nat) (caps:List V) (p:List Int→Bool),xs.length≤maxLen→LG caps→(∀(j:Nat) (h:j<xs.length),D g (.sl 1 1 xs[j].length (ints xs[j])::caps) [] (B (p xs[j])) [])→R [I8 xs,.fn g caps] [] (B (xs.any p)) []
theorem Yo (D:Dn) (hI:KF D (D KW)):Hw D (Body D Dk):=by
 intro xs g caps p hl hc hp
 simp -implicitDefEqProofs [hc.2.2]
 refine Aa (hI xs g caps p hl hc hp) ?_
 have e:decide (0≤Gr p xs 0)=xs.any p:=by rw[Bool.eq_iff_iff];simp only[decide_eq_true_eq];rw[Ur (by omega)]
 simp -implicitDefEqProofs [e]
def reach (s l:List Int):Bool:= !decide (AB s l=0)
def Ih (s:List Int) (ls:List (List Int)):Bool:=Ar s&&ls.all (reach s)
abbrev Wh (R:Rel):Prop:=∀(s:List Int) (ls:List (List Int)),s.length≤4194304→GH ls≤4194304→R [.sl 1 1 s.length (ints s),I8 ls] [] (B (Ih s ls)) []
theorem Aow (D:Dn) (hB:EA (D L9)) (hA:BG (D D6)):Wh (Body D P6):=by
 intro sv ls hs hl
 have hll:=Sg (xs:=ls)
 simp -implicitDefEqProofs
 refine Ae (fun k s=>∃j,j+k=ls.length∧(ls.take j).all (reach sv)=true∧s=⟨[.sl 1 1 sv.length (ints sv),I8 ls,.undef,I j,.undef,.undef],[]⟩) ?_ (ls.length) _ ⟨0,by simp,by simp,by simp⟩
 intro k s ⟨j,hj,hp,hs⟩
 subst hs
 by_cases hjn:j<ls.length
 ·have hw:IntKind.i64.wrap ((j:Int)+1)=(j+1:Nat):=by rw[Ac (by omega) (by omega)];simp
  have hst:=Vz (p:=reach sv) hjn
  rw[hp,Bool.true_and]at hst
  have hra:=Aav hjn
  simp -implicitDefEqProofs [hjn]
  refine Aa (hB sv _ hs (by omega)) ?_
  by_cases h1:AB sv ls[j]=0
  ·have e:Ih sv ls=false:=by unfold Ih;rw[SF hjn (by simp[reach,h1])];simp
   simp -implicitDefEqProofs [h1,e,Anu]
  ·simp -implicitDefEqProofs [h1,Anu]
   exact⟨k-1,by omega,j+1,by omega,by simpa using hst.trans (show reach sv ls[j]=true by simp[reach,h1]),by simp[hw]⟩
 ·have e:Ih sv ls=Ar sv:=by unfold Ih;rw[←ZW (j:=j) (by omega),hp];simp
  simp -implicitDefEqProofs [hjn]
  refine Aa (hA sv (by unfold maxLen;omega)) ?_
  simp -implicitDefEqProofs [e]
abbrev AHJ (R:Rel):Prop:=∀(s l:List Int),s.length≤4194304→l.length≤4194304→R [.sl 1 1 l.length (ints l),.rptr 1 [.sl 0 1 s.length (ints s)] 0] [] (B (!reach s l)) []
theorem AMT (D:Dn) (hB:EA (D SK)):AHJ (Body D AGD):=by
 intro s l hs hl
 simp -implicitDefEqProofs
 refine Aa (hB s l hs hl) ?_
 simp -implicitDefEqProofs [reach,Anu]
theorem AMG (D:Dn) (hA:BG (D FP)) (h1':AHJ (D Aue)) (hC:Hw D (D Jo)):Wh (Body D AHg):=by
 intro s ls hs hl
 have hll:=Sg (xs:=ls)
 simp -implicitDefEqProofs
 refine Aa (hA s (by unfold maxLen;omega)) ?_
 by_cases h1:Ar s=true
 rotate_left
 ·simp -implicitDefEqProofs [h1,Ih]
 simp -implicitDefEqProofs [h1]
 refine Aa (hC ls Aue _ (fun l=> !reach s l) (by unfold maxLen;omega) (AgZ FJ) (fun j hj=>h1' s ls[j] hs (by have:=Aav hj;omega))) ?_
 rw[Asv]
 generalize hq:ls.all (reach s)=q
 simp -implicitDefEqProofs [Ih,h1,hq]
def KL (k:Int):Bool:=decide (Ov k 1 2147483646)
abbrev IZ (R:Rel):Prop:=∀k:Int,R [I k] [] (B (KL k)) []
theorem AmS (D:Dn) (hI:Tg (D CF)):IZ (Body D LM):=by
 intro k
 simp -implicitDefEqProofs
 refine Aa (hI _ _ _) ?_
 simp -implicitDefEqProofs [KL]
theorem Aoe (D:Dn) (hI:Tg (D Bz)):IZ (Body D Mv):=by
 intro k
 simp -implicitDefEqProofs
 refine Aa (hI _ _ _) ?_
 simp -implicitDefEqProofs [KL]
def PG (w:World):Bool:=Ih w.server (Oy w)&&(EO w.tags&&KL w.key)
def Lx (w:World):Bool:=Br w.rollout&&(decide (w.rollout.version∈w.server)&&(decide (Ov w.least 1 100)&&decide (Ov w.percent 0 100)))
def JD (w:World):Bool:=decide (w.stage.length≤60)&&(decide (w.log.length≤60)&&(decide (Ov w.now 0 10000)&&(decide (Ov w.hurt 0 w.log.length)&&decide (Ov w.reached 0 w.rollout.stages.length))))
def D5 (w:World):Bool:=PG w&&(decide (w.ends.length≤6)&&(w.ends.all Aj&&(Lx w&&JD w)))
abbrev Zf (R:Rel):Prop:=∀w:World,Bo w≤4194304→R [arg (FH w)] [] (B (D5 w)) []
abbrev AIp (R:Rel):Prop:=∀e:Ai,Af e≤4194304→R [arg (Ap e)] [] (B (!Aj e)) []
theorem AM4 (D:Dn) (hE:DV (D Mg)):AIp (Body D AG5):=by
 intro e h
 simp -implicitDefEqProofs
 refine Aa (hE e (Tj h)) ?_
 simp -implicitDefEqProofs
theorem AM2 (D:Dn) (hL:Zb (D AyU)) (hA:Wh (D Awq)) (hT:Nk (D Ah7)) (hK:IZ (D AbV)) (h1':AIp (D Avh)) (hC:AFT D (D O3)) (hR:Iw (D Ac6)) (hH:Qw (D Be)) (hI:Tg (D Bz)):Zf (Body D AHB):=by
 intro w hsz
 have hs:=Ma hsz
 have he:=FU hsz
 simp -implicitDefEqProofs
 refine Aa (hL w hsz) ?_
 simp -implicitDefEqProofs
 refine Aa (hA w.server (Oy w) hs.1 (Ayd hsz)) ?_
 by_cases a1:Ih w.server (Oy w)=true
 rotate_left
 ·simp -implicitDefEqProofs [a1,D5,PG]
 simp -implicitDefEqProofs [a1]
 refine Aa (hT w.tags (by unfold maxLen;omega)) ?_
 by_cases a2:EO w.tags=true
 rotate_left
 ·simp -implicitDefEqProofs [a2,D5,PG]
 simp -implicitDefEqProofs [a2]
 refine Aa (hK w.key) ?_
 by_cases a3:KL w.key=true
 rotate_left
 ·simp -implicitDefEqProofs [a3,D5,PG]
 by_cases e1:w.ends.length≤6
 rotate_left
 ·have e1':(6:Int)<w.ends.length:=by omega
  simp -implicitDefEqProofs [a3,e1',e1,D5]
 have e1':¬(6:Int)<w.ends.length:=by omega
 simp -implicitDefEqProofs [a3,e1']
 refine Aa (hC w.ends Avh [] (fun e=> !Aj e) (by unfold maxLen;omega) FJ (fun j hj=>h1' w.ends[j] (O1 hsz hj))) ?_
 rw[Asv]
 generalize hq:w.ends.all Aj=q
 by_cases e2:q=true
 rotate_left
 ·have e:D5 w=false:=by unfold D5;rw[hq];simp[e2]
  simp -implicitDefEqProofs [e2,e]
 have hq':=hq.trans e2
 simp -implicitDefEqProofs [e2]
 refine Aa (hR w.rollout (AfN hsz)) ?_
 by_cases b1:Br w.rollout=true
 rotate_left
 ·simp -implicitDefEqProofs [b1,D5,Lx]
 simp -implicitDefEqProofs [b1]
 refine Aa (hH w.server _ (by unfold maxLen;omega)) ?_
 by_cases b2:w.rollout.version∈w.server
 rotate_left
 ·simp -implicitDefEqProofs [b2,D5,Lx]
 simp -implicitDefEqProofs [b2]
 refine Aa (hI _ _ _) ?_
 by_cases b3:Ov w.least 1 100
 rotate_left
 ·simp -implicitDefEqProofs [b3,D5,Lx]
 simp -implicitDefEqProofs [b3]
 refine Aa (hI _ _ _) ?_
 by_cases b4:Ov w.percent 0 100
 rotate_left
 ·simp -implicitDefEqProofs [b4,D5,Lx]
 by_cases c1:w.stage.length≤60
 rotate_left
 ·have c1':¬(w.stage.length:Int)≤60:=by omega
  simp -implicitDefEqProofs [b4,c1',c1,D5,JD]
 have c1':(w.stage.length:Int)≤60:=by omega
 by_cases c2:w.log.length≤60
 rotate_left
 ·have c2':¬(w.log.length:Int)≤60:=by omega
  simp -implicitDefEqProofs [b4,c1',c2',c2,D5,JD]
 have c2':(w.log.length:Int)≤60:=by omega
 simp -implicitDefEqProofs [b4,c1',c2']
 refine Aa (hI _ _ _) ?_
 by_cases c3:Ov w.now 0 10000
 rotate_left
 ·simp -implicitDefEqProofs [b4,c1',c2',c3,D5,JD]
 simp -implicitDefEqProofs [b4,c1',c2',c3]
 refine Aa (hI _ _ _) ?_
 by_cases c4:Ov w.hurt 0 w.log.length
 rotate_left
 ·simp -implicitDefEqProofs [b4,c1',c2',c3,c4,D5,JD]
 simp -implicitDefEqProofs [b4,c1',c2',c3,c4]
 refine Aa (hI _ _ _) ?_
 have ec:JD w=decide (Ov w.reached 0 w.rollout.stages.length):=by unfold JD;simp[c1,c2,c3,c4]
 have ee:D5 w=JD w:=by unfold D5 PG Lx;rw[hq'];simp[a1,a2,a3,e1,b1,b2,b3,b4]
 simp -implicitDefEqProofs [ee,ec]
theorem Aqh (D:Dn) (hE:DV (D IX)) (hV:BG (D D6)) (hT:Nk (D Ah3)) (hK:IZ (D R9)) (hR:Iw (D Ac7)) (hH:Qw (D Ii)) (hL:Zb (D Ai2)) (hA:Wh (D Aga)) (hI:Tg (D CF)):Zf (Body D Ry):=by
 intro w hsz
 have hs:=Ma hsz
 have he:=FU hsz
 simp -implicitDefEqProofs
 refine Ae (fun k s=>∃j,j+k=w.ends.length∧(w.ends.take j).all Aj=true∧s=⟨[.undef,.ptr 0 0,.undef,I j,.undef,.undef,.undef],[.var ((FH w).map (AX 1)),.free]⟩) ?_ (w.ends.length) _ ⟨0,by simp,by simp,by simp⟩
 intro k s ⟨j,hj,hp,hs⟩
 subst hs
 by_cases hjn:j<w.ends.length
 ·have hw:IntKind.i64.wrap ((j:Int)+1)=(j+1:Nat):=by rw[Ac (by omega) (by omega)];simp
  have hst:=Vz (p:=Aj) hjn
  rw[hp,Bool.true_and]at hst
  simp -implicitDefEqProofs [hjn]
  refine Aa (hE w.ends[j] (Tj (O1 hsz hjn))) ?_
  by_cases h1:Aj w.ends[j]=true
  ·simp -implicitDefEqProofs [h1]
   exact⟨k-1,by omega,j+1,by omega,by simpa using hst.trans h1,by simp[hw]⟩
  ·have e:D5 w=false:=by unfold D5;rw[SF hjn (by simpa using h1)];simp
   simp -implicitDefEqProofs [h1,e]
 have hq':w.ends.all Aj=true:=by rw[←ZW (j:=j) (by omega),hp]
 simp -implicitDefEqProofs [hjn]
 refine Aa (hV w.server (by unfold maxLen;omega)) ?_
 by_cases v1:Ar w.server=true
 rotate_left
 ·simp -implicitDefEqProofs [v1,D5,PG,Ih]
 simp -implicitDefEqProofs [v1]
 refine Aa (hT w.tags (by unfold maxLen;omega)) ?_
 by_cases a2:EO w.tags=true
 rotate_left
 ·simp -implicitDefEqProofs [a2,D5,PG]
 simp -implicitDefEqProofs [a2]
 refine Aa (hK w.key) ?_
 by_cases a3:KL w.key=true
 rotate_left
 ·simp -implicitDefEqProofs [a3,D5,PG]
 by_cases e1:w.ends.length≤6
 rotate_left
 ·have e1':(6:Int)<w.ends.length:=by omega
  simp -implicitDefEqProofs [a3,e1',e1,D5]
 have e1':¬(6:Int)<w.ends.length:=by omega
 simp -implicitDefEqProofs [a3,e1']
 refine Aa (hR w.rollout (AfN hsz)) ?_
 by_cases b1:Br w.rollout=true
 rotate_left
 ·simp -implicitDefEqProofs [b1,D5,Lx]
 simp -implicitDefEqProofs [b1]
 refine Aa (hH w.server _ (by unfold maxLen;omega)) ?_
 by_cases b2:w.rollout.version∈w.server
 rotate_left
 ·simp -implicitDefEqProofs [b2,D5,Lx]
 simp -implicitDefEqProofs [b2]
 refine Aa (hL w hsz) ?_
 simp -implicitDefEqProofs [b2]
 refine Aa (hA w.server (Oy w) hs.1 (Ayd hsz)) ?_
 by_cases a1:Ih w.server (Oy w)=true
 rotate_left
 ·simp -implicitDefEqProofs [a1,D5,PG]
 simp -implicitDefEqProofs [a1]
 refine Aa (hI _ _ _) ?_
 by_cases b3:Ov w.least 1 100
 rotate_left
 ·simp -implicitDefEqProofs [b3,D5,Lx]
 simp -implicitDefEqProofs [b3]
 refine Aa (hI _ _ _) ?_
 by_cases b4:Ov w.percent 0 100
 rotate_left
 ·simp -implicitDefEqProofs [b4,D5,Lx]
 by_cases c1:w.stage.length≤60
 rotate_left
 ·have c1':¬(w.stage.length:Int)≤60:=by omega
  simp -implicitDefEqProofs [b4,c1',c1,D5,JD]
 have c1':(w.stage.length:Int)≤60:=by omega
 by_cases c2:w.log.length≤60
 rotate_left
 ·have c2':¬(w.log.length:Int)≤60:=by omega
  simp -implicitDefEqProofs [b4,c1',c2',c2,D5,JD]
 have c2':(w.log.length:Int)≤60:=by omega
 simp -implicitDefEqProofs [b4,c1',c2']
 refine Aa (hI _ _ _) ?_
 by_cases c3:Ov w.now 0 10000
 rotate_left
 ·simp -implicitDefEqProofs [b4,c1',c2',c3,D5,JD]
 simp -implicitDefEqProofs [b4,c1',c2',c3]
 refine Aa (hI _ _ _) ?_
 by_cases c4:Ov w.hurt 0 w.log.length
 rotate_left
 ·simp -implicitDefEqProofs [b4,c1',c2',c3,c4,D5,JD]
 simp -implicitDefEqProofs [b4,c1',c2',c3,c4]
 refine Aa (hI _ _ _) ?_
 have ec:JD w=decide (Ov w.reached 0 w.rollout.stages.length):=by unfold JD;simp[c1,c2,c3,c4]
 have ee:D5 w=JD w:=by unfold D5 PG Lx;rw[hq'];simp[a1,a2,a3,e1,b1,b2,b3,b4]
 simp -implicitDefEqProofs [ee,ec]
def AbW:World:=⟨[],[],0,[],⟨0,[],0,false⟩,0,0,[],[],0,0,0⟩
def CB (s t:List Int) (es:List Ai) (r:EP):World:=⟨s,t,77,es,r,4,25,[],[],0,0,0⟩
def M0 (s t:List Int) (es:List Ai) (r:EP):World×Bool:=if D5 (CB s t es r)=true then(CB s t es r,true)else(AbW,false)
abbrev V3 (R:Rel):Prop:=∀(s t:List Int) (es:List Ai) (r:EP),Bo (CB s t es r)≤4194304→R [.sl 1 1 s.length (ints s),.sl 1 1 t.length (ints t),.sl 1 4 es.length (es.flatMap Ap),arg (Iq r)] [] (.tup [.agg (FH (M0 s t es r).1),B (M0 s t es r).2]) []
theorem Aww (s t:List Int) (es:List Ai) (r:EP):Bo (CB s t es r)=s.length+t.length+Er Af es+G8 r:=by
 simp[Bo,CB,Er]
theorem AoW (D:Dn) (hC:Y8 (D Aip)) (hW:Zf (D Aim)):V3 (Body D PE):=by
 intro s t es r hsz
 simp -implicitDefEqProofs
 refine Aa (hC (CB s t es r) hsz) ?_
 simp -implicitDefEqProofs [CB]
 refine Aa (hW (CB s t es r) hsz) ?_
 generalize hq:D5 (CB s t es r)=q
 by_cases h1:q=true
 ·have e:M0 s t es r=(CB s t es r,true):=by unfold M0;rw[if_pos (hq.trans h1)]
  simp -implicitDefEqProofs [h1,e,CB]
 ·have e:M0 s t es r=(AbW,false):=by unfold M0;rw[if_neg (by rw[hq];exact h1)]
  simp -implicitDefEqProofs [h1,e,AbW]
end Go.Eng.T
namespace Go.Eng.T
set_option maxRecDepth 20000
set_option maxHeartbeats 1000000
def Qp (p q:Int):Int:=if Qt q 1 1000000000000 then(p.tmod q+q).tmod q else 0
abbrev Aib (R:Rel):Prop:=∀p q:Int,R [I p,I q] [] (I (Qp p q)) []
theorem AlO (p:Int) {q:Int} (h:1≤q):-q<p.tmod q∧p.tmod q<q:=by
 have h1:=Int.tmod_lt_of_pos p (show 0<q by omega)
 have h2:=Int.lt_tmod_of_pos p (show 0<q by omega)
 omega
theorem ACo (D:Dn) (hI:Tg (D Bz)):Aib (Body D AbN):=by
 intro p q
 simp -implicitDefEqProofs
 refine Aa (hI _ _ _) ?_
 by_cases h:Qt q 1 1000000000000
 rotate_left
 ·simp -implicitDefEqProofs [h,Qp]
 have h0:¬q=0:=by omega
 have hb:=AlO p (q:=q) (by omega)
 have hw:IntKind.i64.wrap (p.tmod q+q)=p.tmod q+q:=Ac (by omega) (by omega)
 have e:Qp p q=(p.tmod q+q).tmod q:=by unfold Qp;rw[if_pos h]
 simp -implicitDefEqProofs [h,h0,hw,e]
theorem AeK (p:Int) {q:Int} (h:Qt q 1 1000000000000):0≤Qp p q∧Qp p q<q:=by
 unfold Qp
 rw[if_pos h]
 have hb:=AlO p (q:=q) (by omega)
 have h1:=Int.tmod_nonneg q (show 0≤p.tmod q+q by omega)
 have h2:=Int.tmod_lt_of_pos (p.tmod q+q) (show 0<q by omega)
 exact⟨h1,h2⟩
def JL (s v:Int):Int:=(s*1000003+Qp v 2147483647+13).tmod 2147483647
def hash (xs:List Int):Int:=xs.foldl JL 11
abbrev UA (R:Rel):Prop:=∀xs:List Int,xs.length≤maxLen→R [.sl 1 1 xs.length (ints xs)] [] (I (hash xs)) []
theorem Au1 {s v:Int} (h:0≤s):0≤JL s v∧JL s v<2147483647:=by
 have hm:=AeK v (q:=2147483647) ⟨by omega,by omega⟩
 unfold JL
 exact⟨Int.tmod_nonneg _ (by omega),Int.tmod_lt_of_pos _ (by omega)⟩
theorem AjP {α:Type} {f:α→Int→α} {xs:List Int} {j:Nat} {a:α} (h:j<xs.length):(xs.take (j+1)).foldl f a=f ((xs.take j).foldl f a) xs[j]:=by
 have e:xs.take (j+1)=xs.take j++ [xs[j]]:=by simp
 rw[e,List.foldl_append];rfl
theorem AlS:∀(xs:List Int) {a:Int},0≤a→a<2147483647→0≤xs.foldl JL a∧xs.foldl JL a<2147483647
 | [],a,h1,h2=>⟨h1,h2⟩
 | x::xs,a,h1,h2=>by
  have:=Au1 (s:=a) (v:=x) h1
  exact AlS xs this.1 this.2
theorem AzO (D:Dn) (hM:Aib (D Akn)):UA (Body D Yn):=by
 intro xs hl
 unfold maxLen at hl
 simp -implicitDefEqProofs
 refine Ae (fun k s=>∃j,j+k=xs.length∧s=⟨[.undef,.undef,I ((xs.take j).foldl JL 11),.undef,.sl 1 1 xs.length (ints xs),I xs.length,I j,.undef],[]⟩) ?_ (xs.length) _ ⟨0,by simp,by simp⟩
 intro k s ⟨j,hj,hs⟩
 subst hs
 by_cases hjn:j<xs.length
 ·have hw:IntKind.i64.wrap ((j:Int)+1)=(j+1:Nat):=by rw[Ac (by omega) (by omega)];simp
  have hst:=AjP (f:=JL) (a:=(11:Int)) hjn
  have hb:=AlS (xs.take j) (a:=11) (by omega) (by omega)
  generalize(xs.take j).foldl JL 11=s at hst hb
  have hm:=AeK xs[j] (q:=2147483647) ⟨by omega,by omega⟩
  have w1:IntKind.i64.wrap (s*1000003)=s*1000003:=Ac (by omega) (by omega)
  have w2:IntKind.i64.wrap (s*1000003+Qp xs[j] 2147483647)=s*1000003+Qp xs[j] 2147483647:=Ac (by omega) (by omega)
  have w3:IntKind.i64.wrap (s*1000003+Qp xs[j] 2147483647+13)=s*1000003+Qp xs[j] 2147483647+13:=Ac (by omega) (by omega)
  simp -implicitDefEqProofs [hjn,w1]
  refine Aa (hM _ _) ?_
  simp -implicitDefEqProofs [w1,w2,w3]
  exact⟨k-1,by omega,j+1,by omega,by rw[hst];rfl,by simp[hw]⟩
 ·have e:xs.take j=xs:=List.take_of_length_le (by omega)
  simp -implicitDefEqProofs [hjn,e,hash]
def keyed (k:Int) (xs:List Int):Int:=hash (k::xs++ [k])
abbrev Vf (R:Rel):Prop:=∀(k:Int) (xs:List Int),xs.length≤4194304→R [I k,.sl 1 1 xs.length (ints xs)] [] (I (keyed k xs)) []
theorem LV (a:Int) (xs:List Int):V.sc (.int .i64 a)::ints xs=ints (a::xs):=rfl
def pick (seed p n:Int):Int:=if n<1 then 0 else Qp (hash [seed,p]) n
abbrev Xk (R:Rel):Prop:=∀seed p n:Int,R [I seed,I p,I n] [] (I (pick seed p n)) []
theorem Az8 (D:Dn) (hH:UA (D YE)) (hM:Aib (D Akn)):Xk (Body D TK):=by
 intro seed p n
 by_cases h:n<1
 ·simp -implicitDefEqProofs [h,pick]
 simp -implicitDefEqProofs [h]
 refine Aa (hH [seed,p] (by unfold maxLen;simp)) ?_
 simp -implicitDefEqProofs
 refine Aa (hM _ _) ?_
 simp -implicitDefEqProofs [pick,h]
theorem Lb (seed p:Int) {n:Int} (h:Qt n 1 1000000000000):0≤pick seed p n∧pick seed p n<n:=by
 unfold pick
 rw[if_neg (by omega)]
 exact AeK _ h
def DU (seed:Int):Int:=16*pick seed 0 16+10
abbrev HV (R:Rel):Prop:=∀seed:Int,R [I seed] [] (I (DU seed)) []
theorem AkY (D:Dn) (hP:Xk (D YU)):HV (Body D Oi):=by
 intro seed
 simp -implicitDefEqProofs
 refine Aa (hP _ _ _) ?_
 have hb:=Lb seed 0 (n:=16) ⟨by omega,by omega⟩
 have w1:IntKind.i64.wrap (16*pick seed 0 16)=16*pick seed 0 16:=Ac (by omega) (by omega)
 have w2:IntKind.i64.wrap (16*pick seed 0 16+10)=16*pick seed 0 16+10:=Ac (by omega) (by omega)
 simp -implicitDefEqProofs [w1,w2,DU]
def Gw (ls:List (List Int)):Bool:=decide (ls.length≤12)&&ls.all fun l=>allIn l 0 255
abbrev Jv (R:Rel):Prop:=∀ls:List (List Int),GH ls≤4194304→R [I8 ls] [] (B (Gw ls)) []
abbrev Wn (R:Rel):Prop:=∀l:List Int,l.length≤maxLen→R [.sl 1 1 l.length (ints l)] [] (B (!allIn l 0 255)) []
theorem Aq1 (D:Dn) (hN:Gu (D Gj)):Wn (Body D Iu):=by
 intro l hl
 simp -implicitDefEqProofs
 refine Aa (hN _ _ _ hl) ?_
 simp -implicitDefEqProofs
theorem Aq6 (D:Dn) (h1':Wn (D Nj)) (hC:Hw D (D Jo)):Jv (Body D JM):=by
 intro ls hl
 have hll:=Sg (xs:=ls)
 by_cases h5:ls.length≤12
 rotate_left
 ·have h5':¬(ls.length:Int)≤12:=by omega
  simp -implicitDefEqProofs [h5',h5,Gw]
 have h5':(ls.length:Int)≤12:=by omega
 simp -implicitDefEqProofs [h5']
 refine Aa (hC ls Nj [] (fun l=> !allIn l 0 255) (by unfold maxLen;omega) FJ (fun j hj=>h1' ls[j] (by have:=Aav hj;unfold maxLen;omega))) ?_
 rw[Asv]
 generalize hq:(ls.all fun l=>allIn l 0 255)=q
 simp -implicitDefEqProofs [Gw,h5,hq]
def Ht (x:Int) (b:List Int):Int:=hash (x::(b.length:Int)::b)
def FI (ls:List (List Int)):Int:=if Gw ls=true then ls.foldl Ht 1 else 0
abbrev H8 (R:Rel):Prop:=∀ls:List (List Int),GH ls≤4194304→R [I8 ls] [] (I (FI ls)) []
theorem Agm {α β:Type} {f:α→β→α} {xs:List β} {j:Nat} {a:α} (h:j<xs.length):(xs.take (j+1)).foldl f a=f ((xs.take j).foldl f a) xs[j]:=by
 have e:xs.take (j+1)=xs.take j++ [xs[j]]:=by simp
 rw[e,List.foldl_append];rfl
theorem Amj (D:Dn) (hT:Jv (D Pb)) (hH:UA (D YE)):H8 (Body D H7):=by
 intro ls hl
 have hll:=Sg (xs:=ls)
 simp -implicitDefEqProofs
 refine Aa (hT ls hl) ?_
 by_cases h1:Gw ls=true
 rotate_left
 ·simp -implicitDefEqProofs [h1,FI]
 simp -implicitDefEqProofs [h1]
 refine Ae (fun k s=>∃j o0 o1,j+k=ls.length∧s=⟨[.undef,.undef,I ((ls.take j).foldl Ht 1),.undef,.undef,I8 ls,I ls.length,I j,.undef],[o0,o1]⟩) ?_ (ls.length) _ ⟨0,.free,.free,by simp,by simp⟩
 intro k s ⟨j,o0,o1,hj,hs⟩
 subst hs
 by_cases hjn:j<ls.length
 ·have hw:IntKind.i64.wrap ((j:Int)+1)=(j+1:Nat):=by rw[Ac (by omega) (by omega)];simp
  have hst:=Agm (f:=Ht) (a:=(1:Int)) hjn
  have hra:=Aav hjn
  have b1:(2+ls[j].length)*8≤1099511627776:=by omega
  generalize(ls.take j).foldl Ht 1=x at hst
  have hh:=hH (x::(ls[j].length:Int)::ls[j]) (by unfold maxLen;simp;omega)
  have hlen:(x::(ls[j].length:Int)::ls[j]).length=2+ls[j].length:=by simp;omega
  rw[hlen]at hh
  simp only[←LV]at hh
  simp -implicitDefEqProofs [hjn,b1]
  refine Aa (hh) ?_
  simp -implicitDefEqProofs
  exact⟨k-1,by omega,j+1,by omega,by rw[hst];rfl,by simp[hw]⟩
 ·have e:ls.take j=ls:=List.take_of_length_le (by omega)
  have e2:FI ls=ls.foldl Ht 1:=by unfold FI;rw[if_pos h1]
  simp -implicitDefEqProofs [hjn,e,e2]
def BS (k:Int) (ls:List (List Int)) (side:Int):Int:=if KL k&&(Gw ls&&decide (Qt side 0 1))then keyed k [side,FI ls]else 0
abbrev OE (R:Rel):Prop:=∀(k:Int) (ls:List (List Int)) (side:Int),GH ls≤4194304→R [I k,I8 ls,I side] [] (I (BS k ls side)) []
theorem Au4 (D:Dn) (hV:IZ (D AbV)) (hT:Jv (D Pb)) (hI:Tg (D Bz)) (hH:H8 (D U8)) (hK:Vf (D AdX)):OE (Body D Qd):=by
 intro k ls side hl
 simp -implicitDefEqProofs
 refine Aa (hV k) ?_
 by_cases h1:KL k=true
 rotate_left
 ·simp -implicitDefEqProofs [h1,BS]
 simp -implicitDefEqProofs [h1]
 refine Aa (hT ls hl) ?_
 by_cases h2:Gw ls=true
 rotate_left
 ·simp -implicitDefEqProofs [h2,BS]
 simp -implicitDefEqProofs [h2]
 refine Aa (hI _ _ _) ?_
 by_cases h3:Qt side 0 1
 rotate_left
 ·simp -implicitDefEqProofs [h3,BS]
 simp -implicitDefEqProofs [h3]
 refine Aa (hH ls hl) ?_
 simp -implicitDefEqProofs
 refine Aa (hK k [side,FI ls] (by simp)) ?_
 simp -implicitDefEqProofs [BS,h1,h2,h3]
def OZ (k:Int) (ls:List (List Int)) (side f:Int):Bool:= !decide (f=0)&&decide (f=BS k ls side)
abbrev Uc (R:Rel):Prop:=∀(k:Int) (ls:List (List Int)) (side f:Int),GH ls≤4194304→R [I k,I8 ls,I side,I f] [] (B (OZ k ls side f)) []
theorem AlH (D:Dn) (hF:OE (D UU)):Uc (Body D NM):=by
 intro k ls side f hl
 by_cases h0:f=0
 ·simp -implicitDefEqProofs [h0,OZ]
 simp -implicitDefEqProofs [h0]
 refine Aa (hF k ls side hl) ?_
 simp -implicitDefEqProofs [OZ,h0,Anu]
end Go.Eng.T
namespace Go.Eng.T
set_option maxRecDepth 20000
set_option maxHeartbeats 1000000
theorem V8 {l:List Ext} (h:BX l=true):l.length≤6:=by
 unfold BX at h
 simp only[Bool.and_eq_true,decide_eq_true_eq]at h
 exact h.2
theorem AzU {l:List Ext} (h:BX l=true) {j:Nat} (hj:j<l.length):Rf l j=true:=by
 unfold BX at h
 simp only[Bool.and_eq_true]at h
 exact Abn.1 h.1 j hj
theorem Yy {l:List Ext} (h:BX l=true) {j:Nat} (hj:j<l.length):l[j].body.length≤4:=by
 have:=AzU h hj
 rw[O5 hj]at this
 unfold O9 at this
 simp only[Bool.and_eq_true,decide_eq_true_eq]at this
 exact this.1.2.1
def AqR (x:Ext):List Int:=x.tag::(x.body.length:Int)::x.body
def Lj (l:List Ext) (j:Nat):List Int:=(l.length:Int)::(l.take j).flatMap AqR
theorem Xy {l:List Ext} {j:Nat} (h:j<l.length):Lj l (j+1)=Lj l j++([l[j].tag,(l[j].body.length:Int)]++l[j].body):=by
 have e:l.take (j+1)=l.take j++ [l[j]]:=by simp
 unfold Lj
 rw[e,List.flatMap_append]
 simp[AqR]
theorem VW {l:List Ext} (h:BX l=true):∀j,j≤l.length→(Lj l j).length≤1+6*j
 | 0,_=>by simp[Lj]
 | j+1,hj=>by
  have ih:=VW h j (by omega)
  have hb:=Yy h (j:=j) (by omega)
  rw[Xy (by omega)]
  simp only[List.length_append,List.length_cons,List.length_nil]
  omega
def Dq (l:List Ext):List Int×Bool:=if BX l=true then(Lj l l.length,true)else([],false)
abbrev Fj (R:Rel):Prop:=∀l:List Ext,Q8 l→R [.sl 1 2 l.length (l.flatMap Bl)] [] (.tup [.sl 0 1 (Dq l).1.length (ints (Dq l).1),B (Dq l).2]) []
theorem Aiv (D:Dn) (hA:EW (D Js)):Fj (Body D LQ):=by
 intro l hl
 have hll:=hl.1
 simp -implicitDefEqProofs
 refine Aa (hA l hl) ?_
 by_cases h1:BX l=true
 rotate_left
 ·have e:Dq l=([],false):=by unfold Dq;rw[if_neg h1]
  simp -implicitDefEqProofs [h1,e]
 simp -implicitDefEqProofs [h1]
 refine Ae (fun k s=>∃j o1 o2 o3 o4,j+k=l.length∧s=⟨[.undef,.undef,.undef,.arr 5,.undef,.undef,.sl 1 2 l.length (l.flatMap Bl),I l.length,I j,.undef],[.free,o1,o2,o3,o4,.arr 1 0 (Lj l j).length (ints (Lj l j))]⟩) ?_ (l.length) _ ⟨0,.free,.free,.free,.free,by simp,by simp[Lj,ints]⟩
 intro k s ⟨j,o1,o2,o3,o4,hj,hs⟩
 subst hs
 by_cases hjn:j<l.length
 ·have hw:IntKind.i64.wrap ((j:Int)+1)=(j+1:Nat):=by rw[Ac (by omega) (by omega)];simp
  have hst:=Xy hjn
  have hle:=VW h1 j (by omega)
  have h6:=V8 h1
  have hb4:=Yy h1 hjn
  have b1:((Lj l j).length+2)*8≤1099511627776:=by omega
  have b2:((Lj l j).length+2+l[j].body.length)*8≤1099511627776:=by omega
  simp -implicitDefEqProofs [hjn,b1,b2]
  exact⟨k-1,by omega,j+1,by omega,by simp[hw],by rw[hst];simp;omega,by rw[hst];simp[ints]⟩
 ·obtain rfl:j=l.length:=by omega
  have e:Dq l=(Lj l l.length,true):=by unfold Dq;rw[if_pos h1]
  simp -implicitDefEqProofs [e]
theorem Km (l:List Ext):(Dq l).1.length≤37:=by
 unfold Dq
 split
 ·rename_i h
  have:=VW h l.length (Nat.le_refl _)
  have:=V8 h
  dsimp only;omega
 ·simp
def AJ (h:Hello):List Int:=if AP h=true then((h.versions.length:Int)::h.versions)++(Dq h.exts).1 else []
abbrev Gt (R:Rel):Prop:=∀h:Hello,hB h→R [arg (Ce h)] [] (.sl 0 1 (AJ h).length (ints (AJ h))) []
theorem SX {h:Hello} (hh:AP h=true):Ar h.versions=true:=by unfold AP at hh;simp only[Bool.and_eq_true]at hh;exact hh.1
theorem Ab5 {h:Hello} (hh:AP h=true):BX h.exts=true:=by unfold AP at hh;simp only[Bool.and_eq_true]at hh;exact hh.2
def Gp (a:O7):Bool:=decide (InV a.version 1 9)&&BX a.exts
def Au (a:O7):List Int:=if Gp a=true then a.version::(Dq a.exts).1 else []
abbrev G6 (R:Rel):Prop:=∀a:O7,Q8 a.exts→R [arg (Wj a)] [] (B (Gp a)) []
theorem Ana (D:Dn) (hI:Tg (D Bz)) (hE:EW (D Js)):G6 (Body D Px):=by
 intro a ha
 simp -implicitDefEqProofs
 refine Aa (hI _ _ _) ?_
 by_cases h1:InV a.version 1 9
 rotate_left
 ·simp -implicitDefEqProofs [h1,Gp]
 simp -implicitDefEqProofs [h1]
 refine Aa (hE _ ha) ?_
 simp -implicitDefEqProofs [Gp,h1]
abbrev FR (R:Rel):Prop:=∀a:O7,Q8 a.exts→R [arg (Wj a)] [] (.sl 0 1 (Au a).length (ints (Au a))) []
theorem Adk (a:O7):(Au a).length≤38:=by
 unfold Au
 have:=Km a.exts
 split
 ·simp only[List.length_cons];omega
 ·simp
theorem Afr (D:Dn) (hI:G6 (D U6)) (hE:Fj (D Sq)):FR (Body D Lh):=by
 intro a ha
 simp -implicitDefEqProofs
 refine Aa (hI a ha) ?_
 by_cases h1:Gp a=true
 rotate_left
 ·have e:Au a=[]:=by unfold Au;rw[if_neg h1]
  simp -implicitDefEqProofs [h1,e]
 have hl:=Km a.exts
 have e:Au a=a.version::(Dq a.exts).1:=by unfold Au;rw[if_pos h1]
 rw[e]
 simp -implicitDefEqProofs [h1]
 refine Aa (hE a.exts ha) ?_
 generalize(Dq a.exts).1=r at hl
 have b2:(1+r.length)*8≤1099511627776:=by omega
 have el:r.length+1=1+r.length:=by omega
 simp -implicitDefEqProofs [b2,LV,el]
def Aew (h:Hello) (x:Ext):Bool:=decide (x.tag∈Ao h.exts)&& !Aq x.tag
def Cy (h:Hello) (a:O7):Bool:=AP h&&(Gp a&&(decide (a.version∈h.versions)&&a.exts.all (Aew h)))
abbrev IE (R:Rel):Prop:=∀(h:Hello) (a:O7),hB h→Q8 a.exts→R [arg (Ce h),arg (Wj a)] [] (B (Cy h a)) []
theorem Aw3 {α:Type} {p:α→Bool} {xs:List α} {i:Int} (h:0≤i):(Gr p xs i<0)=¬(xs.any p=true):=by
 have:=Ur (p:=p) (xs:=xs) h
 rw[←this]
 exact propext ⟨fun h=>by omega,fun h=>by omega⟩
theorem AAX (l:List Ext) (t:Int):l.any (EZ t)=decide (t∈Ao l):=by
 rw[Bool.eq_iff_iff]
 simp only[List.any_eq_true,decide_eq_true_eq,Ao,List.mem_map,EZ]
theorem Kh (l:List Ext) (t:Int):(Ij l t<0)=¬(t∈Ao l):=by
 unfold Ij
 rw[Aw3 (by omega),AAX]
 simp
abbrev Tv (R:Rel):Prop:=∀l:List Ext,l.length≤4194304→R [.sl 1 2 l.length (l.flatMap Bl)] [] (B ((Ao l).any Aq)) []
theorem AlQ (D:Dn) (hT:JH (D OA)) (hH:M6 (D Si)):Tv (Body D Oh):=by
 intro l hl
 simp -implicitDefEqProofs
 refine Aa (hT l hl) ?_
 simp -implicitDefEqProofs
 refine Aa (hH (Ao l) (by rw[Jw];unfold maxLen;omega)) ?_
 generalize(Ao l).any Aq=q
 simp -implicitDefEqProofs
theorem AAm (h:Hello) (a:O7):a.exts.all (Aew h)=(decide (leftOf (Ao a.exts) (Ao h.exts)=[])&& !(Ao a.exts).any Aq):=by
 have h1:decide (leftOf (Ao a.exts) (Ao h.exts)=[])=a.exts.all fun x=>decide (x.tag∈Ao h.exts):=by
  rw[Bool.eq_iff_iff,decide_eq_true_eq,List.all_eq_true]
  unfold leftOf
  rw[List.filter_eq_nil_iff]
  constructor
  ·intro hp x hx
   have:=hp x.tag (List.mem_map.2 ⟨x,hx,rfl⟩)
   simpa using this
  ·intro hp v hv
   obtain⟨x,hx,rfl⟩:=List.mem_map.1 hv
   simpa using hp x hx
 have h2:(!(Ao a.exts).any Aq)=a.exts.all fun x=> !Aq x.tag:=by
  unfold Ao
  rw[List.any_map,List.all_eq_not_any_not]
  simp[Function.comp_def]
 rw[h1,h2]
 generalize a.exts=l
 induction l with
 | nil=>rfl
 | cons x r ih=>
  simp only[List.all_cons,ih,Aew]
  generalize decide (x.tag∈Ao h.exts)=p1
  generalize Aq x.tag=p2
  cases p1<;>cases p2<;>simp
theorem AlC (D:Dn) (hI:Dg (D FY)) (hA:G6 (D U6)) (hH:Qw (D Be)) (hT:JH (D OA)) (hL:QD (D Jr)) (hG:Tv (D Ac9)):IE (Body D ND):=by
 intro h a hh ha
 have hal:=ha.1
 have hxl:=hh.2.1
 have hvl:=hh.1
 simp -implicitDefEqProofs
 refine Aa (hI h hh) ?_
 by_cases g1:AP h=true
 rotate_left
 ·simp -implicitDefEqProofs [g1,Cy]
 simp -implicitDefEqProofs [g1]
 refine Aa (hA a ha) ?_
 by_cases g2:Gp a=true
 rotate_left
 ·simp -implicitDefEqProofs [g2,Cy]
 simp -implicitDefEqProofs [g2]
 refine Aa (hH _ _ (by unfold maxLen;omega)) ?_
 by_cases g3:a.version∈h.versions
 rotate_left
 ·simp -implicitDefEqProofs [g3,Cy]
 have e2:Cy h a=(decide (leftOf (Ao a.exts) (Ao h.exts)=[])&& !(Ao a.exts).any Aq):=by unfold Cy;rw[AAm,g1,g2];simp[g3]
 rw[e2]
 simp -implicitDefEqProofs [g3]
 refine Aa (hT a.exts hal) ?_
 simp -implicitDefEqProofs
 refine Aa (hT h.exts hxl) ?_
 simp -implicitDefEqProofs
 refine Aa (hL (Ao a.exts) (Ao h.exts) (by rw[Jw];exact hal) (by rw[Jw];exact hxl)) ?_
 by_cases g4:leftOf (Ao a.exts) (Ao h.exts)=[]
 rotate_left
 ·simp -implicitDefEqProofs [g4,Anu]
 simp -implicitDefEqProofs [g4,Anu]
 refine Aa (hG a.exts hal) ?_
 generalize(Ao a.exts).any Aq=q
 simp -implicitDefEqProofs
def AU (vs tags:List Int) (h:Hello):O7×Bool:=if AP h&& !decide (AB vs h.versions=0)then(⟨AB vs h.versions,Hf (Eo h.exts tags)⟩,true)else(⟨0,[]⟩,false)
abbrev QH (R:Rel):Prop:=∀(vs tags:List Int) (h:Hello),vs.length≤4194304→tags.length≤4194304→hB h→R [.sl 1 1 vs.length (ints vs),.sl 1 1 tags.length (ints tags),arg (Ce h)] [] (.tup [.agg (Wj (AU vs tags h).1),B (AU vs tags h).2]) []
theorem As1 (D:Dn) (hB':EA (D SK)) (hI:Dg (D FY)) (hK:KJ (D AiW)) (hS:FO (D Aan)):QH (Body D J3):=by
 intro vs tags h hv ht hh
 simp -implicitDefEqProofs
 refine Aa (hB' vs h.versions hv hh.1) ?_
 simp -implicitDefEqProofs
 refine Aa (hI h hh) ?_
 by_cases h1:AP h=true
 rotate_left
 ·simp -implicitDefEqProofs [h1,AU]
 by_cases h2:AB vs h.versions=0
 ·simp -implicitDefEqProofs [h1,h2,AU]
 have e:AU vs tags h=(⟨AB vs h.versions,Hf (Eo h.exts tags)⟩,true):=by unfold AU;rw[if_pos (by simp[h1,h2])]
 simp -implicitDefEqProofs [h1,h2]
 refine Aa (hK h.exts tags hh.2 (by unfold maxLen;omega)) ?_
 simp -implicitDefEqProofs
 refine Aa (hS (Eo h.exts tags) (Tc hh.2 _)) ?_
 simp -implicitDefEqProofs [e]
end Go.Eng.T
namespace Go.Eng.T
open Go.Eng.X
def Vt:Nat→Bu
 |0=>R 0 [m f] [] [1]
 |_=>R 1 [m (s 0),e (l 0),y .gtr (l 1) (i 1048576),m (l 2)] [(1,3)] [0]
def AbD:Bw:=⟨2,0,[0],0,false,[],j (d (Vt 0)) (j (d (Vt 1)) (.ret)),[.slot 1]⟩
def Anw:List Tmp:=[0,2]
attribute [simp] Vt AbD
end Go.Eng.T
namespace Go.Eng.T
open Go.Eng.X
def Fs:Nat→Bu
 |0=>R 0 [m u] [] [1]
 |1=>R 1 [m (s 0),e (l 0),y .add (i 193017) (l 1),m (l 2)] [(2,3)] []
 |2=>R 2 [m (i 0)] [(3,0)] []
 |3=>R 3 [m (s 3),m (s 0),e (l 1),y .lss (l 0) (l 2),m (l 3),J 4 (m (s 3)),J 4 (y .lss (l 5) (i 4000)),k (l 4) (l 6) f] [(4,7)] []
 |4=>R 5 [m (s 2),y .mul (l 0) (i 137),m (s 0),m (s 3),A 1 (l 2) (l 3),L (l 4),LD.conv .i64 (l 5),y .add (l 1) (l 6),y .add (l 7) (i 11),y .and (l 8) (i 1073741823),m (l 9)] [(2,10)] []
 |5=>R 4 [m (s 3),y .add (l 0) (i 1),m (l 1)] [(3,2)] []
 |_=>R 6 [m (s 0),m (s 2),b [N 1,o,o] [(0,1,l 0),(2,1,l 1)],x 0 (l 2),m (l 3)] [(1,4)] [0,2,3]
def Ni:Bw:=⟨5,1,[0],0,false,[],j (d (Fs 0)) (j (d (Fs 1)) (j (j (d (Fs 2)) (.block 0 (.loop (j (j (d (Fs 3)) (h 4 (.skip) (.exit 0))) (j (.block 1 (d (Fs 4))) (d (Fs 5))))))) (j (d (Fs 6)) (.ret)))),[.slot 1]⟩
def AiC:List Tmp:=[0,2,3,4,15]
def Eh:Nat→Bu
 |0=>R 0 [m (z 1)] [] [1]
 |1=>Q 1 [m (s 0),C 478 [v (l 0),r (i 4)] [],y .add (i 1) (l 1),M 1 1 1 [l 2],m (l 3)] [(2,4)] [] [] [w 1 3]
 |2=>R 2 [m (s 0),C 478 [v (l 0),r (i 4)] [],m (l 1)] [(3,2)] []
 |3=>R 3 [m (s 3),y .gtr (l 0) (i 0)] [(4,1)] []
 |4=>Q 5 [m (s 2),m (s 0),C 478 [v (l 1),r (i 6)] [],y .add (i 1) (l 2),C 159 [r (l 0),r (l 3)] [2],m (l 4)] [(2,5)] [] [2] [w 2 3]
 |5=>R 4 [m (s 3),y .sub (l 0) (i 1),m (l 1)] [(3,2)] []
 |_=>R 6 [m (s 2),m (l 0)] [(1,1)] [0,2,3]
def MK:Bw:=⟨5,4,[0],1,false,[],j (d (Eh 0)) (j (d (Eh 1)) (j (j (d (Eh 2)) (.block 0 (.loop (j (j (d (Eh 3)) (h 4 (.skip) (.exit 0))) (j (.block 1 (d (Eh 4))) (d (Eh 5))))))) (j (d (Eh 6)) (.ret)))),[.slot 1]⟩
def AdD:List Tmp:=[0,2,3,4,12]
def CO:Nat→Bu
 |0=>R 0 [m (i 0)] [] [2]
 |1=>R 1 [m (s 1),y .leq (l 0) (i 0)] [(6,1)] []
 |2=>R 2 [m (i 0)] [(2,0)] [0,1]
 |3=>R 3 [m (s 1),y .leq (l 0) (i 256)] [(7,1)] []
 |4=>R 4 [m (s 0),C 486 [v (l 0)] [],m (s 1),y .rem (l 1) (l 2),m (l 3)] [(2,4)] [0,1]
 |5=>R 5 [m (s 0),C 486 [v (l 0)] [],m (l 1)] [(3,2)] []
 |6=>R 6 [m (s 0),C 486 [v (l 0)] [],m (l 1)] [(4,2)] []
 |7=>R 7 [m (s 0),C 486 [v (l 0)] [],m (l 1)] [(5,2)] [0]
 |_=>R 8 [m (s 3),y .mul (l 0) (i 65536),m (s 4),y .mul (l 2) (i 256),y .add (l 1) (l 3),m (s 5),y .add (l 4) (l 5),m (s 1),y .rem (l 6) (l 7),m (l 8)] [(2,9)] [1,3,4,5]
def MR:Bw:=⟨8,1,[0,1],1,false,[],j (d (CO 0)) (j (j (d (CO 1)) (h 6 (j (d (CO 2)) (.ret)) (.skip))) (j (j (d (CO 3)) (h 7 (j (d (CO 4)) (.ret)) (.skip))) (j (d (CO 5)) (j (d (CO 6)) (j (d (CO 7)) (j (d (CO 8)) (.ret))))))),[.slot 2]⟩
def AcZ:List Tmp:=[0,1,4,5,6,7,9,11]
def Ef:Nat→Bu
 |0=>R 0 [a 1 zE] [(1,0)] []
 |1=>Q 1 [m (s 0),C 490 [v (l 0)] [2],m (s 0),C 493 [v (l 2)] [3],m (s 0),C 478 [v (l 4),r (i 6)] [],b zE [(0,1,l 1),(2,1,l 3),(3,1,l 5)],a 4 zE,W 4 (l 7) (l 6)] [(2,7)] [] [] [.ownc 4 1 7]
 |2=>R 2 [m (s 0),C 478 [v (l 0),r (i 4)] [],m (l 1)] [(3,2)] []
 |3=>R 3 [m (s 3),y .gtr (l 0) (i 0)] [(4,1)] []
 |4=>Y 5 [D (F (s 2) 1) [] [],D (L (l 0)) [4] [],D (m (s 0)) [] [],D (M 5 1 5 [i 1,i 2,i 3,i 40,i 200]) [5] [5],D (C 481 [v (l 2),r (l 3)] []) [0,5] [0],D (C 159 [r (l 1),r (l 4)] [6]) [6,7] [6],D (F (s 2) 1) [] [],D (W 1 (l 6) (l 5)) [4] [4]] [] [] [5,6] [w 6 7]
 |5=>R 4 [m (s 3),y .sub (l 0) (i 1),m (l 1)] [(3,2)] []
 |_=>R 6 [P 4 (s 2),W 4 (s 1) (l 0)] [] [0,2,3]
def MO:Bw:=⟨5,8,[0],1,false,[],j (d (Ef 0)) (j (d (Ef 1)) (j (j (d (Ef 2)) (.block 0 (.loop (j (j (d (Ef 3)) (h 4 (.skip) (.exit 0))) (j (.block 1 (d (Ef 4))) (d (Ef 5))))))) (j (d (Ef 6)) (.ret)))),[.cell 1 (some 4)]⟩
def Aeb:List Tmp:=[0,2,3,4,15]
def Qa:Nat→Bu
 |0=>R 0 [m f] [] [2]
 |_=>R 1 [m (s 0),m (s 1),C 478 [v (l 0),r (l 1)] [],y .eql (l 2) (i 0),m (l 3)] [(2,4)] [0,1]
def OG:Bw:=⟨3,1,[0,1],1,false,[],j (d (Qa 0)) (j (d (Qa 1)) (.ret)),[.slot 2]⟩
def AfC:List Tmp:=[0,1,4]
def CR:Nat→Bu
 |0=>R 0 [a 1 zR] [(1,0)] []
 |1=>Q 1 [m (s 0),C 478 [v (l 0),r (i 6)] [],y .add (i 1) (l 1),b zR [(0,1,l 2)],a 2 zR,W 4 (l 4) (l 3)] [(2,4)] [] [] [.ownc 2 1 6]
 |2=>R 2 [m (s 0),C 478 [v (l 0),r (i 3)] [],m (l 1)] [(3,2)] []
 |3=>R 3 [m (s 3),y .gtr (l 0) (i 0)] [(4,1)] []
 |4=>Y 5 [D (F (s 2) 1) [] [],D (L (l 0)) [2] [],D (m (s 0)) [] [],D (C 478 [v (l 2),r (i 90)] []) [0] [0],D (y .add (i 1) (l 3)) [] [],D (C 159 [r (l 1),r (l 4)] [3]) [3,6] [3],D (F (s 2) 1) [] [],D (W 1 (l 6) (l 5)) [2] [2]] [] [] [3] [w 3 6]
 |5=>R 4 [m (s 3),y .sub (l 0) (i 1),m (l 1)] [(3,2)] []
 |6=>Q 6 [F (s 2) 1,L (l 0),M 4 1 1 [i 100],q 5 1 8 (l 1) (l 2),F (s 2) 1,W 1 (l 4) (l 3)] [] [3] [] [w 5 6]
 |7=>R 7 [m (s 0),F (s 2) 1,L (l 1),e (l 2),C 478 [v (l 0),r (l 3)] [],F (s 2) 2,W 1 (l 5) (l 4)] [] [0]
 |_=>R 8 [P 4 (s 2),W 4 (s 1) (l 0)] [] [2]
def MS:Bw:=⟨5,7,[0],1,false,[],j (d (CR 0)) (j (d (CR 1)) (j (j (d (CR 2)) (.block 0 (.loop (j (j (d (CR 3)) (h 4 (.skip) (.exit 0))) (j (.block 1 (d (CR 4))) (d (CR 5))))))) (j (d (CR 6)) (j (d (CR 7)) (j (d (CR 8)) (.ret)))))),[.cell 1 (some 4)]⟩
def AdF:List Tmp:=[0,2,3,4,12]
def Eg:Nat→Bu
 |0=>R 0 [m (z 1)] [] [1]
 |1=>Q 1 [M 1 1 0 [],m (l 0)] [(2,1)] [] [] [w 1 4]
 |2=>R 2 [m (s 0),C 478 [v (l 0),r (i 5)] [],m (l 1)] [(3,2)] []
 |3=>R 3 [m (s 3),y .gtr (l 0) (i 0)] [(4,1)] []
 |4=>Q 5 [m (s 2),m (s 0),M 2 1 6 [i 1,i 2,i 3,i 10,i 40,i 200],C 481 [v (l 1),r (l 2)] [],C 159 [r (l 0),r (l 3)] [3],m (l 4)] [(2,5)] [] [2,3] [w 3 4]
 |5=>R 4 [m (s 3),y .sub (l 0) (i 1),m (l 1)] [(3,2)] []
 |_=>R 6 [m (s 2),m (l 0)] [(1,1)] [0,2,3]
def MW:Bw:=⟨5,5,[0],1,false,[],j (d (Eg 0)) (j (d (Eg 1)) (j (j (d (Eg 2)) (.block 0 (.loop (j (j (d (Eg 3)) (h 4 (.skip) (.exit 0))) (j (.block 1 (d (Eg 4))) (d (Eg 5))))))) (j (d (Eg 6)) (.ret)))),[.slot 1]⟩
def Ael:List Tmp:=[0,2,3,4,9]
def EG:Nat→Bu
 |0=>R 0 [m (i 0)] [] [1]
 |1=>R 1 [m (s 0),m (s 0),F (l 1) 0,F (l 2) 2,L (l 3),y .mul (l 4) (i 6364136223846793005),y .add (l 5) (i 1442695040888963407),F (l 0) 0,F (l 7) 2,W 1 (l 8) (l 6)] [] []
 |2=>T 2 [D (m (s 0)) [] [],D (F (l 0) 0) [] [],D (F (l 1) 2) [] [],D (L (l 2)) [0] [],D (y .shr (l 3) (.con (.sc (.int .u64 33)))) [] [],D (m (s 0)) [] [],D (F (l 5) 0) [] [],D (F (l 6) 2) [] [],D (L (l 7)) [0] [],D (y .shr (l 8) (.con (.sc (.int .u64 47)))) [] [],D (y .xor (l 4) (l 9)) [] [],D (y .and (l 10) (i 255)) [] [],D (m (l 11)) [] []] [(2,12)] []
 |3=>T 3 [D (m (s 0)) [] [],D (F (l 0) 0) [] [],D (F (l 1) 1) [] [],D (L (l 2)) [0] [],D (m (s 0)) [] [],D (F (l 4) 0) [] [],D (F (l 5) 0) [] [],D (L (l 6)) [0] [],D (e (l 7)) [] [],D (y .lss (l 3) (l 8)) [] []] [(3,9)] []
 |4=>T 4 [D (m (s 2)) [] [],D (m (s 0)) [] [],D (F (l 1) 0) [] [],D (F (l 2) 0) [] [],D (L (l 3)) [0] [],D (m (s 0)) [] [],D (F (l 5) 0) [] [],D (F (l 6) 1) [] [],D (L (l 7)) [0] [],D (A 1 (l 4) (l 8)) [] [],D (L (l 9)) [] [],D (.conv .i64 (l 10)) [] [],D (y .add (l 0) (l 11)) [] [],D (y .and (l 12) (i 255)) [] [],D (m (l 13)) [] []] [(2,14)] []
 |5=>R 5 [m (s 0),m (s 0),F (l 1) 0,F (l 2) 1,L (l 3),y .add (l 4) (i 1),F (l 0) 0,F (l 6) 1,W 1 (l 7) (l 5)] [] [0]
 |_=>R 6 [m (s 2),m (l 0)] [(1,1)] [2]
def OH:Bw:=⟨4,1,[0],1,false,[],j (d (EG 0)) (j (d (EG 1)) (j (d (EG 2)) (j (j (d (EG 3)) (h 3 (j (d (EG 4)) (d (EG 5))) (.skip))) (j (d (EG 6)) (.ret))))),[.slot 1]⟩
def AhS:List Tmp:=[0,2,3,34]
def Ej:Nat→Bu
 |0=>R 0 [m (z 4)] [] [1]
 |1=>Q 1 [M 1 4 0 [],m (l 0)] [(2,1)] [] [] [w 1 6]
 |2=>R 2 [m (s 0),C 478 [v (l 0),r (i 4)] [],m (l 1)] [(3,2)] []
 |3=>R 3 [m (s 3),y .gtr (l 0) (i 0)] [(4,1)] []
 |4=>Q 5 [m (s 2),m (s 0),C 494 [v (l 1)] [2,3],M 4 4 1 [l 2],p 5 4 64 (l 0) (l 3),m (l 4)] [(2,5)] [] [2,3,4,5] [w 5 6]
 |5=>R 4 [m (s 3),y .sub (l 0) (i 1),m (l 1)] [(3,2)] []
 |_=>R 6 [m (s 2),m (l 0)] [(1,1)] [0,2,3]
def MN:Bw:=⟨5,7,[0],1,false,[],j (d (Ej 0)) (j (d (Ej 1)) (j (j (d (Ej 2)) (.block 0 (.loop (j (j (d (Ej 3)) (h 4 (.skip) (.exit 0))) (j (.block 1 (d (Ej 4))) (d (Ej 5))))))) (j (d (Ej 6)) (.ret)))),[.slot 1]⟩
def Ad3:List Tmp:=[0,2,3,4,9]
def RN:Nat→Bu
 |0=>R 0 [m (i 0)] [] [2]
 |_=>R 1 [m (s 1),m (s 0),m (s 1),e (l 2),C 478 [v (l 1),r (l 3)] [],A 1 (l 0) (l 4),L (l 5),m (l 6)] [(2,7)] [0,1]
def Qy:Bw:=⟨3,1,[0,1],1,false,[],j (d (RN 0)) (j (d (RN 1)) (.ret)),[.slot 2]⟩
def Ajt:List Tmp:=[0,1,4]
def Bj:Nat→Bu
 |0=>R 0 [a 1 zW] [(1,0)] []
 |1=>R 1 [M 2 1 1 [i 1],m (s 0),C 478 [v (l 1),r (i 2)] [],y .add (i 2) (l 2),C 159 [r (l 0),r (l 3)] [3],m (s 0),C 478 [v (l 5),r (i 2)] [],y .add (i 4) (l 6),C 159 [r (l 4),r (l 7)] [4],m (l 8)] [(2,9)] []
 |2=>R 2 [m (s 0),C 487 [v (l 0)] [5],a 6 zR,W 4 (l 2) (l 1)] [(3,2)] []
 |3=>R 3 [m (s 2),m (s 2),e (l 1),y .sub (l 2) (i 1),A 1 (l 0) (l 3),L (l 4),F (s 3) 0,W 1 (l 6) (l 5)] [] []
 |4=>R 4 [F (s 3) 2,W 1 (l 0) (i 0)] [] []
 |5=>Q 5 [M 7 4 0 [],m (l 0)] [(4,1)] [] [] [w 7 24]
 |6=>R 6 [m (s 0),C 478 [v (l 0),r (i 4)] [],y .add (i 2) (l 1),m (l 2)] [(5,3)] []
 |7=>R 7 [m (s 5),y .gtr (l 0) (i 0)] [(8,1)] []
 |8=>Q 9 [m (s 0),C 488 [v (l 0)] [8,9,10],a 11 zE,W 4 (l 2) (l 1)] [(6,2)] [] [8,9,10,11] []
 |9=>Q 10 [M 12 1 1 [i 1],m (s 0),C 478 [v (l 1),r (i 2)] [],y .add (i 2) (l 2),C 159 [r (l 0),r (l 3)] [13],F (s 6) 0,W 1 (l 5) (l 4)] [] [] [12,13] []
 |10=>Q 11 [m (s 4),P 4 (s 6),M 14 4 1 [l 1],p 15 4 80 (l 0) (l 2),m (l 3)] [(4,4)] [6] [14,15] [w 15 24]
 |11=>R 8 [m (s 5),y .sub (l 0) (i 1),m (l 1)] [(5,2)] []
 |12=>T 12 [D (m (s 2)) [] [],D (m (s 0)) [] [],D (C 489 [v (l 1)] [16]) [0,16] [0,16],D (m (s 4)) [] [],D (P 4 (s 3)) [6] [],D (C 70 [r (l 0),r (l 2),r (l 3),r (l 4)] [17,18,19,20,21,22]) [4,5,16,17,18,19,20,21,22,24] [17,18,19,20,21,22],D (m (l 5)) [] [],D (X (l 6) 0) [] [],D (X (l 6) 1) [] [],D (a 23 zW) [23] [23],D (W 15 (l 9) (l 7)) [23] [23],D (m (l 8)) [] []] [(7,9)] [0,2,3,4,5]
 |_=>R 13 [P 15 (s 7),W 15 (s 1) (l 0)] [] [7]
def Lp:Bw:=⟨9,25,[0],1,false,[],j (d (Bj 0)) (j (d (Bj 1)) (j (d (Bj 2)) (j (d (Bj 3)) (j (d (Bj 4)) (j (d (Bj 5)) (j (j (d (Bj 6)) (.block 0 (.loop (j (j (d (Bj 7)) (h 8 (.skip) (.exit 0))) (j (.block 1 (j (d (Bj 8)) (j (d (Bj 9)) (d (Bj 10))))) (d (Bj 11))))))) (j (d (Bj 12)) (j (d (Bj 13)) (.ret))))))))),[.cell 1 (some 15)]⟩
def Abi:List Tmp:=[0,2,3,4,5,6,7,8,34]
def BM:Nat→Bu
 |0=>R 0 [a 1 [o,N 1,N 1,c]] [(1,0)] []
 |1=>Q 1 [b [o,N 1,N 1,c] [],a 2 [o,N 1,N 1,c],W 4 (l 1) (l 0)] [(2,1)] [] [] [.ownc 2 1 6,.ownc 2 2 5]
 |2=>R 2 [m (s 0),C 478 [v (l 0),r (i 7)] []] [(3,1)] []
 |3=>R 3 [y .eql (s 3) (i 0),m (l 0)] [(4,1)] []
 |4=>R 4 [m (s 0),C 478 [v (l 0),r (i 6)] [],y .add (i 1) (l 1),F (s 2) 0,W 1 (l 3) (l 2)] [] [0,3]
 |5=>R 5 [y .eql (s 3) (i 1),m (l 0)] [(5,1)] []
 |6=>Q 6 [m (s 0),C 489 [v (l 0)] [3],F (s 2) 1,W 1 (l 2) (l 1)] [] [0,3] [] [w 3 6]
 |7=>R 7 [y .eql (s 3) (i 2),m (l 0)] [(6,1)] []
 |8=>Q 8 [m (s 0),C 489 [v (l 0)] [4],F (s 2) 2,W 1 (l 2) (l 1)] [] [0,3] [] [w 4 5]
 |9=>R 9 [y .eql (s 3) (i 3),m (l 0)] [(7,1)] [0,3]
 |10=>R 10 [F (s 2) 3,W 1 (l 0) t] [] []
 |_=>R 11 [P 4 (s 2),W 4 (s 1) (l 0)] [] [2]
def MQ:Bw:=⟨8,7,[0],1,false,[],j (d (BM 0)) (j (d (BM 1)) (j (j (d (BM 2)) (.block 0 (j (d (BM 3)) (h 4 (d (BM 4)) (j (d (BM 5)) (h 5 (d (BM 6)) (j (d (BM 7)) (h 6 (d (BM 8)) (j (d (BM 9)) (h 7 (d (BM 10)) (.skip))))))))))) (j (d (BM 11)) (.ret)))),[.cell 1 (some 4)]⟩
def AeA:List Tmp:=[0,2,3,6,7,13,18,23]
def ADR:Nat→Bu
 |0=>R 0 [m (z 6)] [] [2]
 |1=>Q 1 [b [o,o,o,N 1,N 1,c] [(0,1,i 2)],M 1 6 1 [l 0],m (l 1)] [(3,2)] [] [] [w 1 6]
 |2=>R 2 [m (s 0),m (s 1),C 478 [v (l 0),r (l 1)] [],m (l 2)] [(4,3)] [1]
 |3=>R 3 [m (s 4),y .gtr (l 0) (i 0)] [(5,1)] []
 |4=>Q 5 [m (s 3),m (s 0),C 492 [v (l 1)] [2,3],M 4 6 1 [l 2],p 5 6 80 (l 0) (l 3),m (l 4)] [(3,5)] [] [2,3,4,5] [w 5 6]
 |5=>R 4 [m (s 4),y .sub (l 0) (i 1),m (l 1)] [(4,2)] []
 |_=>R 6 [m (s 3),m (l 0)] [(2,1)] [0,3,4]
def AGn:Bw:=⟨6,7,[0,1],1,false,[],j (d (ADR 0)) (j (d (ADR 1)) (j (j (d (ADR 2)) (.block 0 (.loop (j (j (d (ADR 3)) (h 5 (.skip) (.exit 0))) (j (.block 1 (d (ADR 4))) (d (ADR 5))))))) (j (d (ADR 6)) (.ret)))),[.slot 2]⟩
def AJt:List Tmp:=[0,1,4,5,6,13]
def AhX:Nat→Bu
 |0=>R 0 [a 1 [o,o,o,N 1,N 1,c]] [(1,0)] []
 |1=>R 1 [m (s 0),C 478 [v (l 0),r (i 12)] []] [(2,1)] []
 |2=>R 2 [y .eql (s 2) (i 0),m (l 0)] [(3,1)] []
 |3=>R 3 [b [o,o,o,N 1,N 1,c] [(0,1,i 2)],W 6 (s 1) (l 0)] [] [0,2]
 |4=>R 4 [y .eql (s 2) (i 1),m (l 0)] [(4,1),(10,1)] []
 |5=>R 5 [y .eql (s 2) (i 2),m (l 0)] [(4,1),(10,1)] []
 |6=>R 6 [b [o,o,o,N 1,N 1,c] [(0,1,i 3)],W 6 (s 1) (l 0)] [] [0,2]
 |7=>R 7 [y .eql (s 2) (i 3),m (l 0)] [(5,1)] []
 |8=>R 8 [m (s 0),C 478 [v (l 0),r (i 5)] [],y .add (i 1) (l 1),b [o,o,o,N 1,N 1,c] [(0,1,i 4),(1,1,l 2)],W 6 (s 1) (l 3)] [] [0,2]
 |9=>R 9 [y .eql (s 2) (i 4),m (l 0)] [(6,1)] []
 |10=>R 10 [m (s 0),C 478 [v (l 0),r (i 6)] [],y .add (i 1) (l 1),b [o,o,o,N 1,N 1,c] [(0,1,i 5),(1,1,l 2)],W 6 (s 1) (l 3)] [] [0,2]
 |11=>R 11 [y .eql (s 2) (i 5),m (l 0)] [(7,1)] []
 |12=>R 12 [m (s 0),C 478 [v (l 0),r (i 5)] [],m (s 0),C 494 [v (l 2)] [2,3],b [o,o,o,N 1,N 1,c] [(0,1,i 6),(1,1,l 1),(2,4,l 3)],W 6 (s 1) (l 4)] [] [0,2]
 |13=>R 13 [y .eql (s 2) (i 6),m (l 0)] [(8,1)] []
 |14=>R 14 [m (s 0),C 478 [v (l 0),r (i 5)] [],b [o,o,o,N 1,N 1,c] [(0,1,i 7),(1,1,l 1)],W 6 (s 1) (l 2)] [] [0,2]
 |15=>R 15 [y .eql (s 2) (i 7),m (l 0)] [(9,1)] [2]
 |16=>R 16 [m (s 0),C 478 [v (l 0),r (i 3)] [],y .add (i 1) (l 1),b [o,o,o,N 1,N 1,c] [(0,1,i 8),(1,1,l 2)],W 6 (s 1) (l 3)] [] [0]
 |_=>R 17 [m (s 0),C 478 [v (l 0),r (i 5)] [],b [o,o,o,N 1,N 1,c] [(0,1,i 1),(1,1,l 1)],W 6 (s 1) (l 2)] [] [0]
def AGu:Bw:=⟨11,4,[0],1,false,[],j (d (AhX 0)) (j (j (d (AhX 1)) (.block 0 (j (d (AhX 2)) (h 3 (j (d (AhX 3)) (.ret)) (j (j (d (AhX 4)) (h 4 (.skip) (d (AhX 5)))) (h 10 (j (d (AhX 6)) (.ret)) (j (d (AhX 7)) (h 5 (j (d (AhX 8)) (.ret)) (j (d (AhX 9)) (h 6 (j (d (AhX 10)) (.ret)) (j (d (AhX 11)) (h 7 (j (d (AhX 12)) (.ret)) (j (d (AhX 13)) (h 8 (j (d (AhX 14)) (.ret)) (j (d (AhX 15)) (h 9 (j (d (AhX 16)) (.ret)) (.skip))))))))))))))))) (j (d (AhX 17)) (.ret))),[.cell 1 (some 6)]⟩
def AJK:List Tmp:=[0,2,4,5,8,12,18,24,31,36,8]
def Co:Nat→Bu
 |0=>R 0 [x 0 (s 0),x 1 (s 1),a 2 [c,o,N 1]] [(6,0),(7,1),(8,2)] [0,1]
 |1=>R 1 [m (s 2),m (s 3),P 2 (s 7),C 343 [r (l 0),r (l 1),r (l 2)] [3],m (l 3),X (l 4) 0,X (l 4) 1,a 4 [o,N 2],W 2 (l 7) (l 5),m (l 6)] [(9,7),(10,9)] [2,3]
 |2=>R 2 [m (s 10),n (l 0)] [(13,1)] [10]
 |3=>R 3 [b [c,o,N 1] [],W 3 (s 8) (l 0)] [] [4,5,6,7,9]
 |4=>R 4 [P 2 (s 9),a 5 [o,N 2],W 2 (l 1) (l 0)] [(11,1)] []
 |5=>R 5 [m (s 5),e (l 0),m (i 0)] [(14,1),(15,2)] [5]
 |6=>R 6 [y .lss (s 15) (s 14)] [(16,0)] [14,15]
 |7=>T 10 [D (m (s 4)) [] [],D (P 2 (s 7)) [1] [],D (C 345 [r (l 1)] [6]) [6] [6],D (P 2 (s 9)) [4] [],D (C 346 [r (l 3)] [7]) [3,7] [7],D (M 8 1 2 [l 2,l 4]) [6,7,8] [6,7,8],D (C 347 [r (l 0),r (l 5),r (i 1)] []) [8] [],D (m (l 6)) [] []] [(12,7)] [7,9]
 |8=>T 11 [D (P 2 (s 6)) [0] [],D (P 2 (s 11)) [5] [],D (C 348 [r (l 0),r (l 1)] []) [3] [],D (n (l 2)) [] [],D (m (l 3)) [] [],H 4 (m (s 4)) [] [],H 4 (P 2 (s 6)) [0] [],H 4 (C 345 [r (l 6)] [9]) [9] [9],H 4 (P 2 (s 11)) [5] [],H 4 (C 346 [r (l 8)] [10]) [3,10] [10],H 4 (M 11 1 2 [l 7,l 9]) [9,10,11] [9,10,11],H 4 (m (s 12)) [] [],H 4 (C 349 [r (l 5),r (l 10),r (i 1),r (l 11)] []) [11] [],H 4 (n (l 12)) [] [],D (k (l 4) t (l 13)) [] []] [(17,14)] [4,6,12]
 |9=>R 12 [b [c,o,N 1] [],W 3 (s 8) (l 0)] [] [11]
 |_=>T 13 [D (F (s 11) 0) [] [],D (L (l 0)) [5] [],D (F (s 11) 1) [] [],D (L (l 2)) [5] [],D (C 317 [r (l 3)] [12]) [3,12] [12],D (b [c,o,N 1] [(0,1,t),(1,1,l 1),(2,1,l 4)]) [] [],D (W 3 (s 8) (l 5)) [2] [2]] [] [11]
def TM:Bw:=⟨18,13,[0,1,2,3,4,5],0,false,[],j (d (Co 0)) (j (d (Co 1)) (j (j (d (Co 2)) (h 13 (j (d (Co 3)) (.ret)) (.skip))) (j (d (Co 4)) (j (j (d (Co 5)) (.block 0 (.loop (j (d (Co 6)) (j (h 16 (.skip) (.exit 0)) (j (.block 1 (j (.stuck) (.stuck))) (.stuck))))))) (j (d (Co 7)) (j (j (d (Co 8)) (h 17 (j (d (Co 9)) (.ret)) (.skip))) (j (d (Co 10)) (.ret)))))))),[.cell 8 (some 3)]⟩
def Agn:List Tmp:=[0,1,2,3,4,5,6,7,12,13,14,15,18,27,31,32,33,61]
attribute [simp] Fs Ni Eh MK CO MR Ef MO Qa OG CR MS Eg MW EG OH Ej MN RN Qy Bj Lp BM MQ ADR AGn AhX AGu Co TM
end Go.Eng.T
namespace Go.Eng.T
set_option maxRecDepth 20000
set_option maxHeartbeats 1000000
theorem AwG (D:Dn):MU (Body D FX):=by
 intro xs ys h1 h2
 unfold maxLen at h1 h2
 by_cases hl:xs.length=ys.length
 rotate_left
 ·have hl':¬(xs.length:Int)=ys.length:=by omega
  have:xs≠ys:=fun h=>hl (by rw[h])
  simp -implicitDefEqProofs [hl',this]
 have hl':(xs.length:Int)=ys.length:=by omega
 simp -implicitDefEqProofs [hl']
 refine Ae (fun k s=>∃j,j+k=xs.length∧xs.take j=ys.take j∧s=⟨[.sl 1 1 xs.length (ints xs),.sl 1 1 ys.length (ints ys),.undef,.undef,.undef,I ys.length,I j,.undef,.undef],[]⟩) ?_ (xs.length) _ ⟨0,by simp,by simp,by simp⟩
 intro k s ⟨j,hj,hp,hs⟩
 subst hs
 by_cases hjn:j<xs.length
 ·have hw:IntKind.i64.wrap ((j:Int)+1)=(j+1:Nat):=by rw[Ac (by omega) (by omega)];simp
  have hy:j<ys.length:=by omega
  by_cases he:xs[j]=ys[j]
  ·simp -implicitDefEqProofs [hjn,hy,he]
   exact⟨k-1,by omega,j+1,by omega,VQ hjn hy hp he,by simp[hw]⟩
  ·have hne:xs≠ys:=fun h=>he (by simp[h])
   simp -implicitDefEqProofs [hjn,hy,he,hne]
 ·obtain rfl:xs=ys:=Z6 (by omega) hl hp
  simp -implicitDefEqProofs [hjn]
abbrev OL (R:Rel):Prop:=∀a b:List Ext,Q8 a→Q8 b→R [.sl 1 2 a.length (a.flatMap Bl),.sl 1 2 b.length (b.flatMap Bl)] [] (B (decide (a=b))) []
abbrev SQ (R:Rel):Prop:=∀a b:Ext,a.body.length≤4194304→b.body.length≤4194304→R [arg (Bl a),arg (Bl b)] [] (B (decide (a=b))) []
theorem ext_eq {a b:Ext} (h1:a.tag=b.tag) (h2:a.body=b.body):a=b:=by cases a;cases b;simp_all
theorem Aq7 (D:Dn) (hE:MU (D Jy)):SQ (Body D Ps):=by
 intro a b ha hb
 by_cases g1:a.tag=b.tag
 rotate_left
 ·have hne:a≠b:=fun h=>g1 (by simp[h])
  simp -implicitDefEqProofs [g1,hne]
 simp -implicitDefEqProofs [g1]
 refine Aa (hE a.body b.body (by unfold maxLen;omega) (by unfold maxLen;omega)) ?_
 by_cases g2:a.body=b.body
 ·have e:=ext_eq g1 g2
  simp -implicitDefEqProofs [g2,e]
 ·have hne:a≠b:=fun h=>g2 (by simp[h])
  simp -implicitDefEqProofs [g2,hne]
abbrev Tx (D:Dn) (R:Rel):Prop:=∀(a b:List Ext) (g:Nat),Q8 a→Q8 b→SQ (D g)→R [.sl 1 2 a.length (a.flatMap Bl),.sl 1 2 b.length (b.flatMap Bl),.fn g []] [] (B (decide (a=b))) []
theorem An5 (D:Dn):Tx D (Body D Bh):=by
 intro a b g ha hb hg
 have h1:=ha.1
 have h2:=hb.1
 by_cases hl:a.length=b.length
 rotate_left
 ·have hl':¬(a.length:Int)=b.length:=by omega
  have:a≠b:=fun h=>hl (by rw[h])
  simp -implicitDefEqProofs [hl',this]
 have hl':(a.length:Int)=b.length:=by omega
 simp -implicitDefEqProofs [hl']
 refine Ae (fun k s=>∃j o0 o1,j+k=a.length∧a.take j=b.take j∧s=⟨[.undef,.sl 1 2 b.length (b.flatMap Bl),.fn g [],.undef,.undef,.undef,.undef,.undef,.sl 1 2 a.length (a.flatMap Bl),I b.length,I j,.undef,.undef],[o0,o1]⟩) ?_ (a.length) _ ⟨0,.free,.free,by simp,by simp,by simp⟩
 intro k s ⟨j,o0,o1,hj,hp,hs⟩
 subst hs
 by_cases hjn:j<a.length
 ·have hw:IntKind.i64.wrap ((j:Int)+1)=(j+1:Nat):=by rw[Ac (by omega) (by omega)];simp
  have hy:j<b.length:=by omega
  simp -implicitDefEqProofs [hjn,hy,↓OW OX]
  refine Aa (hg a[j] b[j] (Ld ha hjn) (Ld hb hy)) ?_
  by_cases g2:a[j]=b[j]
  ·simp -implicitDefEqProofs [g2]
   exact⟨k-1,by omega,j+1,by omega,VQ hjn hy hp g2,by simp[hw]⟩
  ·have hne:a≠b:=fun h=>g2 (by simp[h])
   simp -implicitDefEqProofs [g2,hne]
 ·obtain rfl:a=b:=Z6 (by omega) hl hp
  simp -implicitDefEqProofs [hjn]
theorem Alk (D:Dn) (h1:SQ (D Aft)) (hE:Tx D (D Ew)):OL (Body D NZ):=by
 intro a b ha hb
 simp -implicitDefEqProofs
 refine Aa (hE a b _ ha hb h1) ?_
 simp -implicitDefEqProofs
abbrev Ko (R:Rel):Prop:=∀a b:Hello,hB a→hB b→R [arg (Ce a),arg (Ce b)] [] (B (decide (a=b))) []
theorem AgU {a b:Hello} (h1:a.versions=b.versions) (h2:a.exts=b.exts):a=b:=by cases a;cases b;simp_all
theorem AfZ (D:Dn) (hE:MU (D Jy)) (hX:OL (D AcQ)):Ko (Body D Li):=by
 intro a b ha hb
 simp -implicitDefEqProofs
 refine Aa (hE a.versions b.versions (by have:=ha.1;unfold maxLen;omega) (by have:=hb.1;unfold maxLen;omega)) ?_
 by_cases g1:a.versions=b.versions
 rotate_left
 ·have hne:a≠b:=fun h=>g1 (by simp[h])
  simp -implicitDefEqProofs [g1,hne]
 simp -implicitDefEqProofs [g1]
 refine Aa (hX a.exts b.exts ha.2 hb.2) ?_
 by_cases g2:a.exts=b.exts
 ·have e:=AgU g1 g2
  simp -implicitDefEqProofs [g2,e]
 ·have hne:a≠b:=fun h=>g2 (by simp[h])
  simp -implicitDefEqProofs [g2,hne]
theorem Akr:∀ {path:List EK} {h:Hello},hB h→hB (EQ path h).1
 | [],h,hh=>hh
 | b::r,h,hh=>by
  unfold EQ
  split
  ·exact Akr (Ak0 hh)
  ·exact Afz
theorem Np {path:List EK} {h:Hello} (hh:hB h):hB (AZ path h).1:=by
 unfold AZ
 split
 ·exact Akr hh
 ·exact Afz
theorem Acu:∀ {path:List EK} {h:Hello},(EQ path h).2=true→(EQ path h).1.versions=h.versions
 | [],h,_=>rfl
 | b::r,h,hk=>by
  unfold EQ at hk⊢
  split at hk
  ·rename_i hb
   rw[if_pos hb,Acu hk]
   unfold Ba at hb⊢
   split at hb
   ·rename_i hc;rw[if_pos hc]
   ·cases hb
  ·cases hk
def Bf (h:Hello) (path:List EK):Bool:=(AZ path h).2&&decide ((AZ path h).1=h)
abbrev EY (R:Rel):Prop:=∀(h:Hello) (path:List EK),hB h→lnS Kr path→R [arg (Ce h),.sl 1 4 path.length (path.flatMap Cz)] [] (B (Bf h path)) []
theorem AgQ (D:Dn) (hP:EN (D KE)) (hQ:Ko (D ZX)):EY (Body D KV):=by
 intro h path hh hb
 simp -implicitDefEqProofs
 refine Aa (hP path h hb hh) ?_
 have hr:=Np (path:=path) hh
 have e:Bf h path=((AZ path h).2&&decide ((AZ path h).1=h)):=rfl
 generalize AZ path h=r at hr e
 by_cases g1:r.2=true
 rotate_left
 ·simp -implicitDefEqProofs [g1,e]
 simp -implicitDefEqProofs [g1]
 refine Aa (hQ r.1 h hr hh) ?_
 simp -implicitDefEqProofs [e,g1]
end Go.Eng.T
namespace Go.Eng.T
set_option maxRecDepth 20000
set_option maxHeartbeats 1000000
def FZ (path:List EK) (vs:List Int) (x:Ext):Bool:= !Bf ⟨vs.take 1,[x]⟩ path
def CX (path:List EK) (vs:List Int) (l:List Ext):List Int:=if BX l&&isOpen path vs then Ao (l.filter (FZ path vs))else []
abbrev Kg (R:Rel):Prop:=∀(path:List EK) (vs:List Int) (l:List Ext),lnS Kr path→vs.length≤4194304→Q8 l→R [.sl 1 4 path.length (path.flatMap Cz),.sl 1 1 vs.length (ints vs),.sl 1 2 l.length (l.flatMap Bl)] [] (.sl 0 1 (CX path vs l).length (ints (CX path vs l))) []
theorem Aop {path:List EK} {vs:List Int} (h:isOpen path vs=true):0<vs.length:=by
 unfold isOpen at h
 simp only[Bool.and_eq_true]at h
 exact Pj h.1
theorem AgR {p:Ext→Bool} {l:List Ext} {j:Nat} (h:j<l.length):Ao ((l.take (j+1)).filter p)=Ao ((l.take j).filter p)++(if p l[j]then [l[j].tag]else []):=by
 rw[AfM h]
 unfold Ao
 rw[List.map_append]
 split<;>simp
theorem Akk {p:Ext→Bool} {l:List Ext} {j:Nat}:(Ao ((l.take j).filter p)).length≤j:=by
 unfold Ao
 rw[List.length_map]
 exact Akz
theorem Ank (D:Dn) (hA:EW (D Js)) (hO:FT (D Abv)) (hP:EY (D QU)):Kg (Body D Po):=by
 intro path vs l hb hv hl
 have hll:=hl.1
 simp -implicitDefEqProofs
 refine Aa (hO path vs hb hv) ?_
 by_cases h2:isOpen path vs=true
 rotate_left
 ·simp -implicitDefEqProofs [h2,CX]
 simp -implicitDefEqProofs [h2]
 refine Aa (hA l hl) ?_
 by_cases h1:BX l=true
 rotate_left
 ·simp -implicitDefEqProofs [h1,CX]
 have e:CX path vs l=Ao (l.filter (FZ path vs)):=by unfold CX;rw[h1,h2];rfl
 have hpos:=Aop h2
 have h1l:(1:Int)≤vs.length:=by omega
 have h1n:1≤vs.length:=by omega
 have hlen:(vs.take 1).length=1:=by simp;omega
 have hmin:min 1 vs.length=1:=by omega
 rw[e]
 simp -implicitDefEqProofs [h1]
 refine Ae (fun k s=>∃j v5 o1 o2 o3 o4,j+k=l.length∧s=⟨[.sl 1 4 path.length (path.flatMap Cz),.sl 1 1 vs.length (ints vs),.undef,.undef,.arr 5,v5,.undef,.sl 1 2 l.length (l.flatMap Bl),I l.length,I j,.undef,.undef],[.free,o1,o2,o3,o4,.arr 1 0 (Ao ((l.take j).filter (FZ path vs))).length (ints (Ao ((l.take j).filter (FZ path vs))))]⟩) ?_ (l.length) _ ⟨0,.undef,.free,.free,.free,.free,by simp,by simp[Ao,ints]⟩
 intro k s ⟨j,v5,o1,o2,o3,o4,hj,hs⟩
 subst hs
 by_cases hjn:j<l.length
 ·have hw:IntKind.i64.wrap ((j:Int)+1)=(j+1:Nat):=by rw[Ac (by omega) (by omega)];simp
  have hst:=AgR (p:=FZ path vs) hjn
  have hfl:=Akk (p:=FZ path vs) (l:=l) (j:=j)
  have hb1:((Ao ((l.take j).filter (FZ path vs))).length+1)*8≤1099511627776:=by omega
  have hhB:hB ⟨vs.take 1,[l[j]]⟩:=⟨by simp;omega,by simp,by intro x hx;simp at hx;subst hx;exact Ld hl hjn⟩
  simp -implicitDefEqProofs [hjn,h1l,h1n]
  have hp:=hP ⟨vs.take 1,[l[j]]⟩ path hhB hb
  have hq:FZ path vs l[j]= !Bf ⟨vs.take 1,[l[j]]⟩ path:=rfl
  simp -implicitDefEqProofs [hmin,arg]at hp
  refine Aa (hp) ?_
  generalize Bf ⟨vs.take 1,[l[j]]⟩ path=r at hq
  by_cases g1:r=true
  ·have h3:¬FZ path vs l[j]=true:=by rw[hq,g1];simp
   rw[if_neg h3,List.append_nil]at hst
   simp -implicitDefEqProofs [g1]
   exact⟨k-1,by omega,j+1,by omega,by simp[hw],by rw[hst],by rw[hst]⟩
  ·have h3:FZ path vs l[j]=true:=by rw[hq];simpa using g1
   rw[if_pos h3]at hst
   simp -implicitDefEqProofs [g1,hjn,hb1]
   exact⟨k-1,by omega,j+1,by omega,by simp[hw],by rw[hst];simp,by rw[hst]⟩
 ·have e2:(l.take j).filter (FZ path vs)=l.filter (FZ path vs):=AbH (by omega)
  simp -implicitDefEqProofs [hjn,e2]
end Go.Eng.T
namespace Go.Eng.T
set_option maxRecDepth 20000
set_option maxHeartbeats 1000000
theorem Ib (a b:List Int):(leftOf a b).length≤a.length:=List.length_filter_le _ _
def DL (h:Hello) (lv lt:List Int):Hello×Bool:=if AP h&& !decide (leftOf h.versions lv=[])then(⟨leftOf h.versions lv,kept (fun t=> !decide (t∈lt)) h.exts⟩,true)else(Ay,false)
abbrev H9 (R:Rel):Prop:=∀(h:Hello) (lv lt:List Int),hB h→lv.length≤4194304→lt.length≤4194304→R [arg (Ce h),.sl 1 1 lv.length (ints lv),.sl 1 1 lt.length (ints lt)] [] (.tup [.agg (Ce (DL h lv lt).1),B (DL h lv lt).2]) []
abbrev QS (R:Rel):Prop:=∀(t:Int) (tags:List Int),tags.length≤maxLen→R [I t,.rptr 1 [.sl 0 1 tags.length (ints tags)] 0] [] (B (!decide (t∈tags))) []
theorem Amk (D:Dn) (hH:Qw (D Be)):QS (Body D KN):=by
 intro t tags hl
 simp -implicitDefEqProofs
 refine Aa (hH tags t hl) ?_
 simp -implicitDefEqProofs
theorem Alp (D:Dn) (hI:Dg (D FY)) (hL:QD (D Jr)) (h1:QS (D Qz)) (hK:Kk D (D II)):H9 (Body D NQ):=by
 intro h lv lt hh hv ht
 simp -implicitDefEqProofs
 refine Aa (hL h.versions lv hh.1 hv) ?_
 have hll:=Ib h.versions lv
 unfold DL
 generalize leftOf h.versions lv=vs at hll
 simp -implicitDefEqProofs
 refine Aa (hI h hh) ?_
 by_cases g1:AP h=true
 rotate_left
 ·simp -implicitDefEqProofs [g1,Ay]
 by_cases g:vs=[]
 ·simp -implicitDefEqProofs [g1,g,Ay]
 have g':¬(vs.length:Int)=0:=by
  intro h0
  exact g (List.eq_nil_of_length_eq_zero (by omega))
 simp -implicitDefEqProofs [g1,g',g]
 refine Aa (hK h.exts Qz _ (fun t=> !decide (t∈lt)) hh.2 (AgZ FJ) (Yv OX) (fun t=>h1 t lt (by unfold maxLen;omega))) ?_
 simp -implicitDefEqProofs
def fallback (h:Hello) (path:List EK):Hello×Bool:=DL h (Ak path h.versions) (CX path (leftOf h.versions (Ak path h.versions)) h.exts)
abbrev Kb (R:Rel):Prop:=∀(h:Hello) (path:List EK),hB h→lnS Kr path→R [arg (Ce h),.sl 1 4 path.length (path.flatMap Cz)] [] (.tup [.agg (Ce (fallback h path).1),B (fallback h path).2]) []
theorem ZO (path:List EK) (vs:List Int) (l:List Ext):(CX path vs l).length≤l.length:=by
 unfold CX Ao
 split
 ·rw[List.length_map];exact List.length_filter_le _ _
 ·simp
theorem Am9 (D:Dn) (hLV:DY (D Qn)) (hL:QD (D Jr)) (hT:Kg (D Ahg)) (hP:H9 (D Ada)):Kb (Body D Ji):=by
 intro h path hh hb
 have hvl:=hh.1
 have hxl:=hh.2.1
 simp -implicitDefEqProofs [hvl]
 refine Aa (hLV path h.versions hb hh.1) ?_
 have hll:=AaA path h.versions
 have e:fallback h path=DL h (Ak path h.versions) (CX path (leftOf h.versions (Ak path h.versions)) h.exts):=rfl
 rw[e]
 generalize Ak path h.versions=lv at hll
 simp -implicitDefEqProofs
 refine Aa (hL h.versions lv hh.1 (by omega)) ?_
 have hl2:=Ib h.versions lv
 generalize leftOf h.versions lv=vs at hl2
 simp -implicitDefEqProofs
 refine Aa (hT path vs h.exts hb (by omega) hh.2) ?_
 have hl3:=ZO path vs h.exts
 generalize CX path vs h.exts=lt at hl3
 simp -implicitDefEqProofs
 refine Aa (hP h lv lt hh (by omega) (by omega)) ?_
 generalize DL h lv lt=r
 simp -implicitDefEqProofs
theorem AAE {h:Hello} {lv lt:List Int} (hh:hB h):hB (DL h lv lt).1:=by
 unfold DL
 split
 ·exact⟨Nat.le_trans (Ib _ _) hh.1,Tc hh.2 (fun t=> !decide (t∈lt))⟩
 ·exact Afz
theorem Amh {h:Hello} {path:List EK} (hh:hB h):hB (fallback h path).1:=AAE hh
def BI (h:Hello) (path:List EK):Hello×Int×Bool:=
 if AP h=true then(if Bf h path=true then(h,1,true)else if(fallback h path).2&&Bf (fallback h path).1 path then((fallback h path).1,2,true)else(Ay,2,false))else(Ay,0,false)
abbrev Kn (R:Rel):Prop:=∀(h:Hello) (path:List EK),hB h→lnS Kr path→R [arg (Ce h),.sl 1 4 path.length (path.flatMap Cz)] [] (.tup [.agg (Ce (BI h path).1),I (BI h path).2.1,B (BI h path).2.2]) []
theorem AnD (D:Dn) (hI:Dg (D FY)) (hW:EY (D QU)) (hC:Jz (D Ux)) (hF:Kb (D Wy)):Kn (Body D Pt):=by
 intro h path hh hb
 simp -implicitDefEqProofs
 refine Aa (hI h hh) ?_
 by_cases g1:AP h=true
 rotate_left
 ·simp -implicitDefEqProofs [g1,BI,Ay]
 simp -implicitDefEqProofs [g1]
 refine Aa (hW h path hh hb) ?_
 by_cases g2:Bf h path=true
 ·simp -implicitDefEqProofs [g2]
  refine Aa (hC h hh) ?_
  simp -implicitDefEqProofs [BI,g1,g2]
 simp -implicitDefEqProofs [g2]
 refine Aa (hF h path hh hb) ?_
 have hr:=Amh (path:=path) hh
 have e:BI h path=(if(fallback h path).2&&Bf (fallback h path).1 path then((fallback h path).1,2,true)else(Ay,2,false)):=by unfold BI;rw[if_pos g1,if_neg g2]
 rw[e]
 generalize fallback h path=r at hr
 by_cases g3:r.2=true
 rotate_left
 ·simp -implicitDefEqProofs [g3,Ay]
 simp -implicitDefEqProofs [g3]
 refine Aa (hW r.1 path hr hb) ?_
 by_cases g4:Bf r.1 path=true
 ·simp -implicitDefEqProofs [g3,g4]
 ·simp -implicitDefEqProofs [g3,g4,Ay]
theorem Ase {h:Hello} {path:List EK} (hh:hB h):hB (BI h path).1:=by
 unfold BI
 split
 ·split
  ·exact hh
  ·split
   ·exact Amh hh
   ·exact Afz
 ·exact Afz
end Go.Eng.T
