/- Own work: part 45 of the proof of FnMeasured. -/
import Derived.Test.YtdoefikagfghnaaGreatP44
set_option linter.unusedSimpArgs false
set_option linter.unusedVariables false
namespace Go.Eng.T
set_option maxRecDepth 20000
theorem Xn {w:World} (h:Ay w≤4194304):Bg w.rollout≤4194304:=by unfold Ay at h;omega
theorem NZ {w:World} (h:Ay w≤4194304):w.server.length≤4194304∧w.tags.length≤4194304∧Bw Ac w.ends≤4194304∧Bw Al w.stage≤4194304∧Bw Av w.log≤4194304:=by unfold Ay at h;omega
abbrev Ef (R:Rel):Prop:=∀w:World,Ay w≤4194304→R [arg (EF w)] [] (.agg (EF w)) []
theorem Ajq (D:Dn) (hE:Ml (D ADi)) (hR:Sv (D Zx)) (hD:Nr (D AzC)):Ef (Body D MP):=by
 intro w h
 have hl:=Rc h
 have he:=JQ h
 have hs:=Xk h
 have hr:=Xn h
 have z:=NZ h
 have b1:w.server.length*8≤1099511627776:=by omega
 have b2:w.tags.length*8≤1099511627776:=by omega
 simp -implicitDefEqProofs [b1,b2]
 refine Ae (fun k s=>∃j o8 o9 o10 o11 o12,j+k=w.ends.length∧s=⟨[.undef,.ptr 0 0,.ptr 1 0,.ptr 2 0,.sc (.int .i64 j),.undef,.undef,.undef,.undef,.undef],[.var ((EF w).map (AZ 1)),.var [.nil 1,.nil 1,.sc (.int .i64 0),.nil 4,.sc (.int .i64 0),.nil 1,.sc (.int .i64 0),.sc (.bool false),.sc (.int .i64 0),.sc (.int .i64 0),.nil 5,.nil 8,.sc (.int .i64 0),.sc (.int .i64 0),.sc (.int .i64 0)],.var [.arr 4,.arr 6,.sc (.int .i64 w.key),.arr 24,.sc (.int .i64 w.rollout.version),.sl 1 1 w.rollout.stages.length (ints w.rollout.stages),.sc (.int .i64 w.rollout.pos),.sc (.bool w.rollout.off),.sc (.int .i64 w.least),.sc (.int .i64 w.percent),.sl 1 5 w.stage.length (w.stage.flatMap AP),.sl 1 8 w.log.length (w.log.flatMap Ar),.sc (.int .i64 w.now),.sc (.int .i64 w.hurt),.sc (.int .i64 w.reached)],.dead,.arr 1 0 w.server.length (ints w.server),.dead,.arr 1 0 w.tags.length (ints w.tags),.free,o8,o9,o10,o11,o12,.free,.free,.free,.free,.free,.free,.free,.free,.free,.free,.free,.arr 4 0 j ((w.ends.take j).flatMap Ak),.free,.free]⟩) ?_ w.ends.length _ ⟨0,by simp⟩
 intro k s ⟨j,o8,o9,o10,o11,o12,hj,hs'⟩
 subst hs'
 by_cases hjn:j<w.ends.length
 ·have hw:IntKind.i64.wrap ((j:Int)+1)=(j+1:Nat):=by rw[Ad (by omega) (by omega)];simp
  have hsz:=size_at (f:=Ac) hjn
  have h3:(j+1)*80≤1099511627776:=by omega
  have hst:=Qu (f:=Ak) hjn
  simp -implicitDefEqProofs [hjn]
  refine Aa (hE w.ends[j] (by first | omega | (simp only[Av]at hsz;omega))) ?_
  simp -implicitDefEqProofs [hjn,h3]
  exact⟨k-1,by omega,j+1,by omega,by simp[hw],rfl,by rw[←hst];rfl⟩
 obtain rfl:j=w.ends.length:=by omega
 simp -implicitDefEqProofs
 refine Aa (hR w.rollout hr) ?_
 simp -implicitDefEqProofs
 refine Ae (fun k s=>∃j o8 o9 o10 o11 o12 o15 o16 o17 o18,j+k=w.stage.length∧s=⟨[.undef,.ptr 0 0,.ptr 1 0,.ptr 2 0,.undef,.sc (.int .i64 j),.undef,.undef,.undef,.undef],[.var ((EF w).map (AZ 1)),.var [.nil 1,.nil 1,.sc (.int .i64 0),.nil 4,.sc (.int .i64 0),.nil 1,.sc (.int .i64 0),.sc (.bool false),.sc (.int .i64 0),.sc (.int .i64 0),.nil 5,.nil 8,.sc (.int .i64 0),.sc (.int .i64 0),.sc (.int .i64 0)],.var [.arr 4,.arr 6,.sc (.int .i64 w.key),.arr 24,.sc (.int .i64 w.rollout.version),.arr 13,.sc (.int .i64 w.rollout.pos),.sc (.bool w.rollout.off),.sc (.int .i64 w.least),.sc (.int .i64 w.percent),.arr 25,.sl 1 8 w.log.length (w.log.flatMap Ar),.sc (.int .i64 w.now),.sc (.int .i64 w.hurt),.sc (.int .i64 w.reached)],.dead,.arr 1 0 w.server.length (ints w.server),.dead,.arr 1 0 w.tags.length (ints w.tags),.free,o8,o9,o10,o11,o12,.arr 1 0 w.rollout.stages.length (ints w.rollout.stages),.free,o15,o16,o17,o18,.free,.free,.free,.free,.free,.arr 4 0 w.ends.length (w.ends.flatMap Ak),.arr 5 0 j ((w.stage.take j).flatMap AP),.free]⟩) ?_ w.stage.length _ ⟨0,by simp⟩
 intro k s ⟨j,o8,o9,o10,o11,o12,o15,o16,o17,o18,hj,hs'⟩
 subst hs'
 by_cases hjn:j<w.stage.length
 ·have hw:IntKind.i64.wrap ((j:Int)+1)=(j+1:Nat):=by rw[Ad (by omega) (by omega)];simp
  have hsz:=size_at (f:=Al) hjn
  have h3:(j+1)*72≤1099511627776:=by omega
  have hst:=Qu (f:=AP) hjn
  simp -implicitDefEqProofs [hjn]
  refine Aa (hD w.stage[j] (by first | omega | (simp only[Av]at hsz;omega))) ?_
  simp -implicitDefEqProofs [hjn,h3]
  exact⟨k-1,by omega,j+1,by omega,by simp[hw],rfl,by rw[←hst];rfl⟩
 obtain rfl:j=w.stage.length:=by omega
 simp -implicitDefEqProofs
 refine Ae (fun k s=>∃j o8 o9 o10 o11 o12 o15 o16 o17 o18 o20 o21 o22 o23,j+k=w.log.length∧s=⟨[.undef,.ptr 0 0,.ptr 1 0,.ptr 2 0,.undef,.undef,.sc (.int .i64 j),.undef,.undef,.undef],[.var ((EF w).map (AZ 1)),.var [.nil 1,.nil 1,.sc (.int .i64 0),.nil 4,.sc (.int .i64 0),.nil 1,.sc (.int .i64 0),.sc (.bool false),.sc (.int .i64 0),.sc (.int .i64 0),.nil 5,.nil 8,.sc (.int .i64 0),.sc (.int .i64 0),.sc (.int .i64 0)],.var [.arr 4,.arr 6,.sc (.int .i64 w.key),.arr 24,.sc (.int .i64 w.rollout.version),.arr 13,.sc (.int .i64 w.rollout.pos),.sc (.bool w.rollout.off),.sc (.int .i64 w.least),.sc (.int .i64 w.percent),.arr 25,.arr 26,.sc (.int .i64 w.now),.sc (.int .i64 w.hurt),.sc (.int .i64 w.reached)],.dead,.arr 1 0 w.server.length (ints w.server),.dead,.arr 1 0 w.tags.length (ints w.tags),.free,o8,o9,o10,o11,o12,.arr 1 0 w.rollout.stages.length (ints w.rollout.stages),.free,o15,o16,o17,o18,.free,o20,o21,o22,o23,.arr 4 0 w.ends.length (w.ends.flatMap Ak),.arr 5 0 w.stage.length (w.stage.flatMap AP),.arr 8 0 j ((w.log.take j).flatMap Ar)]⟩) ?_ w.log.length _ ⟨0,by simp⟩
 intro k s ⟨j,o8,o9,o10,o11,o12,o15,o16,o17,o18,o20,o21,o22,o23,hj,hs'⟩
 subst hs'
 by_cases hjn:j<w.log.length
 ·have hw:IntKind.i64.wrap ((j:Int)+1)=(j+1:Nat):=by rw[Ad (by omega) (by omega)];simp
  have hsz:=size_at (f:=Av) hjn
  have h3:(j+1)*96≤1099511627776:=by omega
  have hst:=Qu (f:=Ar) hjn
  simp -implicitDefEqProofs [hjn]
  refine Aa (hD w.log[j].dialed (by first | omega | (simp only[Av]at hsz;omega))) ?_
  simp -implicitDefEqProofs [hjn,h3]
  exact⟨k-1,by omega,j+1,by omega,by simp[hw],rfl,by rw[←hst];rfl⟩
 obtain rfl:j=w.log.length:=by omega
 simp -implicitDefEqProofs
end Go.Eng.T
namespace Go.Eng.T
set_option maxRecDepth 20000
abbrev SH (a b c:Int):Prop:=b≤a∧a≤c
def Nv (xs:List Int) (j:Nat):Bool:=(List.range j).all fun i=>decide (SH (xs.getD i 0) 1 100)&&(decide (i=0)||decide (xs.getD (i-1) 0<xs.getD i 0))
theorem Xi (xs:List Int) (j:Nat):Nv xs (j+1)=(Nv xs j&&(decide (SH (xs.getD j 0) 1 100)&&(decide (j=0)||decide (xs.getD (j-1) 0<xs.getD j 0)))):=by
 unfold Nv
 rw[List.range_succ,List.all_append]
 simp
theorem Adi {xs:List Int} {j:Nat} (h:j<xs.length) (hn:Nv xs (j+1)=false):Nv xs xs.length=false:=by
 have:∀n,Nv xs (j+1+n)=false:=by
  intro n
  induction n with
  | zero=>exact hn
  | succ n ih=>rw[show j+1+(n+1)=(j+1+n)+1 by omega,Xi,ih];rfl
 have:=this (xs.length-(j+1))
 rwa [show j+1+(xs.length-(j+1))=xs.length by omega]at this
def Bp (r:EH):Bool:=
 Nv r.stages r.stages.length&&(decide (SH r.version 1 9)&&decide (SH r.stages.length 1 5)&&decide (r.stages.getD (r.stages.length-1) 0=100)&&decide (SH r.pos 0 (r.stages.length-1)))
abbrev FR (R:Rel):Prop:=∀r:EH,r.stages.length≤4194304→R [arg (Gx r)] [] (B (Bp r)) []
theorem getD_at {xs:List Int} {j:Nat} (h:j<xs.length):xs.getD j 0=xs[j]:=by simp[h]
theorem AoM (D:Dn) (hI:SG (D CB)):FR (Body D Pt):=by
 intro r hl
 simp -implicitDefEqProofs
 refine Ae (fun k s=>∃j,j+k=r.stages.length∧Nv r.stages j=true∧s=⟨[.undef,.ptr 0 0,.undef,.sc (.int .i64 j),.undef,.undef],[.var ((Gx r).map (AZ 1))]⟩) ?_ r.stages.length _ ⟨0,by simp,by simp[Nv],by simp⟩
 intro k s ⟨j,hj,hr,hs⟩
 subst hs
 by_cases hjn:j<r.stages.length
 ·have hw:IntKind.i64.wrap ((j:Int)+1)=(j+1:Nat):=by rw[Ad (by omega) (by omega)];simp
  have hst:=Xi r.stages j
  rw[hr,Bool.true_and,getD_at hjn]at hst
  simp -implicitDefEqProofs [hjn]
  refine Aa (hI _ _ _) ?_
  by_cases h1:SH r.stages[j] 1 100
  rotate_left
  ·have e:Bp r=false:=by unfold Bp;rw[Adi hjn (by rw[hst];simp[h1])];rfl
   simp -implicitDefEqProofs [h1,e]
  by_cases h0:j=0
  ·subst h0
   simp -implicitDefEqProofs [h1]
   exact⟨k-1,by omega,1,by omega,by rw[hst];simp[h1],by simpa using hw⟩
  ·have hp:((j-1:Nat):Int)=(j:Int)-1:=by omega
   have hw2:IntKind.i64.wrap ((j:Int)-1)=((j-1:Nat):Int):=by rw[Ad (by omega) (by omega)];omega
   have h2:(0:Int)<j:=by omega
   have h2':0<j:=by omega
   have h3:j-1<r.stages.length:=by omega
   rw[getD_at h3]at hst
   by_cases h4:r.stages[j-1]<r.stages[j]
   ·have h4':¬r.stages[j]≤r.stages[j-1]:=by omega
    simp -implicitDefEqProofs [h1,h2,h2',hw2,h3,hjn,h4']
    exact⟨k-1,by omega,j+1,by omega,by rw[hst];simp[h1,h0,h4],by simp[hw]⟩
   ·have e:Bp r=false:=by unfold Bp;rw[Adi hjn (by rw[hst];simp[h1,h0,h4])];rfl
    have h4':r.stages[j]≤r.stages[j-1]:=by omega
    simp -implicitDefEqProofs [h1,h2,h2',hw2,h3,hjn,h4',e]
 ·obtain rfl:j=r.stages.length:=by omega
  simp -implicitDefEqProofs
  refine Aa (hI _ _ _) ?_
  by_cases h1:SH r.version 1 9
  rotate_left
  ·simp -implicitDefEqProofs [h1,Bp]
  simp -implicitDefEqProofs [h1]
  refine Aa (hI _ _ _) ?_
  by_cases h2:SH r.stages.length 1 5
  rotate_left
  ·simp -implicitDefEqProofs [h2,Bp]
  have hw2:IntKind.i64.wrap ((r.stages.length:Int)-1)=((r.stages.length-1:Nat):Int):=by rw[Ad (by omega) (by omega)];omega
  have h3:r.stages.length-1<r.stages.length:=by omega
  have h5:0<r.stages.length:=by omega
  by_cases h4:r.stages[r.stages.length-1]=100
  rotate_left
  ·simp -implicitDefEqProofs [h2,hw2,h3,h4,h5,Bp]
  simp -implicitDefEqProofs [h2,hw2,h3,h4,h5]
  refine Aa (hI _ _ _) ?_
  have hc:((r.stages.length-1:Nat):Int)=(r.stages.length:Int)-1:=by omega
  have e:Bp r=decide (SH r.pos 0 ((r.stages.length-1:Nat):Int)):=by unfold Bp;rw[hr,getD_at h3,h4,hc];simp[h1,h2]
  simp -implicitDefEqProofs [e]
def KW (a b:Int):Int:=if SH a 0 1000000000000∧SH b 1 1000000000000 then(a+b-1).tdiv b else 0
abbrev O5 (R:Rel):Prop:=∀a b:Int,R [I a,I b] [] (I (KW a b)) []
theorem Ar9 {a b:Int} (h1:0≤a) (h2:a≤4000000000000) (h3:1≤b):IntKind.i64.wrap (a.tdiv b)=a.tdiv b:=by
 have a1:0≤a.tdiv b:=Int.tdiv_nonneg h1 (by omega)
 have a2:a.tdiv b≤a:=Int.tdiv_le_self _ h1
 exact Ad (by omega) (by omega)
theorem AuL (D:Dn) (hI:SG (D CB)):O5 (Body D Uv):=by
 intro a b
 simp -implicitDefEqProofs
 refine Aa (hI _ _ _) ?_
 by_cases h1:SH a 0 1000000000000
 rotate_left
 ·simp -implicitDefEqProofs [h1,KW]
 simp -implicitDefEqProofs [h1]
 refine Aa (hI _ _ _) ?_
 by_cases h2:SH b 1 1000000000000
 rotate_left
 ·simp -implicitDefEqProofs [h2,KW]
 have w1:IntKind.i64.wrap (a+b)=a+b:=Ad (by omega) (by omega)
 have w2:IntKind.i64.wrap (a+b-1)=a+b-1:=Ad (by omega) (by omega)
 have w3:=Ar9 (a:=a+b-1) (b:=b) (by omega) (by omega) (by omega)
 have h0:¬b=0:=by omega
 have e:KW a b=(a+b-1).tdiv b:=by unfold KW;rw[if_pos ⟨h1,h2⟩]
 simp -implicitDefEqProofs [h2,w1,w2,w3,h0,e]
end Go.Eng.T
namespace Go.Eng.T
set_option maxRecDepth 20000
theorem AAr {xs:List Int} {n:Nat} (h:Nv xs n=true) {i:Nat} (hi:i<n):SH (xs.getD i 0) 1 100:=by
 unfold Nv at h
 have:=List.all_eq_true.1 h i (List.mem_range.2 hi)
 simp at this
 exact⟨this.1.1,this.1.2⟩
theorem ArH {r:EH} (h:Bp r=true):0≤r.pos∧r.pos<r.stages.length∧r.stages.length≤5∧SH (r.stages.getD r.pos.toNat 0) 1 100:=by
 unfold Bp at h
 simp only[Bool.and_eq_true,decide_eq_true_eq]at h
 obtain⟨h1,⟨⟨h2,h3⟩,h4⟩,h5⟩:=h
 refine⟨h5.1,by omega,by omega,AAr h1 (by omega)⟩
def countIn (r:EH) (n:Int):Int:=if Bp r=true∧r.off=false∧SH n 0 10000 then KW (n*r.stages.getD r.pos.toNat 0) 100 else 0
abbrev OW (R:Rel):Prop:=∀(r:EH) (n:Int),r.stages.length≤4194304→R [arg (Gx r),I n] [] (I (countIn r n)) []
theorem AvX {n x:Int} (h1:SH n 0 10000) (h2:SH x 1 100):IntKind.i64.wrap (n*x)=n*x:=by
 have a1:0≤n*x:=Int.mul_nonneg h1.1 (by omega)
 have a2:n*x≤10000*100:=Int.mul_le_mul h1.2 h2.2 (by omega) (by omega)
 exact Ad (by omega) (by omega)
theorem Avx (D:Dn) (hR:FR (D Qo)) (hI:SG (D CB)) (hC:O5 (D AmH)):OW (Body D TS):=by
 intro r n hl
 simp -implicitDefEqProofs
 refine Aa (hR r hl) ?_
 by_cases h1:Bp r=true
 rotate_left
 ·simp -implicitDefEqProofs [h1,countIn]
 by_cases h2:r.off=true
 ·simp -implicitDefEqProofs [h1,h2,countIn]
 simp -implicitDefEqProofs [h1,h2]
 refine Aa (hI _ _ _) ?_
 by_cases h3:SH n 0 10000
 rotate_left
 ·simp -implicitDefEqProofs [h3,countIn]
 obtain⟨p1,p2,p3,p4⟩:=ArH h1
 obtain⟨q,hq⟩:∃q:Nat,r.pos=q:=⟨r.pos.toNat,by omega⟩
 have hq2:q<r.stages.length:=by omega
 have e:countIn r n=KW (n*r.stages[q]) 100:=by unfold countIn;rw[if_pos ⟨h1,by simpa using h2,h3⟩,hq];simp[hq2]
 have p4':SH r.stages[q] 1 100:=by rw[hq]at p4;simpa[hq2]using p4
 have hw:=AvX h3 p4'
 simp -implicitDefEqProofs [h3,hq,hq2,hw]
 refine Aa (hC _ _) ?_
 simp -implicitDefEqProofs [e]
def isIn (r:EH) (i n:Int):Bool:=decide (0≤i)&&decide (i<n)&&decide (i<countIn r n)
abbrev Aft (R:Rel):Prop:=∀(r:EH) (i n:Int),r.stages.length≤4194304→R [arg (Gx r),I i,I n] [] (B (isIn r i n)) []
theorem AmX (D:Dn) (hC:OW (D Anf)):Aft (Body D R4):=by
 intro r i n hl
 by_cases h1:0≤i
 ·by_cases h2:i<n
  ·simp -implicitDefEqProofs [h1,h2]
   refine Aa (hC r n hl) ?_
   simp -implicitDefEqProofs [isIn,h1,h2]
  ·simp -implicitDefEqProofs [h1,h2,isIn]
 ·simp -implicitDefEqProofs [h1,isIn]
abbrev Aid (R:Rel):Prop:=∀(w:World) (i:Int),w.ends.length≤4194304→R [arg (EF w),I i] [] (B (decide (SH i 0 ((w.ends.length:Int)-1)))) []
theorem ABa (D:Dn) (hI:SG (D Bz)):Aid (Body D VD):=by
 intro w i hl
 have hw:IntKind.i64.wrap ((w.ends.length:Int)-1)=(w.ends.length:Int)-1:=Ad (by omega) (by omega)
 simp -implicitDefEqProofs [hw]
 refine Aa (hI _ _ _) ?_
 simp -implicitDefEqProofs
def ADC (w:World) (i:Int):Bool:=decide (SH i 0 ((w.ends.length:Int)-1))&&isIn w.rollout i w.ends.length&&(match w.ends[i.toNat]? with | some e=>decide (w.rollout.version∈e.versions) | none=>false)
theorem AfP {w:World} (h:Ay w≤4194304) {j:Nat} (hj:j<w.ends.length):w.ends[j].versions.length≤maxLen:=by
 have:=size_at (f:=Ac) hj
 have e:Ac w.ends[j]=w.ends[j].versions.length+w.ends[j].tags.length+Bw Ct w.ends[j].path:=rfl
 unfold Ay at h
 unfold maxLen;omega
theorem Ro {w:World} (h:Ay w≤4194304):w.rollout.stages.length≤4194304:=by unfold Ay Bg at h;omega
abbrev TF (R:Rel):Prop:=∀(w:World) (i:Int),Ay w≤4194304→R [arg (EF w),I i] [] (B (ADC w i)) []
theorem Aiu (D:Dn) (hI:SG (D CB)) (hN:Aft (D AFo)) (hH:R6 (D Jl)):TF (Body D MG):=by
 intro w i hsz
 have hl:=JQ hsz
 have hw:IntKind.i64.wrap ((w.ends.length:Int)-1)=(w.ends.length:Int)-1:=Ad (by omega) (by omega)
 simp -implicitDefEqProofs [hw]
 refine Aa (hI _ _ _) ?_
 by_cases h1:SH i 0 ((w.ends.length:Int)-1)
 rotate_left
 ·simp -implicitDefEqProofs [h1,ADC]
 simp -implicitDefEqProofs [h1]
 refine Aa (hN w.rollout _ _ (Ro hsz)) ?_
 by_cases h2:isIn w.rollout i w.ends.length=true
 rotate_left
 ·simp -implicitDefEqProofs [h2,ADC]
 obtain⟨j,rfl⟩:∃j:Nat,i=j:=⟨i.toNat,by omega⟩
 have hj:j<w.ends.length:=by omega
 simp -implicitDefEqProofs [h2,hj]
 refine Aa (hH _ _ (AfP hsz hj)) ?_
 simp -implicitDefEqProofs [ADC,h1,h2,hj]
end Go.Eng.T
namespace Go.Eng.T
set_option maxRecDepth 20000
def Eg (w:World) (n:Int):World×Bool:=if SH n 1 100∧SH w.now 0 (10000-n)then({w with now:=w.now+n},true)else(w,false)
abbrev Qv (R:Rel):Prop:=∀(w:World) (n:Int),Ay w≤4194304→R [arg (EF w),I n] [] (.tup [.agg (EF (Eg w n).1),B (Eg w n).2]) []
theorem Agr (D:Dn) (hC:Ef (D ACA)) (hI:SG (D CB)):Qv (Body D Lg):=by
 intro w n h
 simp -implicitDefEqProofs
 refine Aa (hC w h) ?_
 simp -implicitDefEqProofs
 refine Aa (hI _ _ _) ?_
 by_cases h1:SH n 1 100
 rotate_left
 ·have e:Eg w n=(w,false):=by unfold Eg;rw[if_neg (by omega)]
  simp -implicitDefEqProofs [h1,e]
 have hw:IntKind.i64.wrap (10000-n)=10000-n:=Ad (by omega) (by omega)
 simp -implicitDefEqProofs [h1,hw]
 refine Aa (hI _ _ _) ?_
 by_cases h2:SH w.now 0 (10000-n)
 rotate_left
 ·have e:Eg w n=(w,false):=by unfold Eg;rw[if_neg (by omega)]
  simp -implicitDefEqProofs [h2,e]
 have hw2:IntKind.i64.wrap (w.now+n)=w.now+n:=Ad (by omega) (by omega)
 have e:Eg w n=({w with now:=w.now+n},true):=by unfold Eg;rw[if_pos (by omega)]
 simp -implicitDefEqProofs [h2,e,hw2]
def M4 (w:World) (i:Nat):World:=match w.ends[i]? with
 | some x=> {w with ends:=w.ends.set i ⟨x.versions,x.tags,[],x.cls⟩}
 | none=>w
def Dp (w:World) (i:Int):World×Bool:=
 if 0≤i then(match w.ends[i.toNat]? with
  | some x=>if x.path=[]then(w,false)else(M4 w i.toNat,true)
  | none=>(w,false))else(w,false)
abbrev NA (R:Rel):Prop:=∀(w:World) (i:Int),Ay w≤4194304→R [arg (EF w),I i] [] (.tup [.agg (EF (Dp w i).1),B (Dp w i).2]) []
theorem Adf {w:World} {i:Int} (h:¬SH i 0 ((w.ends.length:Int)-1)):Dp w i=(w,false):=by
 unfold Dp
 by_cases h0:0≤i
 ·rw[if_pos h0,List.getElem?_eq_none (by omega)]
 ·rw[if_neg h0]
theorem Afc (D:Dn) (hC:Ef (D ACA)) (hI:SG (D CB)):NA (Body D JG):=by
 intro w i h
 have hl:=JQ h
 have hw:IntKind.i64.wrap ((w.ends.length:Int)-1)=(w.ends.length:Int)-1:=Ad (by omega) (by omega)
 simp -implicitDefEqProofs
 refine Aa (hC w h) ?_
 simp -implicitDefEqProofs [hw]
 refine Aa (hI _ _ _) ?_
 by_cases h1:SH i 0 ((w.ends.length:Int)-1)
 rotate_left
 ·simp -implicitDefEqProofs [h1,Adf h1]
 obtain⟨j,rfl⟩:∃j:Nat,i=j:=⟨i.toNat,by omega⟩
 have hj:j<w.ends.length:=by omega
 by_cases h2:w.ends[j].path=[]
 ·have e:Dp w j=(w,false):=by unfold Dp;rw[if_pos (by omega)];simp[hj,h2]
  simp -implicitDefEqProofs [h1,h2,hj,e]
 ·have e:Dp w j=({w with ends:=w.ends.set j ⟨w.ends[j].versions,w.ends[j].tags,[],w.ends[j].cls⟩},true):=by unfold Dp;rw[if_pos (by omega)];simp[hj,h2,M4]
  have hf:j*4+2<w.ends.length*4:=by omega
  have hs:(w.ends.flatMap Ak).set (j*4+2) (.sl 0 4 0 [])=(w.ends.set j ⟨w.ends[j].versions,w.ends[j].tags,[],w.ends[j].cls⟩).flatMap Ak:=ADs hj [] rfl
  simp -implicitDefEqProofs [h1,h2,hj,e,hf,hs]
theorem AC5 {α:Type} {f:α→Nat}:∀ {xs:List α} {j:Nat} (h:j<xs.length) (y:α),((xs.set j y).map f).sum+f xs[j]=(xs.map f).sum+f y
 | [],j,h,_=>by simp at h
 | x::r,0,h,y=>by simp;omega
 | x::r,j+1,h,y=>by
  have:=AC5 (f:=f) (xs:=r) (j:=j) (by simpa using h) y
  simp at *
  omega
theorem size_set {α:Type} {f:α→Nat} {xs:List α} {j:Nat} (h:j<xs.length) (y:α):Bw f (xs.set j y)+f xs[j]=Bw f xs+f y:=by
 have:=AC5 (f:=f) h y
 unfold Bw;simp only[List.length_set];omega
end Go.Eng.T
namespace Go.Eng.T
set_option maxRecDepth 20000
theorem Sw {xs:List Int} {lo hi:Int} {j:Nat} (h:j<xs.length):allIn (xs.take (j+1)) lo hi=(allIn (xs.take j) lo hi&&decide (Q5 xs[j] lo hi)):=by
 have e:xs.take (j+1)=xs.take j++ [xs[j]]:=by simp
 unfold allIn
 rw[e,List.all_append];simp
theorem AqU {xs:List Int} {lo hi:Int} {j:Nat} (h:j<xs.length) (hn:¬Q5 xs[j] lo hi):allIn xs lo hi=false:=by
 unfold allIn
 rw[List.all_eq_false]
 exact⟨xs[j],List.getElem_mem h,by simp[hn]⟩
theorem Ae1 {xs:List Int} {lo hi:Int} {j:Nat} (h:xs.length≤j) (ha:allIn (xs.take j) lo hi=true):allIn xs lo hi=true:=by rwa [List.take_of_length_le h]at ha
abbrev Yr (R:Rel):Prop:=∀xs:List Int,xs.length≤maxLen→R [.sl 1 1 xs.length (ints xs)] [] (B (allIn xs 0 255)) []
theorem ACc (D:Dn) (hI:SG (D CB)):Yr (Body D VG):=by
 intro xs hl
 unfold maxLen at hl
 simp -implicitDefEqProofs
 refine Ae (fun k s=>∃j,j+k=xs.length∧allIn (xs.take j) 0 255=true∧s=⟨[.sl 1 1 xs.length (ints xs),.undef,.sc (.int .i64 j),.undef,.undef],[]⟩) ?_ xs.length _ ⟨0,by simp,by simp[allIn],by simp⟩
 intro k s ⟨j,hj,hp,hs⟩
 subst hs
 by_cases hjn:j<xs.length
 ·have hw:IntKind.i64.wrap ((j:Int)+1)=(j+1:Nat):=by rw[Ad (by omega) (by omega)];simp
  simp -implicitDefEqProofs [hjn]
  refine Aa (hI _ _ _) ?_
  by_cases h1:Q5 xs[j] 0 255
  ·simp -implicitDefEqProofs [h1]
   exact⟨k-1,by omega,j+1,by omega,by rw[Sw hjn,hp];simp[h1],by simp[hw]⟩
  ·simp -implicitDefEqProofs [h1,AqU hjn h1]
 ·simp -implicitDefEqProofs [hjn,Ae1 (by omega) hp]
def Hz (b:Gu):Bool:=decide (Q5 b.limit 0 9)&&decide (b.drops.length≤6)&&decide (b.strips.length≤6)&&allIn b.drops 0 255&&allIn b.strips 0 255
abbrev RQ (R:Rel):Prop:=∀b:Gu,Hw b→R [arg (CF b)] [] (B (Hz b)) []
theorem AB1 (D:Dn) (hI:SG (D CB)) (hB:Yr (D Vw)):RQ (Body D Xo):=by
 intro b hl
 simp -implicitDefEqProofs
 refine Aa (hI _ _ _) ?_
 by_cases h1:Q5 b.limit 0 9
 rotate_left
 ·simp -implicitDefEqProofs [h1,Hz]
 by_cases h2:b.drops.length≤6
 rotate_left
 ·have h2':¬(b.drops.length:Int)≤6:=by omega
  simp -implicitDefEqProofs [h1,h2',h2,Hz]
 have h2':(b.drops.length:Int)≤6:=by omega
 by_cases h3:b.strips.length≤6
 rotate_left
 ·have h3':¬(b.strips.length:Int)≤6:=by omega
  simp -implicitDefEqProofs [h1,h2',h3',h3,Hz]
 have h3':(b.strips.length:Int)≤6:=by omega
 simp -implicitDefEqProofs [h1,h2',h3']
 refine Aa (hB _ hl.1) ?_
 by_cases h4:allIn b.drops 0 255=true
 rotate_left
 ·simp -implicitDefEqProofs [h4,Hz]
 simp -implicitDefEqProofs [h4]
 refine Aa (hB _ hl.2) ?_
 simp -implicitDefEqProofs [Hz,h1,h2,h3,h4]
theorem ABX (D:Dn) (hI:SG (D Bz)) (hB:Jv (D Kb)):RQ (Body D Ya):=by
 intro b hl
 simp -implicitDefEqProofs
 refine Aa (hI _ _ _) ?_
 by_cases h1:Q5 b.limit 0 9
 rotate_left
 ·simp -implicitDefEqProofs [h1,Hz]
 by_cases h2:b.drops.length≤6
 rotate_left
 ·have h2':¬(b.drops.length:Int)≤6:=by omega
  simp -implicitDefEqProofs [h1,h2',h2,Hz]
 have h2':(b.drops.length:Int)≤6:=by omega
 by_cases h3:b.strips.length≤6
 rotate_left
 ·have h3':¬(b.strips.length:Int)≤6:=by omega
  simp -implicitDefEqProofs [h1,h2',h3',h3,Hz]
 have h3':(b.strips.length:Int)≤6:=by omega
 simp -implicitDefEqProofs [h1,h2',h3']
 refine Aa (hB _ _ _ hl.1) ?_
 by_cases h4:allIn b.drops 0 255=true
 rotate_left
 ·simp -implicitDefEqProofs [h4,Hz]
 simp -implicitDefEqProofs [h4]
 refine Aa (hB _ _ _ hl.2) ?_
 simp -implicitDefEqProofs [Hz,h1,h2,h3,h4]
def Ey (w:World) (i:Int) (b:Gu):World×Bool:=
 if 0≤i then(match w.ends[i.toNat]? with
  | some x=>if Hz b=true∧x.path.length<4 then({w with ends:=w.ends.set i.toNat ⟨x.versions,x.tags,x.path++ [b],x.cls⟩},true)else(w,false)
  | none=>(w,false))else(w,false)
abbrev Uk (R:Rel):Prop:=∀(w:World) (i:Int) (b:Gu),Ay w≤4194304→Ct b≤4194304→R [arg (EF w),I i,arg (CF b)] [] (.tup [.agg (EF (Ey w i b).1),B (Ey w i b).2]) []
theorem Agg {w:World} {i:Int} {b:Gu} (h:¬SH i 0 ((w.ends.length:Int)-1)):Ey w i b=(w,false):=by
 unfold Ey
 by_cases h0:0≤i
 ·rw[if_pos h0,List.getElem?_eq_none (by omega)]
 ·rw[if_neg h0]
theorem Al1 {b:Gu} (h:Ct b≤4194304):Hw b:=by unfold Ct at h;unfold Hw Jr maxLen;omega
theorem AhQ (D:Dn) (hC:Ef (D ACA)) (hI:SG (D CB)) (hB:RQ (D XP)):Uk (Body D MJ):=by
 intro w i b h hb
 have hl:=JQ h
 have hw:IntKind.i64.wrap ((w.ends.length:Int)-1)=(w.ends.length:Int)-1:=Ad (by omega) (by omega)
 simp -implicitDefEqProofs
 refine Aa (hC w h) ?_
 simp -implicitDefEqProofs [hw]
 refine Aa (hI _ _ _) ?_
 by_cases h1:SH i 0 ((w.ends.length:Int)-1)
 rotate_left
 ·simp -implicitDefEqProofs [h1,Agg h1]
 obtain⟨j,rfl⟩:∃j:Nat,i=j:=⟨i.toNat,by omega⟩
 have hj:j<w.ends.length:=by omega
 simp -implicitDefEqProofs [h1]
 refine Aa (hB b (Al1 hb)) ?_
 by_cases h2:Hz b=true
 rotate_left
 ·have e:Ey w j b=(w,false):=by unfold Ey;rw[if_pos (by omega)];simp[hj,h2]
  simp -implicitDefEqProofs [h2,e]
 by_cases h3:w.ends[j].path.length<4
 rotate_left
 ·have e:Ey w j b=(w,false):=by unfold Ey;rw[if_pos (by omega)];simp[hj,h3]
  have h3':(4:Int)≤w.ends[j].path.length:=by omega
  simp -implicitDefEqProofs [h2,hj,h3',e]
 have e:Ey w j b=({w with ends:=w.ends.set j ⟨w.ends[j].versions,w.ends[j].tags,w.ends[j].path++ [b],w.ends[j].cls⟩},true):=by unfold Ey;rw[if_pos (by omega)];simp[hj,h2,h3]
 have h3':¬(4:Int)≤w.ends[j].path.length:=by omega
 have hz:Ct b=b.drops.length+b.strips.length:=rfl
 have b1:b.drops.length*8≤1099511627776:=by omega
 have b2:b.strips.length*8≤1099511627776:=by omega
 have b3:(w.ends[j].path.length+1)*64≤1099511627776:=by omega
 have hf:j*4+2<w.ends.length*4:=by omega
 simp -implicitDefEqProofs [h2,hj,h3',e,hf,b1,b2,b3]
 have hs:=ADs hj (w.ends[j].path++ [b]) (n:=w.ends[j].path.length+1) (by simp)
 simpa[List.flatMap_append]using hs
end Go.Eng.T
namespace Go.Eng.T
set_option maxRecDepth 20000
abbrev OH (D:Dn) (R:Rel):Prop:=∀(xs:List Gu) (g:Nat) (caps:List V) (p:Gu→Bool),xs.length≤maxLen→Ke caps→(∀(j:Nat) (h:j<xs.length),D g (arg (CF xs[j])::caps) [] (B (p xs[j])) [])→R [.sl 1 4 xs.length (xs.flatMap CF),.fn g caps] [] (I (Gs p xs 0)) []
theorem Als (D:Dn):OH D (Body D Dv):=by
 intro xs g caps p hl hc hp
 unfold maxLen at hl
 simp -implicitDefEqProofs
 refine Ae (fun k s=>∃j,j+k=xs.length∧Gs p xs 0=Gs p (xs.drop j) j∧s=⟨[.sl 1 4 xs.length (xs.flatMap CF),.fn g caps,.undef,.undef,.sc (.int .i64 xs.length),.sc (.int .i64 j),.undef,.undef],[]⟩) ?_ xs.length _ ⟨0,by simp,by simp,by simp⟩
 intro k s ⟨j,hj,hi,hs⟩
 subst hs
 by_cases hjn:j<xs.length
 ·have hw:IntKind.i64.wrap ((j:Int)+1)=(j+1:Nat):=by rw[Ad (by omega) (by omega)];simp
  rw[Nz hjn]at hi
  simp -implicitDefEqProofs [hjn,hc.1,hc.2.1]
  refine Aa (hp j hjn) ?_
  by_cases he:p xs[j]=true
  ·rw[if_pos he]at hi
   simp -implicitDefEqProofs [he,hi]
  ·rw[if_neg he]at hi
   simp -implicitDefEqProofs [he]
   exact⟨k-1,by omega,j+1,by omega,by simpa using hi,by simp[hw]⟩
 ·rw[Sm (by omega)]at hi
  simp -implicitDefEqProofs [hjn,hi]
abbrev H9 (D:Dn) (R:Rel):Prop:=∀(xs:List Gu) (g:Nat) (caps:List V) (p:Gu→Bool),xs.length≤maxLen→Ke caps→(∀(j:Nat) (h:j<xs.length),D g (arg (CF xs[j])::caps) [] (B (p xs[j])) [])→R [.sl 1 4 xs.length (xs.flatMap CF),.fn g caps] [] (B (xs.any p)) []
theorem AcB (D:Dn) (hI:OH D (D JN)):H9 D (Body D C8):=by
 intro xs g caps p hl hc hp
 simp -implicitDefEqProofs [hc.2.2]
 refine Aa (hI xs g caps p hl hc hp) ?_
 have e:decide (0≤Gs p xs 0)=xs.any p:=by rw[Bool.eq_iff_iff];simp only[decide_eq_true_eq];rw[QN (by omega)]
 simp -implicitDefEqProofs [e]
end Go.Eng.T
namespace Go.Eng.T
set_option maxRecDepth 20000
end Go.Eng.T
namespace Go.Eng.T
set_option maxRecDepth 20000
def Am (t:Int):Bool:=decide (Q5 t 0 255)&&decide (t.tmod 16=10)
abbrev EW (R:Rel):Prop:=∀t:Int,R [I t] [] (B (Am t)) []
theorem AlF (D:Dn) (hI:SG (D CB)):EW (Body D OC):=by
 intro t
 simp -implicitDefEqProofs
 refine Aa (hI _ _ _) ?_
 by_cases h:Q5 t 0 255
 ·simp -implicitDefEqProofs [h,Am,WT]
 ·simp -implicitDefEqProofs [h,Am]
theorem Ama (D:Dn) (hI:SG (D Bz)):EW (Body D NG):=by
 intro t
 simp -implicitDefEqProofs
 refine Aa (hI _ _ _) ?_
 by_cases h:Q5 t 0 255
 ·simp -implicitDefEqProofs [h,Am,WT]
 ·simp -implicitDefEqProofs [h,Am]
abbrev F9 (R:Rel):Prop:=∀xs:List Int,xs.length≤maxLen→R [.sl 1 1 xs.length (ints xs)] [] (B (xs.any Am)) []
theorem Ph {α:Type} {p:α→Bool} {xs:List α} {j:Nat} (h:j<xs.length) (hp:p xs[j]=true):xs.any p=true:=List.any_eq_true.2 ⟨_,List.getElem_mem h,hp⟩
theorem X5 {α:Type} {p:α→Bool} {xs:List α} {j:Nat} (h:j<xs.length):(xs.take (j+1)).any p=((xs.take j).any p||p xs[j]):=by
 have e:xs.take (j+1)=xs.take j++ [xs[j]]:=by simp
 rw[e,List.any_append];simp
theorem any_none {α:Type} {p:α→Bool} {xs:List α} {j:Nat} (h:xs.length≤j) (ha:(xs.take j).any p=false):xs.any p=false:=by rwa [List.take_of_length_le h]at ha
theorem AlS (D:Dn) (hR:EW (D UH)) (hC:KF D (D HV)):F9 (Body D ND):=by
 intro xs hl
 simp -implicitDefEqProofs
 refine Aa (hC xs 279 _ Am hl ER (fun x=>hR x)) ?_
 generalize xs.any Am=b
 simp -implicitDefEqProofs
end Go.Eng.T
namespace Go.Eng.T
end Go.Eng.T
namespace Go.Eng.T
set_option maxRecDepth 20000
abbrev KP (D:Dn) (R:Rel):Prop:=∀(xs:List Ext) (g:Nat) (caps:List V) (p:Ext→Bool),xs.length≤maxLen→Ke caps→(∀(j:Nat) (h:j<xs.length),D g (arg (Br xs[j])::caps) [] (B (p xs[j])) [])→R [.sl 1 2 xs.length (xs.flatMap Br),.fn g caps] [] (I (Gs p xs 0)) []
theorem AjN (D:Dn):KP D (Body D Dy):=by
 intro xs g caps p hl hc hp
 unfold maxLen at hl
 simp -implicitDefEqProofs
 refine Ae (fun k s=>∃j,j+k=xs.length∧Gs p xs 0=Gs p (xs.drop j) j∧s=⟨[.sl 1 2 xs.length (xs.flatMap Br),.fn g caps,.undef,.undef,.sc (.int .i64 xs.length),.sc (.int .i64 j),.undef,.undef],[]⟩) ?_ xs.length _ ⟨0,by simp,by simp,by simp⟩
 intro k s ⟨j,hj,hi,hs⟩
 subst hs
 by_cases hjn:j<xs.length
 ·have hw:IntKind.i64.wrap ((j:Int)+1)=(j+1:Nat):=by rw[Ad (by omega) (by omega)];simp
  rw[Nz hjn]at hi
  simp -implicitDefEqProofs [hjn,hc.1,hc.2.1]
  refine Aa (hp j hjn) ?_
  by_cases he:p xs[j]=true
  ·rw[if_pos he]at hi
   simp -implicitDefEqProofs [he,hi]
  ·rw[if_neg he]at hi
   simp -implicitDefEqProofs [he]
   exact⟨k-1,by omega,j+1,by omega,by simpa using hi,by simp[hw]⟩
 ·rw[Sm (by omega)]at hi
  simp -implicitDefEqProofs [hjn,hi]
abbrev J6 (D:Dn) (R:Rel):Prop:=∀(xs:List Ext) (g:Nat) (caps:List V) (p:Ext→Bool),xs.length≤maxLen→Ke caps→(∀(j:Nat) (h:j<xs.length),D g (arg (Br xs[j])::caps) [] (B (p xs[j])) [])→R [.sl 1 2 xs.length (xs.flatMap Br),.fn g caps] [] (B (xs.any p)) []
theorem Aci (D:Dn) (hI:KP D (D FD)):J6 D (Body D CZ):=by
 intro xs g caps p hl hc hp
 simp -implicitDefEqProofs [hc.2.2]
 refine Aa (hI xs g caps p hl hc hp) ?_
 have e:decide (0≤Gs p xs 0)=xs.any p:=by rw[Bool.eq_iff_iff];simp only[decide_eq_true_eq];rw[QN (by omega)]
 simp -implicitDefEqProofs [e]
end Go.Eng.T
namespace Go.Eng.T
set_option maxRecDepth 20000
def GR (t:Int) (x:Ext):Bool:=decide (x.tag=t)
def Js (l:List Ext) (t:Int):Int:=Gs (GR t) l 0
abbrev Qn (R:Rel):Prop:=∀(l:List Ext) (t:Int),l.length≤maxLen→R [.sl 1 2 l.length (l.flatMap Br),I t] [] (I (Js l t)) []
theorem ABd (D:Dn):Qn (Body D Xa):=by
 intro l t hl
 unfold maxLen at hl
 have hres:Js l t=Gs (GR t) l 0:=rfl
 rw[hres]
 simp -implicitDefEqProofs
 refine Ae (fun k s=>∃j,j+k=l.length∧Gs (GR t) l 0=Gs (GR t) (l.drop j) j∧s=⟨[.sl 1 2 l.length (l.flatMap Br),I t,.undef,I j,.undef,.undef],[]⟩) ?_ (l.length) _ ⟨0,by simp,by simp,by simp⟩
 intro k s ⟨j,hj,hi,hs⟩
 subst hs
 by_cases hjn:j<l.length
 ·have hw:IntKind.i64.wrap ((j:Int)+1)=(j+1:Nat):=by rw[Ad (by omega) (by omega)];simp
  rw[Nz hjn]at hi
  by_cases he:l[j].tag=t
  ·rw[if_pos (by simp[GR,he])]at hi
   simp -implicitDefEqProofs [hjn,he,hi]
  ·rw[if_neg (by simp[GR,he])]at hi
   simp -implicitDefEqProofs [hjn,he]
   exact⟨k-1,by omega,j+1,by omega,by simpa using hi,by simp[hw]⟩
 ·rw[Sm (by omega)]at hi
  simp -implicitDefEqProofs [hjn,hi]
abbrev Ah6 (R:Rel):Prop:=∀(x:Ext) (t:Int),R [arg (Br x),.rptr 1 [I t] 0] [] (B (GR t x)) []
theorem ABN (D:Dn):Ah6 (Body D TH):=by
 intro x t
 simp -implicitDefEqProofs [GR,WT]
theorem AAV (D:Dn) (h1:Ah6 (D Al0)) (hX:KP D (D FD)):Qn (Body D XQ):=by
 intro l t hl
 have hres:Js l t=Gs (GR t) l 0:=rfl
 rw[hres]
 simp -implicitDefEqProofs
 refine Aa (hX l 351 _ (GR t) hl (Aem ER) (fun j h=>h1 l[j] t)) ?_
 simp -implicitDefEqProofs
def Xd (x:Ext):Bool:=decide (Q5 x.tag 0 255)&&(decide (x.body.length≤4)&&allIn x.body 0 255)
def VU (l:List Ext) (i:Nat):Bool:=match l[i]? with
 | some x=>Xd x&& !(l.take i).any (GR x.tag)
 | none=>true
theorem Afk {l:List Ext} {i:Nat} (h:i<l.length):VU l i=(Xd l[i]&& !(l.take i).any (GR l[i].tag)):=by
 unfold VU
 rw[List.getElem?_eq_getElem h]
def EC (l:List Ext):Bool:=Nl (VU l) l.length&&decide (l.length≤6)
theorem Auq {α:Type} {p:α→Bool}:∀ {xs:List α} {i:Int},Gs p xs i= -1∨(i≤Gs p xs i∧Gs p xs i<i+xs.length)
 | [],i=> .inl rfl
 | x::r,i=>by
  by_cases hp:p x=true
  ·right;simp[Gs,hp];omega
  ·rcases Auq (p:=p) (xs:=r) (i:=i+1)with h | h
   ·left;simp[Gs,hp,h]
   ·right;simp[Gs,hp]at *;omega
theorem Awt {α:Type} {p:α→Bool}:∀ {xs:List α} {i:Int} {j:Nat},0≤i→(h:j<xs.length)→p xs[j]=true→(Gs p xs i<i+j↔(xs.take j).any p=true)
 | x::r,i,0,hi,h,hp=>by
  have:p x=true:=hp
  simp[Gs,this]
 | x::r,i,j+1,hi,h,hp=>by
  by_cases hx:p x=true
  ·simp[Gs,hx];omega
  ·have:=Awt (p:=p) (xs:=r) (i:=i+1) (j:=j) (by omega) (by simpa using h) (by simpa using hp)
   simp only[Gs,hx,List.take_succ_cons,List.any_cons,Bool.false_or]
   rw[←this]
   simp
   omega
theorem Aq2 {l:List Ext} {j:Nat} (h:j<l.length):(Js l l[j].tag<(j:Int))=((l.take j).any (GR l[j].tag)=true):=by
 have:=Awt (p:=GR l[j].tag) (i:=0) (by omega) h (by simp[GR])
 rw[Int.zero_add]at this
 exact propext this
theorem Ai8 {l:List Ext} {j:Nat} {t:Int}:(0≤Js (l.take j) t)=((l.take j).any (GR t)=true):=QN (by omega)
theorem Jz {l:List Ext} {j:Nat} (h:j<l.length) (hn:VU l j=false):EC l=false:=by
 unfold EC
 rw[AkG h hn];rfl
abbrev FV (R:Rel):Prop:=∀l:List Ext,Ub l→R [.sl 1 2 l.length (l.flatMap Br)] [] (B (EC l)) []
theorem Auf (D:Dn) (hI:SG (D CB)) (hB:Yr (D Vw)) (hX:Qn (D Tg)):FV (Body D TW):=by
 intro l hl
 have hll:=hl.1
 simp -implicitDefEqProofs
 refine Ae (fun k s=>∃j,j+k=l.length∧Nl (VU l) j=true∧s=⟨[.sl 1 2 l.length (l.flatMap Br),.undef,I j,.undef,.undef],[]⟩) ?_ (l.length) _ ⟨0,by simp,by simp,by simp⟩
 intro k s ⟨j,hj,hr,hs⟩
 subst hs
 by_cases hjn:j<l.length
 ·have hw:IntKind.i64.wrap ((j:Int)+1)=(j+1:Nat):=by rw[Ad (by omega) (by omega)];simp
  have hst:=IC (VU l) j
  have hq:=Afk hjn
  have hb:=Mr hl hjn
  rw[hr,Bool.true_and]at hst
  simp -implicitDefEqProofs [hjn]
  refine Aa (hI _ _ _) ?_
  by_cases h1:Q5 l[j].tag 0 255
  rotate_left
  ·have e:=Jz hjn (by rw[hq];simp[Xd,h1])
   simp -implicitDefEqProofs [h1,e]
  by_cases h2:l[j].body.length≤4
  rotate_left
  ·have e:=Jz hjn (by rw[hq];simp[Xd,h2])
   have h2':(4:Int)<l[j].body.length:=by omega
   simp -implicitDefEqProofs [hjn,h1,h2',e]
  have h2':¬(4:Int)<l[j].body.length:=by omega
  simp -implicitDefEqProofs [hjn,h1,h2']
  refine Aa (hB _ (by unfold maxLen;omega)) ?_
  by_cases h3:allIn l[j].body 0 255=true
  rotate_left
  ·have e:=Jz hjn (by rw[hq];simp[Xd,h3])
   simp -implicitDefEqProofs [hjn,h3,e]
  simp -implicitDefEqProofs [hjn,h3]
  refine Aa (hX l _ (by unfold maxLen;omega)) ?_
  by_cases h4:(l.take j).any (GR l[j].tag)=true
  ·have e:=Jz hjn (by rw[hq];simp only[h4];simp)
   have h4':Js l l[j].tag<(j:Int):=by rw[Aq2 hjn];exact h4
   simp -implicitDefEqProofs [hjn,h4',e]
  ·have h4':¬Js l l[j].tag<(j:Int):=by rw[Aq2 hjn];exact h4
   have h4f:(l.take j).any (GR l[j].tag)=false:=by simpa using h4
   simp -implicitDefEqProofs [hjn,h4']
   exact⟨k-1,by omega,j+1,by omega,by rw[hst,hq,h4f];simp[Xd,h1,h2,h3],by simp[hw]⟩
 ·obtain rfl:j=l.length:=by omega
  have e:EC l=decide (l.length≤6):=by unfold EC;rw[hr];rfl
  by_cases h5:l.length≤6
  ·have h5':(l.length:Int)≤6:=by omega
   simp -implicitDefEqProofs [e,h5,h5']
  ·have h5':¬(l.length:Int)≤6:=by omega
   simp -implicitDefEqProofs [e,h5,h5']
theorem Avu (D:Dn) (hI:SG (D Bz)) (hX:Qn (D AfC)) (hN:Jv (D Kb)):FV (Body D Uh):=by
 intro l hl
 have hll:=hl.1
 simp -implicitDefEqProofs
 refine Ae (fun k s=>∃j o0,j+k=l.length∧Nl (VU l) j=true∧s=⟨[.sl 1 2 l.length (l.flatMap Br),.undef,.undef,.undef,.sl 1 2 l.length (l.flatMap Br),I l.length,I j,.undef,.undef],[o0]⟩) ?_ (l.length) _ ⟨0,.free,by simp,by simp,by simp⟩
 intro k s ⟨j,o0,hj,hr,hs⟩
 subst hs
 by_cases hjn:j<l.length
 ·have hw:IntKind.i64.wrap ((j:Int)+1)=(j+1:Nat):=by rw[Ad (by omega) (by omega)];simp
  have hst:=IC (VU l) j
  have hq:=Afk hjn
  have hb:=Mr hl hjn
  rw[hr,Bool.true_and]at hst
  simp -implicitDefEqProofs [hjn]
  refine Aa (hI _ _ _) ?_
  by_cases h1:Q5 l[j].tag 0 255
  rotate_left
  ·have e:=Jz hjn (by rw[hq];simp[Xd,h1])
   simp -implicitDefEqProofs [h1,e]
  have hjl:j≤l.length:=by omega
  have hmin:min j l.length=j:=by omega
  simp -implicitDefEqProofs [hjn,hjl,hmin,h1]
  have hxx:=hX (l.take j) l[j].tag (by simp;unfold maxLen;omega)
  rw[List.length_take,hmin]at hxx
  refine Aa (hxx) ?_
  by_cases h4:(l.take j).any (GR l[j].tag)=true
  ·have e:=Jz hjn (by rw[hq];simp only[h4];simp)
   have h4':0≤Js (l.take j) l[j].tag:=by rw[Ai8];exact h4
   simp -implicitDefEqProofs [hjn,h4',e]
  have h4':¬0≤Js (l.take j) l[j].tag:=by rw[Ai8];exact h4
  have h4f:(l.take j).any (GR l[j].tag)=false:=by simpa using h4
  by_cases h2:l[j].body.length≤4
  rotate_left
  ·have e:=Jz hjn (by rw[hq];simp[Xd,h2])
   have h2':(4:Int)<l[j].body.length:=by omega
   simp -implicitDefEqProofs [hjn,h4',h2',e]
  have h2':¬(4:Int)<l[j].body.length:=by omega
  simp -implicitDefEqProofs [hjn,h4',h2']
  refine Aa (hN _ _ _ (by unfold maxLen;omega)) ?_
  by_cases h3:allIn l[j].body 0 255=true
  rotate_left
  ·have e:=Jz hjn (by rw[hq];simp[Xd,h3])
   simp -implicitDefEqProofs [hjn,h3,e]
  simp -implicitDefEqProofs [hjn,h3]
  exact⟨k-1,by omega,j+1,by omega,by rw[hst,hq,h4f];simp[Xd,h1,h2,h3],by simp[hw]⟩
 ·obtain rfl:j=l.length:=by omega
  have e:EC l=decide (l.length≤6):=by unfold EC;rw[hr];rfl
  by_cases h5:l.length≤6
  ·have h5':(l.length:Int)≤6:=by omega
   simp -implicitDefEqProofs [e,h5,h5']
  ·have h5':¬(l.length:Int)≤6:=by omega
   simp -implicitDefEqProofs [e,h5,h5']
def Aq (l:List Ext):List Int:=l.map (·.tag)
theorem Aoi {l:List Ext} {j:Nat} (h:j<l.length):Aq (l.take (j+1))=Aq (l.take j)++ [l[j].tag]:=by
 have e:l.take (j+1)=l.take j++ [l[j]]:=by simp
 unfold Aq
 rw[e,List.map_append];rfl
abbrev KV (R:Rel):Prop:=∀l:List Ext,l.length≤4194304→R [.sl 1 2 l.length (l.flatMap Br)] [] (.sl 0 1 (Aq l).length (ints (Aq l))) []
theorem Axa (D:Dn):KV (Body D Wy):=by
 intro l hl
 simp -implicitDefEqProofs
 refine Ae (fun k s=>∃j o1 o2,j+k=l.length∧s=⟨[.sl 1 2 l.length (l.flatMap Br),.undef,.arr 3,I j,.undef],[.free,o1,o2,.arr 1 0 (Aq (l.take j)).length (ints (Aq (l.take j)))]⟩) ?_ (l.length) _ ⟨0,.free,.free,by simp,by simp[Aq]⟩
 intro k s ⟨j,o1,o2,hj,hs⟩
 subst hs
 by_cases hjn:j<l.length
 ·have hw:IntKind.i64.wrap ((j:Int)+1)=(j+1:Nat):=by rw[Ad (by omega) (by omega)];simp
  have hst:=Aoi hjn
  have hlen:(Aq (l.take j)).length=j:=by simp[Aq];omega
  have hb:(j+1)*8≤1099511627776:=by omega
  simp -implicitDefEqProofs [hjn,hlen,hb]
  exact⟨k-1,by omega,j+1,by omega,by simp[hw],by rw[hst];simp[hlen],by rw[hst]⟩
 ·have e:l.take j=l:=List.take_of_length_le (by omega)
  simp -implicitDefEqProofs [hjn,e]
end Go.Eng.T
namespace Go.Eng.T
set_option maxRecDepth 20000
def kept (p:Int→Bool) (l:List Ext):List Ext:=l.filter fun x=>p x.tag
theorem YK {p:Int→Bool} {l:List Ext} {j:Nat} (h:j<l.length):kept p (l.take (j+1))=kept p (l.take j)++(if p l[j].tag then [l[j]]else []):=Aaf (p:=fun x:Ext=>p x.tag) h
theorem UL {p:Int→Bool} {l:List Ext} {j:Nat} (h:l.length≤j):kept p (l.take j)=kept p l:=AdG h
theorem Vb {p:Int→Bool} {l:List Ext} {j:Nat}:(kept p (l.take j)).length≤j:=AdH
theorem UN {l:List Ext} (h:Ub l) (p:Int→Bool):Ub (kept p l):=Avo h _
theorem Q7 {p:Int→Bool} {l:List Ext} {j:Nat} (h:j<l.length) (hp:p l[j].tag=true):
 (kept p (l.take j)).flatMap Br++ [.sc (.int .i64 l[j].tag),.sl 0 1 l[j].body.length (ints l[j].body)]=(kept p (l.take (j+1))).flatMap Br:=by
 rw[YK h,if_pos hp,List.flatMap_append];simp
theorem I8 {p:Int→Bool} {l:List Ext} {j:Nat} (h:j<l.length) (hp:p l[j].tag=true):(kept p (l.take (j+1))).length=(kept p (l.take j)).length+1:=by
 rw[YK h,if_pos hp];simp
theorem UU {p:Int→Bool} {l:List Ext} {j:Nat} (h:j<l.length) (hp:¬p l[j].tag=true):kept p (l.take (j+1))=kept p (l.take j):=by
 rw[YK h,if_neg hp,List.append_nil]
def Aog (caps:List V):Prop:=∀k,caps.any (m1 k)=false
theorem Q0:Aog []:=fun _=>rfl
theorem Abf {fl:Nat} {cs:List V} {o:Nat} {r:List V} (h:Aog r):Aog (.rptr fl cs o::r):=fun k=>by
 have:=h k
 simp only[List.any_cons,this,m1,Bool.or_self]
theorem Q8 {k g:Nat} {caps:List V} (h:Aog caps):RU k (.fn g caps)= .fn g caps:=by
 have:=h k
 simp only[RU,m3,m2,this]
 rfl
theorem Xw {a b g:Nat} {caps:List V} (h:Aog caps):AbP a b (.fn g caps)= .fn g caps:=by
 have:=h a
 simp only[AbP,m3,m2,this]
 rfl
abbrev LP (D:Dn) (R:Rel):Prop:=∀(l:List Ext) (g:Nat) (caps:List V) (p:Int→Bool),Ub l→Ke caps→Aog caps→(∀t:Int,D g (I t::caps) [] (B (p t)) [])→
 R [.sl 1 2 l.length (l.flatMap Br),.fn g caps] [] (.sl 0 2 (kept p l).length ((kept p l).flatMap Br)) []
theorem AtG (D:Dn):LP D (Body D SA):=by
 intro l g caps p hl hc hno hp
 have hll:=hl.1
 simp -implicitDefEqProofs [↓Q8 hno,↓Xw hno]
 refine Ae (fun k s=>∃j v4 o1 o2 o3 o4 o5,j+k=l.length∧s=⟨[.undef,.fn g caps,.undef,.arr 6,v4,.sl 1 2 l.length (l.flatMap Br),I l.length,I j,.undef,.undef],[.free,o1,o2,o3,o4,o5,.arr 2 0 (kept p (l.take j)).length ((kept p (l.take j)).flatMap Br)]⟩) ?_ (l.length) _ ⟨0,.undef,.free,.free,.free,.free,.free,by simp,by simp[kept,↓Q8 hno,↓Xw hno]⟩
 intro k s ⟨j,v4,o1,o2,o3,o4,o5,hj,hs⟩
 subst hs
 by_cases hjn:j<l.length
 ·have hw:IntKind.i64.wrap ((j:Int)+1)=(j+1:Nat):=by rw[Ad (by omega) (by omega)];simp
  have hb:=Mr hl hjn
  have h1:l[j].body.length*8≤1099511627776:=by omega
  have hkl:=Vb (p:=p) (l:=l) (j:=j)
  have h2:((kept p (l.take j)).length+1)*32≤1099511627776:=by omega
  simp -implicitDefEqProofs [hjn,↓Q8 hno,↓Xw hno,hc.1,hc.2.1]
  refine Aa (hp l[j].tag) ?_
  by_cases he:p l[j].tag=true
  ·have hst:=Q7 hjn he
   have hsl:=I8 hjn he
   simp -implicitDefEqProofs [he,hjn,↓Q8 hno,↓Xw hno,h1,h2]
   exact⟨k-1,by omega,j+1,by omega,by simp[hw],by rw[hsl],by rw[←hst]⟩
  ·have hst:=UU hjn he
   simp -implicitDefEqProofs [he,↓Q8 hno,↓Xw hno]
   exact⟨k-1,by omega,j+1,by omega,by simp[hw],by rw[hst],by rw[hst]⟩
 ·have e:=UL (p:=p) (l:=l) (j:=j) (by omega)
  simp -implicitDefEqProofs [hjn,e]
abbrev Acx (R:Rel):Prop:=∀t:Int,R [I t] [] (B true) []
theorem Aro (D:Dn):Acx (Body D Nq):=by
 intro t
 simp -implicitDefEqProofs
theorem AxE (l:List Ext):kept (fun _=>true) l=l:=by simp[kept]
abbrev OG (R:Rel):Prop:=∀l:List Ext,Ub l→R [.sl 1 2 l.length (l.flatMap Br)] [] (.sl 0 2 l.length (l.flatMap Br)) []
theorem AtJ (D:Dn) (h1:Acx (D UG)) (hK:LP D (D JF)):OG (Body D Sy):=by
 intro l hl
 simp -implicitDefEqProofs
 refine Aa (hK l UG [] (fun _=>true) hl ER Q0 (fun t=>h1 t)) ?_
 simp -implicitDefEqProofs [AxE]
def AaR (l:List Ext):List Ext:=kept (fun t=> !Am t) l
def KT (l:List Ext) (tags:List Int):List Ext:=kept (fun t=>decide (t∈tags)) l
abbrev GX (R:Rel):Prop:=∀l:List Ext,Ub l→R [.sl 1 2 l.length (l.flatMap Br)] [] (.sl 0 2 (AaR l).length ((AaR l).flatMap Br)) []
abbrev L8 (R:Rel):Prop:=∀(l:List Ext) (tags:List Int),Ub l→tags.length≤maxLen→R [.sl 1 2 l.length (l.flatMap Br),.sl 1 1 tags.length (ints tags)] [] (.sl 0 2 (KT l tags).length ((KT l tags).flatMap Br)) []
theorem AtH (D:Dn) (hH:R6 (D Jl)):L8 (Body D TD):=by
 intro l tags hl ht
 have hll:=hl.1
 have hres:KT l tags=kept (fun t=>decide (t∈tags)) l:=rfl
 rw[hres]
 generalize hp:(fun t=>decide (t∈tags))=p
 simp -implicitDefEqProofs
 refine Ae (fun k s=>∃j o1 o2 o3 o4,j+k=l.length∧s=⟨[.sl 1 2 l.length (l.flatMap Br),.sl 1 1 tags.length (ints tags),.undef,.arr 5,I j,.undef,.undef],[.free,o1,o2,o3,o4,.arr 2 0 (kept p (l.take j)).length ((kept p (l.take j)).flatMap Br)]⟩) ?_ (l.length) _ ⟨0,.free,.free,.free,.free,by simp,by simp[kept]⟩
 intro k s ⟨j,o1,o2,o3,o4,hj,hs⟩
 subst hs
 by_cases hjn:j<l.length
 ·have hw:IntKind.i64.wrap ((j:Int)+1)=(j+1:Nat):=by rw[Ad (by omega) (by omega)];simp
  have hb:=Mr hl hjn
  have h1:l[j].body.length*8≤1099511627776:=by omega
  have hkl:=Vb (p:=p) (l:=l) (j:=j)
  have h2:((kept p (l.take j)).length+1)*32≤1099511627776:=by omega
  simp -implicitDefEqProofs [hjn]
  refine Aa (hH tags l[j].tag ht) ?_
  have hpe:decide (l[j].tag∈tags)=p l[j].tag:=by rw[←hp]
  rw[hpe]
  by_cases he:p l[j].tag=true
  ·have hst:=Q7 hjn he
   have hsl:=I8 hjn he
   simp -implicitDefEqProofs [he,hjn,h1,h2]
   exact⟨k-1,by omega,j+1,by omega,by simp[hw],by rw[hsl],by rw[←hst]⟩
  ·have hst:=UU hjn he
   simp -implicitDefEqProofs [he]
   exact⟨k-1,by omega,j+1,by omega,by simp[hw],by rw[hst],by rw[hst]⟩
 ·have e:=UL (p:=p) (l:=l) (j:=j) (by omega)
  simp -implicitDefEqProofs [hjn,e]
theorem Alg (D:Dn) (hR:EW (D J8)):GX (Body D Mh):=by
 intro l hl
 have hll:=hl.1
 have hres:AaR l=kept (fun t=> !Am t) l:=rfl
 rw[hres]
 generalize hp:(fun t=> !Am t)=p
 simp -implicitDefEqProofs
 refine Ae (fun k s=>∃j o1 o2 o3 o4,j+k=l.length∧s=⟨[.sl 1 2 l.length (l.flatMap Br),.undef,.arr 5,I j,.undef,.undef],[.free,o1,o2,o3,o4,.arr 2 0 (kept p (l.take j)).length ((kept p (l.take j)).flatMap Br)]⟩) ?_ (l.length) _ ⟨0,.free,.free,.free,.free,by simp,by simp[kept]⟩
 intro k s ⟨j,o1,o2,o3,o4,hj,hs⟩
 subst hs
 by_cases hjn:j<l.length
 ·have hw:IntKind.i64.wrap ((j:Int)+1)=(j+1:Nat):=by rw[Ad (by omega) (by omega)];simp
  have hb:=Mr hl hjn
  have h1:l[j].body.length*8≤1099511627776:=by omega
  have hkl:=Vb (p:=p) (l:=l) (j:=j)
  have h2:((kept p (l.take j)).length+1)*32≤1099511627776:=by omega
  simp -implicitDefEqProofs [hjn]
  refine Aa (hR l[j].tag) ?_
  have hpe:(!Am l[j].tag)=p l[j].tag:=by rw[←hp]
  by_cases he:p l[j].tag=true
  ·have hst:=Q7 hjn he
   have hsl:=I8 hjn he
   have he':Am l[j].tag=false:=by rw[he]at hpe;simpa using hpe
   simp -implicitDefEqProofs [he',hjn,h1,h2]
   exact⟨k-1,by omega,j+1,by omega,by simp[hw],by rw[hsl],by rw[←hst]⟩
  ·have hst:=UU hjn he
   have he':Am l[j].tag=true:=by simp at he;rw[he]at hpe;simpa using hpe
   simp -implicitDefEqProofs [he']
   exact⟨k-1,by omega,j+1,by omega,by simp[hw],by rw[hst],by rw[hst]⟩
 ·have e:=UL (p:=p) (l:=l) (j:=j) (by omega)
  simp -implicitDefEqProofs [hjn,e]
theorem Auy (l:List Ext):KT l (Aq l)=l:=by
 unfold KT kept
 rw[List.filter_eq_self]
 intro x hx
 simp only[decide_eq_true_eq]
 exact List.mem_map.2 ⟨x,hx,rfl⟩
theorem Nb (l:List Ext):(Aq l).length=l.length:=by simp[Aq]
theorem Aw7 (D:Dn) (hT:KV (D Acl)) (hK:L8 (D ZO)):OG (Body D Ud):=by
 intro l hl
 have hll:=hl.1
 simp -implicitDefEqProofs
 refine Aa (hT l hll) ?_
 simp -implicitDefEqProofs
 refine Aa (hK l (Aq l) hl (by rw[Nb];unfold maxLen;omega)) ?_
 simp -implicitDefEqProofs [Auy]
end Go.Eng.T
namespace Go.Eng.T
set_option maxRecDepth 20000
abbrev InV (a b c:Int):Prop:=b≤a∧a≤c
def K9 (xs:List Int) (j:Nat):Bool:=(List.range j).all fun i=>decide (InV (xs.getD i 0) 1 9)&&(decide (i=0)||decide (xs.getD (i-1) 0<xs.getD i 0))
theorem SK (xs:List Int) (j:Nat):K9 xs (j+1)=(K9 xs j&&(decide (InV (xs.getD j 0) 1 9)&&(decide (j=0)||decide (xs.getD (j-1) 0<xs.getD j 0)))):=by
 unfold K9
 rw[List.range_succ,List.all_append]
 simp
theorem YD {xs:List Int} {j:Nat} (h:j<xs.length) (hn:K9 xs (j+1)=false):K9 xs xs.length=false:=by
 have:∀n,K9 xs (j+1+n)=false:=by
  intro n
  induction n with
  | zero=>exact hn
  | succ n ih=>rw[show j+1+(n+1)=(j+1+n)+1 by omega,SK,ih];rfl
 have:=this (xs.length-(j+1))
 rwa [show j+1+(xs.length-(j+1))=xs.length by omega]at this
theorem Xm {xs:List Int} {j:Nat} (h:j<xs.length):xs.getD j 0=xs[j]:=by simp[h]
def A9 (xs:List Int):Bool:=K9 xs xs.length&&decide (0<xs.length)
abbrev BK (R:Rel):Prop:=∀xs:List Int,xs.length≤maxLen→R [.sl 1 1 xs.length (ints xs)] [] (B (A9 xs)) []
theorem Aj5 (D:Dn) (hI:SG (D CB)):BK (Body D MW):=by
 intro xs hl
 unfold maxLen at hl
 simp -implicitDefEqProofs
 refine Ae (fun k s=>∃j,j+k=xs.length∧K9 xs j=true∧s=⟨[.sl 1 1 xs.length (ints xs),.undef,.sc (.int .i64 j),.undef,.undef],[]⟩) ?_ xs.length _ ⟨0,by simp,by simp[K9],by simp⟩
 intro k s ⟨j,hj,hr,hs⟩
 subst hs
 by_cases hjn:j<xs.length
 ·have hw:IntKind.i64.wrap ((j:Int)+1)=(j+1:Nat):=by rw[Ad (by omega) (by omega)];simp
  have hst:=SK xs j
  rw[hr,Bool.true_and,Xm hjn]at hst
  simp -implicitDefEqProofs [hjn]
  refine Aa (hI _ _ _) ?_
  by_cases h1:InV xs[j] 1 9
  rotate_left
  ·have e:A9 xs=false:=by unfold A9;rw[YD hjn (by rw[hst];simp[h1])];rfl
   simp -implicitDefEqProofs [h1,e]
  by_cases h0:j=0
  ·subst h0
   simp -implicitDefEqProofs [h1]
   exact⟨k-1,by omega,1,by omega,by rw[hst];simp[h1],by simpa using hw⟩
  ·have hw2:IntKind.i64.wrap ((j:Int)-1)=((j-1:Nat):Int):=by rw[Ad (by omega) (by omega)];omega
   have h2:(0:Int)<j:=by omega
   have h2':0<j:=by omega
   have h3:j-1<xs.length:=by omega
   rw[Xm h3]at hst
   by_cases h4:xs[j-1]<xs[j]
   ·have h4':¬xs[j]≤xs[j-1]:=by omega
    simp -implicitDefEqProofs [h1,h2,h2',hw2,h3,hjn,h4']
    exact⟨k-1,by omega,j+1,by omega,by rw[hst];simp[h1,h0,h4],by simp[hw]⟩
   ·have e:A9 xs=false:=by unfold A9;rw[YD hjn (by rw[hst];simp[h1,h0,h4])];rfl
    have h4':xs[j]≤xs[j-1]:=by omega
    simp -implicitDefEqProofs [h1,h2,h2',hw2,h3,hjn,h4',e]
 ·obtain rfl:j=xs.length:=by omega
  have e:A9 xs=decide (0<xs.length):=by unfold A9;rw[hr];rfl
  by_cases h5:0<xs.length
  ·have h5':(0:Int)<xs.length:=by omega
   simp -implicitDefEqProofs [e,h5,h5']
  ·have h5':¬(0:Int)<xs.length:=by omega
   simp -implicitDefEqProofs [e,h5,h5']
theorem Alf (D:Dn) (hI:SG (D Bz)):BK (Body D Mx):=by
 intro xs hl
 unfold maxLen at hl
 simp -implicitDefEqProofs
 refine Ae (fun k s=>∃j v2 v3,j+k=xs.length∧K9 xs j=true∧s=⟨[.sl 1 1 xs.length (ints xs),.undef,v2,v3,.sl 1 1 xs.length (ints xs),.sc (.int .i64 xs.length),.sc (.int .i64 j),.undef,.undef],[]⟩) ?_ xs.length _ ⟨0,.undef,.undef,by simp,by simp[K9],by simp⟩
 intro k s ⟨j,v2,v3,hj,hr,hs⟩
 subst hs
 by_cases hjn:j<xs.length
 ·have hw:IntKind.i64.wrap ((j:Int)+1)=(j+1:Nat):=by rw[Ad (by omega) (by omega)];simp
  have hst:=SK xs j
  rw[hr,Bool.true_and,Xm hjn]at hst
  simp -implicitDefEqProofs [hjn]
  refine Aa (hI _ _ _) ?_
  by_cases h1:InV xs[j] 1 9
  rotate_left
  ·have e:A9 xs=false:=by unfold A9;rw[YD hjn (by rw[hst];simp[h1])];rfl
   simp -implicitDefEqProofs [h1,e]
  by_cases h0:j=0
  ·subst h0
   simp -implicitDefEqProofs [h1]
   exact⟨k-1,by omega,1,by omega,by rw[hst];simp[h1],by simpa using hw⟩
  ·have hw2:IntKind.i64.wrap ((j:Int)-1)=((j-1:Nat):Int):=by rw[Ad (by omega) (by omega)];omega
   have h2:(0:Int)<j:=by omega
   have h2':0<j:=by omega
   have h3:j-1<xs.length:=by omega
   rw[Xm h3]at hst
   by_cases h4:xs[j-1]<xs[j]
   ·have h4':¬xs[j]≤xs[j-1]:=by omega
    simp -implicitDefEqProofs [h1,h2,h2',hw2,h3,hjn,h4']
    exact⟨k-1,by omega,j+1,by omega,by rw[hst];simp[h1,h0,h4],by simp[hw]⟩
   ·have e:A9 xs=false:=by unfold A9;rw[YD hjn (by rw[hst];simp[h1,h0,h4])];rfl
    have h4':xs[j]≤xs[j-1]:=by omega
    simp -implicitDefEqProofs [h1,h2,h2',hw2,h3,hjn,h4',e]
 ·obtain rfl:j=xs.length:=by omega
  have e:A9 xs=decide (0<xs.length):=by unfold A9;rw[hr];rfl
  by_cases h5:0<xs.length
  ·have h5':(0:Int)<xs.length:=by omega
   simp -implicitDefEqProofs [e,h5,h5']
  ·have h5':¬(0:Int)<xs.length:=by omega
   simp -implicitDefEqProofs [e,h5,h5']
theorem LH {p:Int→Bool} {xs:List Int} {j:Nat} (h:j<xs.length):(xs.take (j+1)).filter p=(xs.take j).filter p++(if p xs[j]then [xs[j]]else []):=by
 have e:xs.take (j+1)=xs.take j++ [xs[j]]:=by simp
 rw[e,List.filter_append]
 by_cases hp:p xs[j]=true<;>simp[hp]
theorem Nh {p:Int→Bool} {xs:List Int} {j:Nat} (h:xs.length≤j):(xs.take j).filter p=xs.filter p:=by rw[List.take_of_length_le h]
theorem OM {p:Int→Bool} {xs:List Int} {j:Nat}:((xs.take j).filter p).length≤j:=by
 have:=List.length_filter_le p (xs.take j)
 have h2:(xs.take j).length≤j:=by simp;omega
 omega
def common (a b:List Int):List Int:=a.filter fun v=>decide (v∈b)
def AB3 (a:List Int) (v:Int):List Int:=a.filter fun x=> !decide (x=v)
abbrev Lu (R:Rel):Prop:=∀a b:List Int,a.length≤4194304→b.length≤maxLen→R [.sl 1 1 a.length (ints a),.sl 1 1 b.length (ints b)] [] (.sl 0 1 (common a b).length (ints (common a b))) []
abbrev GL (R:Rel):Prop:=∀(a:List Int) (v:Int),a.length≤4194304→R [.sl 1 1 a.length (ints a),I v] [] (.sl 0 1 (AB3 a v).length (ints (AB3 a v))) []
theorem As0 (D:Dn) (hH:R6 (D Jl)):Lu (Body D RB):=by
 intro a b ha hb'
 have hres:common a b=a.filter (fun v=>decide (v∈b)):=rfl
 rw[hres]
 simp -implicitDefEqProofs
 refine Ae (fun k s=>∃j o1 o2,j+k=a.length∧s=⟨[.sl 1 1 a.length (ints a),.sl 1 1 b.length (ints b),.undef,.arr 3,.sc (.int .i64 j),.undef,.undef],[.free,o1,o2,.arr 1 0 ((a.take j).filter (fun v=>decide (v∈b))).length (ints ((a.take j).filter (fun v=>decide (v∈b))))]⟩) ?_ a.length _ ⟨0,by simp⟩
 intro k s ⟨j,o1,o2,hj,hs⟩
 subst hs
 by_cases hjn:j<a.length
 ·have hw:IntKind.i64.wrap ((j:Int)+1)=(j+1:Nat):=by rw[Ad (by omega) (by omega)];simp
  have hst:=LH (p:=fun v=>decide (v∈b)) hjn
  have hln:=OM (p:=fun v=>decide (v∈b)) (xs:=a) (j:=j)
  have hb:(((a.take j).filter (fun v=>decide (v∈b))).length+1)*8≤1099511627776:=by omega
  simp -implicitDefEqProofs [hjn]
  refine Aa (hH b _ hb') ?_
  by_cases h1:a[j]∈b
  ·rw[if_pos (by simp[h1])]at hst
   simp -implicitDefEqProofs [h1,hjn,hb]
   exact⟨k-1,by omega,j+1,by omega,by simp[hw],by rw[hst];simp,by rw[hst]⟩
  ·rw[if_neg (by simp[h1]),List.append_nil]at hst
   simp -implicitDefEqProofs [h1,hjn,hb]
   exact⟨k-1,by omega,j+1,by omega,by simp[hw],by rw[hst],by rw[hst]⟩
 ·have hx:=Nh (p:=fun v=>decide (v∈b)) (xs:=a) (j:=j) (by omega)
  simp -implicitDefEqProofs [hjn,hx]
theorem AsY (D:Dn) (hH:R6 (D Bn)):Lu (Body D R5):=by
 intro a b ha hb'
 have hres:common a b=a.filter (fun v=>decide (v∈b)):=rfl
 rw[hres]
 simp -implicitDefEqProofs
 refine Ae (fun k s=>∃j v4 o1 o2,j+k=a.length∧s=⟨[.undef,.sl 1 1 b.length (ints b),.undef,.arr 3,v4,.sl 1 1 a.length (ints a),.sc (.int .i64 a.length),.sc (.int .i64 j),.undef,.undef],[.free,o1,o2,.arr 1 0 ((a.take j).filter (fun v=>decide (v∈b))).length (ints ((a.take j).filter (fun v=>decide (v∈b))))]⟩) ?_ a.length _ ⟨0,by simp⟩
 intro k s ⟨j,v4,o1,o2,hj,hs⟩
 subst hs
 by_cases hjn:j<a.length
 ·have hw:IntKind.i64.wrap ((j:Int)+1)=(j+1:Nat):=by rw[Ad (by omega) (by omega)];simp
  have hst:=LH (p:=fun v=>decide (v∈b)) hjn
  have hln:=OM (p:=fun v=>decide (v∈b)) (xs:=a) (j:=j)
  have hb:(((a.take j).filter (fun v=>decide (v∈b))).length+1)*8≤1099511627776:=by omega
  simp -implicitDefEqProofs [hjn]
  refine Aa (hH b _ hb') ?_
  by_cases h1:a[j]∈b
  ·rw[if_pos (by simp[h1])]at hst
   simp -implicitDefEqProofs [h1,hjn,hb]
   exact⟨k-1,by omega,j+1,by omega,by simp[hw],by rw[hst];simp,by rw[hst]⟩
  ·rw[if_neg (by simp[h1]),List.append_nil]at hst
   simp -implicitDefEqProofs [h1,hjn,hb]
   exact⟨k-1,by omega,j+1,by omega,by simp[hw],by rw[hst],by rw[hst]⟩
 ·have hx:=Nh (p:=fun v=>decide (v∈b)) (xs:=a) (j:=j) (by omega)
  simp -implicitDefEqProofs [hjn,hx]
theorem AeW (D:Dn):GL (Body D Ia):=by
 intro a v ha
 have hres:AB3 a v=a.filter (fun x=> !decide (x=v)):=rfl
 rw[hres]
 simp -implicitDefEqProofs
 refine Ae (fun k s=>∃j o1 o2,j+k=a.length∧s=⟨[.sl 1 1 a.length (ints a),.sc (.int .i64 v),.undef,.arr 3,.sc (.int .i64 j),.undef,.undef],[.free,o1,o2,.arr 1 0 ((a.take j).filter (fun x=> !decide (x=v))).length (ints ((a.take j).filter (fun x=> !decide (x=v))))]⟩) ?_ a.length _ ⟨0,by simp⟩
 intro k s ⟨j,o1,o2,hj,hs⟩
 subst hs
 by_cases hjn:j<a.length
 ·have hw:IntKind.i64.wrap ((j:Int)+1)=(j+1:Nat):=by rw[Ad (by omega) (by omega)];simp
  have hst:=LH (p:=fun x=> !decide (x=v)) hjn
  have hln:=OM (p:=fun x=> !decide (x=v)) (xs:=a) (j:=j)
  have hb:(((a.take j).filter (fun x=> !decide (x=v))).length+1)*8≤1099511627776:=by omega
  simp -implicitDefEqProofs [hjn]
  by_cases h1:a[j]=v
  ·rw[if_neg (by simp[h1]),List.append_nil]at hst
   simp -implicitDefEqProofs [h1,hjn,hb]
   exact⟨k-1,by omega,j+1,by omega,by simp[hw],by rw[hst],by rw[hst]⟩
  ·rw[if_pos (by simp[h1])]at hst
   simp -implicitDefEqProofs [h1,hjn,hb]
   exact⟨k-1,by omega,j+1,by omega,by simp[hw],by rw[hst];simp,by rw[hst]⟩
 ·have hx:=Nh (p:=fun x=> !decide (x=v)) (xs:=a) (j:=j) (by omega)
  simp -implicitDefEqProofs [hjn,hx]
end Go.Eng.T
namespace Go.Eng.T
set_option maxRecDepth 20000
def hB (h:Hello):Prop:=h.versions.length≤4194304∧Ub h.exts
def CP (h:Hello):Bool:=A9 h.versions&&EC h.exts
abbrev Eb (R:Rel):Prop:=∀h:Hello,hB h→R [arg (CU h)] [] (B (CP h)) []
theorem AuM (D:Dn) (hA:BK (D EJ)) (hE:FV (D KC)):Eb (Body D TY):=by
 intro h hh
 simp -implicitDefEqProofs
 refine Aa (hA _ (by have:=hh.1;unfold maxLen;omega)) ?_
 by_cases h1:A9 h.versions=true
 rotate_left
 ·simp -implicitDefEqProofs [h1,CP]
 simp -implicitDefEqProofs [h1]
 refine Aa (hE _ hh.2) ?_
 simp -implicitDefEqProofs [h1,CP]
theorem Avr (D:Dn) (hA:BK (D FM)) (hE:FV (D KR)):Eb (Body D Ui):=by
 intro h hh
 simp -implicitDefEqProofs
 refine Aa (hA _ (by have:=hh.1;unfold maxLen;omega)) ?_
 by_cases h1:A9 h.versions=true
 rotate_left
 ·simp -implicitDefEqProofs [h1,CP]
 simp -implicitDefEqProofs [h1]
 refine Aa (hE _ hh.2) ?_
 simp -implicitDefEqProofs [h1,CP]
abbrev KI (R:Rel):Prop:=∀h:Hello,hB h→R [arg (CU h)] [] (.agg (CU h)) []
theorem Arf (D:Dn) (hE:OG (D XK)):KI (Body D Qz):=by
 intro h hh
 have h1:h.versions.length*8≤1099511627776:=by have:=hh.1;omega
 simp -implicitDefEqProofs [h1]
 refine Aa (hE _ hh.2) ?_
 simp -implicitDefEqProofs
theorem Avt (D:Dn) (hE:OG (D ZQ)):KI (Body D Rh):=by
 intro h hh
 have h1:h.versions.length*8≤1099511627776:=by have:=hh.1;omega
 simp -implicitDefEqProofs [h1]
 refine Aa (hE _ hh.2) ?_
 simp -implicitDefEqProofs
def lossy (b:Gu) (x:Ext):Bool:=decide (x.tag∈b.drops)||(b.lists&&(!decide (x.tag∈b.strips)&& !decide (Q5 x.tag 1 3)))
def At2 (vs:List Int):Int:=vs.getLastD 0
def Ob (b:Gu) (h:Hello):Bool:=(decide (0<b.limit)&&decide (b.limit<At2 h.versions))||h.exts.any (lossy b)
def stays (b:Gu) (t:Int):Bool:= !decide (t∈b.strips)
def AQ:Hello:=⟨[],[]⟩
def BS (b:Gu) (h:Hello):Hello×Bool:=if Hz b&&(CP h&& !Ob b h)then(⟨h.versions,kept (stays b) h.exts⟩,true)else(AQ,false)
abbrev OZ (R:Rel):Prop:=∀(b:Gu) (h:Hello),Hw b→hB h→R [arg (CF b),arg (CU h)] [] (.tup [.agg (CU (BS b h).1),B (BS b h).2]) []
theorem XJ {xs:List Int} (h:A9 xs=true):0<xs.length:=by
 unfold A9 at h
 simp only[Bool.and_eq_true,decide_eq_true_eq]at h
 exact h.2
theorem ACW {xs:List Int} (h:xs.length-1<xs.length):At2 xs=xs[xs.length-1]:=by
 unfold At2
 rw[List.getLastD_eq_getLast?,List.getLast?_eq_getElem?,List.getElem?_eq_getElem h];rfl
theorem AuQ (D:Dn) (hX:RQ (D XP)) (hE:Eb (D Gi)) (hH:R6 (D Jl)) (hI:SG (D CB)):OZ (Body D Tt):=by
 intro b h hb hh
 obtain⟨hv,hx⟩:=hh
 have hll:=hx.1
 simp -implicitDefEqProofs
 refine Aa (hX b hb) ?_
 by_cases h1:Hz b=true
 rotate_left
 ·simp -implicitDefEqProofs [h1,BS,AQ]
 simp -implicitDefEqProofs [h1]
 refine Aa (hE h ⟨hv,hx⟩) ?_
 by_cases h2:CP h=true
 rotate_left
 ·simp -implicitDefEqProofs [h2,BS,AQ]
 have hpos:0<h.versions.length:=XJ (by unfold CP at h2;simp only[Bool.and_eq_true]at h2;exact h2.1)
 have hn1:h.versions.length-1<h.versions.length:=by omega
 have hw1:IntKind.i64.wrap ((h.versions.length:Int)-1)=((h.versions.length-1:Nat):Int):=by rw[Ad (by omega) (by omega)];omega
 have htop:=ACW hn1
 by_cases h3:0<b.limit
 ·by_cases h4:b.limit<h.versions[h.versions.length-1]
  ·have e:BS b h=(AQ,false):=by simp[BS,Ob,htop,h3,h4]
   simp -implicitDefEqProofs [h2,h3,hw1,hn1,hpos,h4,e,AQ]
  ·have h3':b.limit<At2 h.versions↔False:=by rw[htop];simpa using h4
   have b0:h.versions.length*8≤1099511627776:=by omega
   simp -implicitDefEqProofs [h2,h3,hw1,hn1,hpos,h4,b0]
   refine Ae (fun k s=>∃j v8 o6 o7 o8 o9,j+k=h.exts.length∧(h.exts.take j).any (lossy b)=false∧s=⟨[.undef,.undef,.ptr 0 0,.ptr 1 0,.ptr 2 0,.undef,.ptr 5 0,I j,v8,.undef,.undef,.undef,.undef,.undef],[.var ((CF b).map (AZ 1)),.var ((CU h).map (AZ 1)),.var [.nil 1,.nil 2],.dead,.arr 1 0 h.versions.length (ints h.versions),.var [.arr 4,.arr 10],o6,o7,o8,o9,.arr 2 0 (kept (stays b) (h.exts.take j)).length ((kept (stays b) (h.exts.take j)).flatMap Br)]⟩) ?_ (h.exts.length) _ ⟨0,.undef,.free,.free,.free,.free,by simp,by simp,by simp[kept]⟩
   intro k s ⟨j,v8,o6,o7,o8,o9,hj,hp,hs⟩
   subst hs
   by_cases hjn:j<h.exts.length
   ·have hw:IntKind.i64.wrap ((j:Int)+1)=(j+1:Nat):=by rw[Ad (by omega) (by omega)];simp
    have hbd:=Mr hx hjn
    have b1:h.exts[j].body.length*8≤1099511627776:=by omega
    have hkl:=Vb (p:=stays b) (l:=h.exts) (j:=j)
    have b2:((kept (stays b) (h.exts.take j)).length+1)*32≤1099511627776:=by omega
    have hst:=X5 (p:=lossy b) hjn
    rw[hp,Bool.false_or]at hst
    simp -implicitDefEqProofs [hjn]
    refine Aa (hH _ _ hb.2) ?_
    simp -implicitDefEqProofs
    refine Aa (hH _ _ hb.1) ?_
    by_cases g1:h.exts[j].tag∈b.drops
    ·have e:BS b h=(AQ,false):=by
      have:=Ph (p:=lossy b) hjn (by simp[lossy,g1])
      simp[BS,Ob,this]
     simp -implicitDefEqProofs [g1,e,AQ]
    by_cases g2:h.exts[j].tag∈b.strips
    ·have hl:lossy b h.exts[j]=false:=by simp[lossy,g1,g2]
     have hk:=UU (p:=stays b) hjn (by simp[stays,g2])
     by_cases g3:b.lists=true
     ·simp -implicitDefEqProofs [g1,g2,g3]
      exact⟨k-1,by omega,j+1,by omega,by simpa using hst.trans hl,by simp[hw],by rw[hk],by rw[hk]⟩
     ·simp -implicitDefEqProofs [g1,g2,g3]
      exact⟨k-1,by omega,j+1,by omega,by simpa using hst.trans hl,by simp[hw],by rw[hk],by rw[hk]⟩
    have hk:=Q7 (p:=stays b) hjn (by simp[stays,g2])
    have hkl:=I8 (p:=stays b) hjn (by simp[stays,g2])
    by_cases g3:b.lists=true
    rotate_left
    ·have hl:lossy b h.exts[j]=false:=by simp[lossy,g1,g2,g3]
     simp -implicitDefEqProofs [g1,g2,g3,hjn,b1,b2]
     exact⟨k-1,by omega,j+1,by omega,by simpa using hst.trans hl,by simp[hw],by rw[hkl],by rw[←hk]⟩
    simp -implicitDefEqProofs [g1,g2,g3]
    refine Aa (hI _ _ _) ?_
    by_cases g4:Q5 h.exts[j].tag 1 3
    ·have hl:lossy b h.exts[j]=false:=by simp[lossy,g1,g2,g3,g4]
     simp -implicitDefEqProofs [g4,hjn,b1,b2]
     exact⟨k-1,by omega,j+1,by omega,by simpa using hst.trans hl,by simp[hw],by rw[hkl],by rw[←hk]⟩
    ·have e:BS b h=(AQ,false):=by
      have:=Ph (p:=lossy b) hjn (by simp[lossy,g1,g2,g3,g4])
      simp[BS,Ob,this]
     simp -implicitDefEqProofs [g4,e,AQ]
   ·have hje:j=h.exts.length:=by omega
    have ea:h.exts.any (lossy b)=false:=any_none (by omega) hp
    have ek:=UL (p:=stays b) (l:=h.exts) (j:=j) (by omega)
    have e:BS b h=(⟨h.versions,kept (stays b) h.exts⟩,true):=by simp only[BS,h1,h2,Ob,ea,h3'];simp
    simp -implicitDefEqProofs [hjn,e,ek]
 ·have b0:h.versions.length*8≤1099511627776:=by omega
  simp -implicitDefEqProofs [h2,h3,b0]
  refine Ae (fun k s=>∃j v8 o6 o7 o8 o9,j+k=h.exts.length∧(h.exts.take j).any (lossy b)=false∧s=⟨[.undef,.undef,.ptr 0 0,.ptr 1 0,.ptr 2 0,.undef,.ptr 5 0,I j,v8,.undef,.undef,.undef,.undef,.undef],[.var ((CF b).map (AZ 1)),.var ((CU h).map (AZ 1)),.var [.nil 1,.nil 2],.dead,.arr 1 0 h.versions.length (ints h.versions),.var [.arr 4,.arr 10],o6,o7,o8,o9,.arr 2 0 (kept (stays b) (h.exts.take j)).length ((kept (stays b) (h.exts.take j)).flatMap Br)]⟩) ?_ (h.exts.length) _ ⟨0,.undef,.free,.free,.free,.free,by simp,by simp,by simp[kept]⟩
  intro k s ⟨j,v8,o6,o7,o8,o9,hj,hp,hs⟩
  subst hs
  by_cases hjn:j<h.exts.length
  ·have hw:IntKind.i64.wrap ((j:Int)+1)=(j+1:Nat):=by rw[Ad (by omega) (by omega)];simp
   have hbd:=Mr hx hjn
   have b1:h.exts[j].body.length*8≤1099511627776:=by omega
   have hkl:=Vb (p:=stays b) (l:=h.exts) (j:=j)
   have b2:((kept (stays b) (h.exts.take j)).length+1)*32≤1099511627776:=by omega
   have hst:=X5 (p:=lossy b) hjn
   rw[hp,Bool.false_or]at hst
   simp -implicitDefEqProofs [hjn]
   refine Aa (hH _ _ hb.2) ?_
   simp -implicitDefEqProofs
   refine Aa (hH _ _ hb.1) ?_
   by_cases g1:h.exts[j].tag∈b.drops
   ·have e:BS b h=(AQ,false):=by
     have:=Ph (p:=lossy b) hjn (by simp[lossy,g1])
     simp[BS,Ob,this]
    simp -implicitDefEqProofs [g1,e,AQ]
   by_cases g2:h.exts[j].tag∈b.strips
   ·have hl:lossy b h.exts[j]=false:=by simp[lossy,g1,g2]
    have hk:=UU (p:=stays b) hjn (by simp[stays,g2])
    by_cases g3:b.lists=true
    ·simp -implicitDefEqProofs [g1,g2,g3]
     exact⟨k-1,by omega,j+1,by omega,by simpa using hst.trans hl,by simp[hw],by rw[hk],by rw[hk]⟩
    ·simp -implicitDefEqProofs [g1,g2,g3]
     exact⟨k-1,by omega,j+1,by omega,by simpa using hst.trans hl,by simp[hw],by rw[hk],by rw[hk]⟩
   have hk:=Q7 (p:=stays b) hjn (by simp[stays,g2])
   have hkl:=I8 (p:=stays b) hjn (by simp[stays,g2])
   by_cases g3:b.lists=true
   rotate_left
   ·have hl:lossy b h.exts[j]=false:=by simp[lossy,g1,g2,g3]
    simp -implicitDefEqProofs [g1,g2,g3,hjn,b1,b2]
    exact⟨k-1,by omega,j+1,by omega,by simpa using hst.trans hl,by simp[hw],by rw[hkl],by rw[←hk]⟩
   simp -implicitDefEqProofs [g1,g2,g3]
   refine Aa (hI _ _ _) ?_
   by_cases g4:Q5 h.exts[j].tag 1 3
   ·have hl:lossy b h.exts[j]=false:=by simp[lossy,g1,g2,g3,g4]
    simp -implicitDefEqProofs [g4,hjn,b1,b2]
    exact⟨k-1,by omega,j+1,by omega,by simpa using hst.trans hl,by simp[hw],by rw[hkl],by rw[←hk]⟩
   ·have e:BS b h=(AQ,false):=by
     have:=Ph (p:=lossy b) hjn (by simp[lossy,g1,g2,g3,g4])
     simp[BS,Ob,this]
    simp -implicitDefEqProofs [g4,e,AQ]
  ·have hje:j=h.exts.length:=by omega
   have ea:h.exts.any (lossy b)=false:=any_none (by omega) hp
   have ek:=UL (p:=stays b) (l:=h.exts) (j:=j) (by omega)
   have e:BS b h=(⟨h.versions,kept (stays b) h.exts⟩,true):=by simp only[BS,h1,h2,Ob,ea,h3];simp
   simp -implicitDefEqProofs [hjn,e,ek]
abbrev Yt (R:Rel):Prop:=∀(t:Int) (b:Gu),Hw b→R [I t,.rptr 1 (CF b) 0] [] (B (stays b t)) []
theorem AvM (D:Dn) (hH:R6 (D Bn)):Yt (Body D Qf):=by
 intro t b hb
 simp -implicitDefEqProofs
 refine Aa (hH b.strips t hb.2) ?_
 simp -implicitDefEqProofs [stays]
abbrev Aif (R:Rel):Prop:=∀(x:Ext) (b:Gu),Hw b→R [arg (Br x),.rptr 1 (CF b) 0] [] (B (lossy b x)) []
theorem ABE (D:Dn) (hH:R6 (D Bn)) (hI:SG (D Bz)):Aif (Body D Us):=by
 intro x b hb
 simp -implicitDefEqProofs
 refine Aa (hH b.drops x.tag hb.1) ?_
 by_cases g1:x.tag∈b.drops
 ·simp -implicitDefEqProofs [g1,lossy]
 by_cases g3:b.lists=true
 rotate_left
 ·simp -implicitDefEqProofs [g1,g3,lossy]
 simp -implicitDefEqProofs [g1,g3]
 refine Aa (hH b.strips x.tag hb.2) ?_
 by_cases g2:x.tag∈b.strips
 ·simp -implicitDefEqProofs [g1,g2,g3,lossy]
 simp -implicitDefEqProofs [g2]
 refine Aa (hI _ _ _) ?_
 simp -implicitDefEqProofs [g1,g2,g3,lossy]
def ADR (xs:List Int):Int:=xs.foldl max (xs.headD 0)
abbrev AFq (R:Rel):Prop:=∀xs:List Int,0<xs.length→xs.length≤4194304→R [.sl 1 1 xs.length (ints xs)] [] (I (ADR xs)) []
abbrev At5 (R:Rel):Prop:=∀xs:List Int,xs.length≤4194304→R [.sl 1 1 xs.length (ints xs)] [] (.sl 0 1 xs.length (ints xs)) []
abbrev Apc (R:Rel):Prop:=∀(b:Gu) (h:Hello),Hw b→hB h→Hz b=true→A9 h.versions=true→R [arg (CF b),arg (CU h)] [] (B (Ob b h)) []
theorem AbO:∀(xs:List Int) (a:Int),(∀x,x∈xs→a≤x)→(∀i,(h:i+1<xs.length)→xs[i]≤xs[i+1])→xs.foldl max a=(xs.getLast?.getD a)
 | [],a,_,_=>rfl
 | x::r,a,h1,h2=>by
  have hx:=h1 x (by simp)
  have hr:∀y,y∈r→x≤y:=by
   intro y hy
   obtain⟨n,hn,rfl⟩:=List.getElem_of_mem hy
   have key:∀m,(hm:m<r.length)→x≤r[m]:=by
    intro m
    induction m with
    | zero=>intro hm;have:=h2 0 (by simp;omega);simpa using this
    | succ m ih=>
     intro hm
     have h3:=ih (by omega)
     have:=h2 (m+1) (by simp;omega)
     simp only[List.getElem_cons_succ]at this
     omega
   exact key n hn
  have ih:=AbO r x hr (fun i h=>by have:=h2 (i+1) (by simp;omega);simpa using this)
  simp only[List.foldl_cons]
  rw[show max a x=x by omega,ih]
  cases r with
  | nil=>rfl
  | cons y s=>simp[List.getLast?_cons_cons,List.getLast?_cons]
theorem AoP {xs:List Int} (h:A9 xs=true) {i:Nat} (hi:i+1<xs.length):xs[i]<xs[i+1]:=by
 unfold A9 K9 at h
 simp only[Bool.and_eq_true,List.all_eq_true,List.mem_range]at h
 have:=(h.1 (i+1) hi).2
 rw[Xm hi,show i+1-1=i by omega,Xm (by omega)]at this
 simpa using this
theorem Axi {xs:List Int} (h:A9 xs=true):ADR xs=At2 xs:=by
 cases xs with
 | nil=>rfl
 | cons x r=>
  unfold ADR At2
  simp only[List.headD_cons,List.foldl_cons]
  rw[show max x x=x by omega,AbO r x ?_ ?_]
  ·cases r with
   | nil=>rfl
   | cons y s=>simp[List.getLastD_eq_getLast?,List.getLast?_cons_cons,List.getLast?_cons]
  ·intro y hy
   obtain⟨n,hn,rfl⟩:=List.getElem_of_mem hy
   induction n with
   | zero=>have:=AoP h (i:=0) (by simp;omega);simp at this;omega
   | succ m ih=>
    have h3:=ih (by omega) (List.getElem_mem _)
    have:=AoP h (i:=m+1) (by simp;omega)
    simp only[List.getElem_cons_succ]at this
    omega
  ·intro i hi
   have:=AoP h (i:=i+1) (by simp;omega)
   simp only[List.getElem_cons_succ]at this
   omega
theorem Aer {b:Gu} {r:List V} (h:Ke r):Ke (.rptr 1 (CF b) 0::r):=Aas (fun H=>by simp) (fun H=>by simp) h
theorem ADF (D:Dn) (hM:AFq (D VZ)) (h1:Aif (D Ur)) (hC:J6 D (D IX)):Apc (Body D XE):=by
 intro b h hb hh hbox hver
 obtain⟨hv,hx⟩:=hh
 have hll:=hx.1
 have hpos:=XJ hver
 have hlim:0≤b.limit:=by unfold Hz at hbox;simp only[Bool.and_eq_true,decide_eq_true_eq]at hbox;exact hbox.1.1.1.1.1
 by_cases h0:b.limit=0
 ·obtain⟨lim,dr,st,li⟩:=b
  dsimp only at h0
  subst h0
  simp -implicitDefEqProofs
  refine Aa (hC h.exts Ur _ (lossy ⟨0,dr,st,li⟩) (by unfold maxLen;omega) (Aer (b:=⟨0,dr,st,li⟩) ER) (fun j hj=>h1 h.exts[j] ⟨0,dr,st,li⟩ hb)) ?_
  simp -implicitDefEqProofs [Ob]
 ·have hn:0<b.limit:=by omega
  simp -implicitDefEqProofs [h0]
  refine Aa (hM h.versions hpos hv) ?_
  rw[Axi hver]
  by_cases h4:b.limit<At2 h.versions
  ·simp -implicitDefEqProofs [h0,h4,Ob,hn]
  ·simp -implicitDefEqProofs [h0,h4]
   refine Aa (hC h.exts Ur _ (lossy b) (by unfold maxLen;omega) (Aer ER) (fun j hj=>h1 h.exts[j] b hb)) ?_
   simp -implicitDefEqProofs [Ob,hn,h4]
theorem AvO (D:Dn) (hX:RQ (D AfA)) (hE:Eb (D Hl)) (hL:Apc (D Asj)) (hC:At5 (D Ug)) (h1':Yt (D WJ)) (hK:LP D (D JF)):OZ (Body D Ul):=by
 intro b h hb hh
 simp -implicitDefEqProofs
 refine Aa (hX b hb) ?_
 by_cases h1:Hz b=true
 rotate_left
 ·simp -implicitDefEqProofs [h1,BS,AQ]
 simp -implicitDefEqProofs [h1]
 refine Aa (hE h hh) ?_
 by_cases h2:CP h=true
 rotate_left
 ·simp -implicitDefEqProofs [h2,BS,AQ]
 have hver:A9 h.versions=true:=by unfold CP at h2;simp only[Bool.and_eq_true]at h2;exact h2.1
 simp -implicitDefEqProofs [h2]
 refine Aa (hL b h hb hh h1 hver) ?_
 by_cases h3:Ob b h=true
 ·simp -implicitDefEqProofs [h3,BS,AQ]
 have e:BS b h=(⟨h.versions,kept (stays b) h.exts⟩,true):=by simp[BS,h1,h2,h3]
 simp -implicitDefEqProofs [h3]
 refine Aa (hC h.versions hh.1) ?_
 simp -implicitDefEqProofs
 refine Aa (hK h.exts WJ _ (stays b) hh.2 (Aer ER) (Abf Q0) (fun t=>h1' t b hb)) ?_
 simp -implicitDefEqProofs [e]
end Go.Eng.T
namespace Go.Eng.T
set_option maxRecDepth 20000
def Iu:List Gu→Hello→Hello×Bool
 | [],h=>(h,true)
 | b::r,h=>if(BS b h).2=true then Iu r (BS b h).1 else(AQ,false)
theorem AfM {path:List Gu} {j:Nat} {x:Hello} (h:j<path.length):Iu (path.drop j) x=if(BS path[j] x).2=true then Iu (path.drop (j+1)) (BS path[j] x).1 else(AQ,false):=by
 rw[List.drop_eq_getElem_cons h];rfl
theorem Ak3 {path:List Gu} {j:Nat} {x:Hello} (h:path.length≤j):Iu (path.drop j) x=(x,true):=by rw[List.drop_eq_nil_of_le h];rfl
def A7 (path:List Gu) (h:Hello):Hello×Bool:=if decide (path.length≤4)&&CP h then Iu path h else(AQ,false)
theorem AiP:hB AQ:=⟨by simp[AQ],Adb⟩
theorem Apm {b:Gu} {h:Hello} (hh:hB h):hB (BS b h).1:=by
 unfold BS
 split
 ·exact⟨hh.1,UN hh.2 _⟩
 ·exact AiP
theorem AvD {b:Gu} {h:Hello} (hk:(BS b h).2=false):(BS b h).1=AQ:=by
 unfold BS at *
 split at hk
 ·cases hk
 ·rename_i hc;rw[if_neg hc]
abbrev FN (R:Rel):Prop:=∀(path:List Gu) (h:Hello),lnS Hw path→hB h→R [.sl 1 4 path.length (path.flatMap CF),arg (CU h)] [] (.tup [.agg (CU (A7 path h).1),B (A7 path h).2]) []
theorem AsW (D:Dn) (hE:Eb (D Gi)) (hC:KI (D X6)) (hP:OZ (D AmW)):FN (Body D Sr):=by
 intro path h hb hh
 have hl:=hb.1
 unfold maxLen at hl
 by_cases h1:path.length≤4
 rotate_left
 ·have h1':(4:Int)<path.length:=by omega
  simp -implicitDefEqProofs [h1',h1,A7,AQ]
 have h1':¬(4:Int)<path.length:=by omega
 simp -implicitDefEqProofs [h1']
 refine Aa (hE h hh) ?_
 by_cases h2:CP h=true
 rotate_left
 ·simp -implicitDefEqProofs [h2,h1,A7,AQ]
 have e:A7 path h=Iu path h:=by simp[A7,h1,h2]
 rw[e]
 simp -implicitDefEqProofs [h2]
 refine Aa (hC h hh) ?_
 simp -implicitDefEqProofs
 refine Ae (fun k s=>∃j x o5 o6 o7,j+k=path.length∧hB x∧Iu path h=Iu (path.drop j) x∧s=⟨[.sl 1 4 path.length (path.flatMap CF),.undef,.undef,.ptr 1 0,.undef,.ptr 4 0,I j,.undef,.undef,.undef,.undef,.undef],[.var ((CU h).map (AZ 1)),.var [.nil 1,.nil 2],.free,.free,.var [.arr 8,.arr 9],o5,o6,o7,.arr 1 0 x.versions.length (ints x.versions),.arr 2 0 x.exts.length (x.exts.flatMap Br)]⟩) ?_ (path.length) _ ⟨0,h,.free,.free,.free,by simp,hh,by simp,by simp⟩
 intro k s ⟨j,x,o5,o6,o7,hj,hx,hg,hs⟩
 subst hs
 by_cases hjn:j<path.length
 ·have hw:IntKind.i64.wrap ((j:Int)+1)=(j+1:Nat):=by rw[Ad (by omega) (by omega)];simp
  rw[AfM hjn]at hg
  simp -implicitDefEqProofs [hjn]
  refine Aa (hP path[j] x (hb.2 j hjn) hx) ?_
  have hx':=Apm (b:=path[j]) hx
  generalize BS path[j] x=r at hg hx'
  by_cases hk:r.2=true
  ·rw[if_pos hk]at hg
   simp -implicitDefEqProofs [hk]
   refine⟨k-1,by omega,j+1,by omega,r.1,hx',?_⟩
   simp[hw,hg]
  ·rw[if_neg hk]at hg
   simp -implicitDefEqProofs [hk,hg,AQ]
 ·rw[Ak3 (by omega)]at hg
  simp -implicitDefEqProofs [hjn,hg]
theorem AsP (D:Dn) (hE:Eb (D Hl)) (hC:KI (D WK)) (hP:OZ (D AlJ)):FN (Body D RN):=by
 intro path h hb hh
 have hl:=hb.1
 unfold maxLen at hl
 simp -implicitDefEqProofs
 refine Aa (hE h hh) ?_
 by_cases h2:CP h=true
 rotate_left
 ·simp -implicitDefEqProofs [h2,A7,AQ]
 by_cases h1:path.length≤4
 rotate_left
 ·have h1':(4:Int)<path.length:=by omega
  simp -implicitDefEqProofs [h2,h1',h1,A7,AQ]
 have h1':¬(4:Int)<path.length:=by omega
 have e:A7 path h=Iu path h:=by simp[A7,h1,h2]
 rw[e]
 simp -implicitDefEqProofs [h2,h1']
 refine Aa (hC h hh) ?_
 simp -implicitDefEqProofs
 refine Ae (fun k s=>∃j x ok o5 o6,j+k=path.length∧hB x∧Iu path h=(if ok=true then Iu (path.drop j) x else(AQ,false))∧(ok=false→x=AQ)∧s=⟨[.sl 1 4 path.length (path.flatMap CF),.undef,.undef,.ptr 1 0,.undef,.ptr 4 0,B ok,I j,.undef,.undef],[.var ((CU h).map (AZ 1)),.var [.nil 1,.nil 2],.free,.free,.var [.arr 7,.arr 8],o5,o6,.arr 1 0 x.versions.length (ints x.versions),.arr 2 0 x.exts.length (x.exts.flatMap Br)]⟩) ?_ (path.length) _ ⟨0,h,true,.free,.free,by simp,hh,by simp,by simp,by simp⟩
 intro k s ⟨j,x,ok,o5,o6,hj,hx,hg,hno,hs⟩
 subst hs
 by_cases hok:ok=true
 rotate_left
 ·rw[if_neg hok]at hg
  have hok':ok=false:=by simpa using hok
  have hno':=hno hok'
  subst hok'
  subst hno'
  by_cases hjn:j<path.length
  ·simp -implicitDefEqProofs [hjn,hg,AQ]
  ·simp -implicitDefEqProofs [hjn,hg,AQ]
 rw[if_pos hok]at hg
 subst hok
 by_cases hjn:j<path.length
 ·have hw:IntKind.i64.wrap ((j:Int)+1)=(j+1:Nat):=by rw[Ad (by omega) (by omega)];simp
  rw[AfM hjn]at hg
  simp -implicitDefEqProofs [hjn]
  refine Aa (hP path[j] x (hb.2 j hjn) hx) ?_
  have hx':=Apm (b:=path[j]) hx
  have hno':=AvD (b:=path[j]) (h:=x)
  generalize BS path[j] x=r at hg hx' hno'
  simp -implicitDefEqProofs
  refine⟨k-1,by omega,j+1,by omega,r.1,hx',?_⟩
  simp[hw,hg,hno']
  by_cases hr:r.2=true
  ·right;exact⟨fun h=>by simp[hr]at h,hr⟩
  ·left;exact⟨fun h=>absurd h hr,hno' (by simpa using hr),by simpa using hr⟩
 ·rw[Ak3 (by omega)]at hg
  simp -implicitDefEqProofs [hjn,hg]
def Fe (b:Gu):Bool:=decide (b.limit=0)&&(decide (b.drops.length=0)&&(decide (b.strips.length=0)&& !b.lists))
abbrev O8 (R:Rel):Prop:=∀b:Gu,Hw b→R [arg (CF b)] [] (B (Fe b)) []
theorem Ave (D:Dn):O8 (Body D TA):=by
 intro b hb
 by_cases g1:b.limit=0
 rotate_left
 ·simp -implicitDefEqProofs [g1,Fe,WT]
 by_cases g2:b.drops.length=0
 rotate_left
 ·have g2':¬(b.drops.length:Int)=0:=by omega
  simp -implicitDefEqProofs [g1,g2,g2',Fe,WT]
 have g2':(b.drops.length:Int)=0:=by omega
 by_cases g3:b.strips.length=0
 rotate_left
 ·have g3':¬(b.strips.length:Int)=0:=by omega
  simp -implicitDefEqProofs [g1,g2,g2',g3,g3',Fe,WT]
 have g3':(b.strips.length:Int)=0:=by omega
 simp -implicitDefEqProofs [g1,g2,g2',g3,g3',Fe,WT]
def ES (path:List Gu):Bool:=decide (path.length≤4)&&path.all Fe
abbrev Hg (R:Rel):Prop:=∀path:List Gu,lnS Hw path→R [.sl 1 4 path.length (path.flatMap CF)] [] (B (ES path)) []
theorem Sz {α:Type} {p:α→Bool} {xs:List α} {j:Nat} (h:j<xs.length) (hp:p xs[j]=false):xs.all p=false:=List.all_eq_false.2 ⟨_,List.getElem_mem h,by simp[hp]⟩
theorem UI {α:Type} {p:α→Bool} {xs:List α} {j:Nat} (h:j<xs.length):(xs.take (j+1)).all p=((xs.take j).all p&&p xs[j]):=by
 have e:xs.take (j+1)=xs.take j++ [xs[j]]:=by simp
 rw[e,List.all_append];simp
theorem Yz {α:Type} {p:α→Bool} {xs:List α} {j:Nat} (h:xs.length≤j):(xs.take j).all p=xs.all p:=by rw[List.take_of_length_le h]
abbrev OI (R:Rel):Prop:=∀b:Gu,Hw b→R [arg (CF b)] [] (B (!Fe b)) []
theorem Akw (D:Dn) (hC:O8 (D AmR)):OI (Body D Ku):=by
 intro b hb
 simp -implicitDefEqProofs
 refine Aa (hC b hb) ?_
 simp -implicitDefEqProofs
theorem Ajr (D:Dn) (h1:OI (D QD)) (hC:H9 D (D EZ)):Hg (Body D Ma):=by
 intro path hb
 have hl:=hb.1
 by_cases g1:path.length≤4
 rotate_left
 ·have g1':¬(path.length:Int)≤4:=by omega
  simp -implicitDefEqProofs [g1',g1,ES]
 have g1':(path.length:Int)≤4:=by omega
 simp -implicitDefEqProofs [g1']
 refine Aa (hC path QD [] (fun b=> !Fe b) hl ER (fun j hj=>h1 path[j] (hb.2 j hj))) ?_
 have e:(path.any fun b=> !Fe b)= !path.all Fe:=by rw[List.all_eq_not_any_not];simp
 rw[e]
 generalize hq:path.all Fe=q
 simp -implicitDefEqProofs [ES,g1,hq]
abbrev Gb (R:Rel):Prop:=∀xs:List Int,xs.length≤4194304→R [.sl 1 1 xs.length (ints xs)] [] (.agg (CU ⟨xs,[]⟩)) []
theorem Amv (D:Dn):Gb (Body D NN):=by
 intro xs h
 have h1:xs.length*8≤1099511627776:=by omega
 simp -implicitDefEqProofs [h1]
theorem AmG (D:Dn):Gb (Body D NW):=by
 intro xs h
 have h1:xs.length*8≤1099511627776:=by omega
 simp -implicitDefEqProofs [h1]
def isOpen (path:List Gu) (vs:List Int):Bool:=A9 vs&&(A7 path ⟨vs.take 1,[]⟩).2
abbrev G9 (R:Rel):Prop:=∀(path:List Gu) (vs:List Int),lnS Hw path→vs.length≤4194304→R [.sl 1 4 path.length (path.flatMap CF),.sl 1 1 vs.length (ints vs)] [] (B (isOpen path vs)) []
theorem Anx (D:Dn) (hA:BK (D EJ)) (hH:Gb (D UY)) (hP:FN (D Mj)):G9 (Body D NS):=by
 intro path vs hb hv
 simp -implicitDefEqProofs
 refine Aa (hA vs (by unfold maxLen;omega)) ?_
 by_cases h1:A9 vs=true
 rotate_left
 ·simp -implicitDefEqProofs [h1,isOpen]
 have hpos:=XJ h1
 have h1l:(1:Int)≤vs.length:=by omega
 have h1n:1≤vs.length:=by omega
 have hlen:(vs.take 1).length=1:=by simp;omega
 have hmin:min 1 vs.length=1:=by omega
 simp -implicitDefEqProofs [h1,h1l,h1n]
 have hh:=hH (vs.take 1) (by omega)
 rw[hlen]at hh
 refine Aa (hh) ?_
 simp -implicitDefEqProofs [hmin]
 have hp:=hP path ⟨vs.take 1,[]⟩ hb ⟨by simp;omega,Adb⟩
 simp -implicitDefEqProofs [hmin]at hp
 refine Aa (hp) ?_
 simp -implicitDefEqProofs [isOpen,h1]
def KQ (path:List Gu) (v:Int):Bool:= !(A7 path ⟨[v],[]⟩).2
def Bj (path:List Gu) (vs:List Int):List Int:=if A9 vs=true then vs.filter (KQ path)else []
abbrev Gc (R:Rel):Prop:=∀(path:List Gu) (vs:List Int),lnS Hw path→vs.length≤4194304→R [.sl 1 4 path.length (path.flatMap CF),.sl 1 1 vs.length (ints vs)] [] (.sl 0 1 (Bj path vs).length (ints (Bj path vs))) []
theorem Au0 (path:List Gu) (v:Int):isOpen path [v]= !KQ path v:=by
 unfold isOpen KQ
 by_cases h:A9 [v]=true
 ·simp[h]
 ·have:A7 path ⟨[v],[]⟩=(AQ,false):=by
   unfold A7 CP
   have h':A9 [v]=false:=by simpa using h
   simp[h']
  simp[h,this]
theorem AhU (D:Dn) (hA:BK (D EJ)) (hO:G9 (D Vd)):Gc (Body D K6):=by
 intro path vs hb hv
 by_cases h1:A9 vs=true
 rotate_left
 ·have e:Bj path vs=[]:=by unfold Bj;rw[if_neg h1]
  rw[e]
  simp -implicitDefEqProofs
  refine Ae (fun k s=>s=⟨[.sl 1 4 path.length (path.flatMap CF),.sl 1 1 vs.length (ints vs),.undef,.arr 3,I 0,.undef,.undef],[.free,.free,.free,.arr 1 0 0 (ints [])]⟩) ?_ 0 _ (by simp)
  intro k s hs
  subst hs
  by_cases h0:0<vs.length
  ·simp -implicitDefEqProofs [h0]
   refine Aa (hA vs (by unfold maxLen;omega)) ?_
   simp -implicitDefEqProofs [h1]
  ·simp -implicitDefEqProofs [h0]
 have e:Bj path vs=vs.filter (KQ path):=by unfold Bj;rw[if_pos h1]
 rw[e]
 simp -implicitDefEqProofs
 refine Ae (fun k s=>∃j o1 o2,j+k=vs.length∧s=⟨[.sl 1 4 path.length (path.flatMap CF),.sl 1 1 vs.length (ints vs),.undef,.arr 3,I j,.undef,.undef],[.free,o1,o2,.arr 1 0 ((vs.take j).filter (KQ path)).length (ints ((vs.take j).filter (KQ path)))]⟩) ?_ (vs.length) _ ⟨0,.free,.free,by simp,by simp⟩
 intro k s ⟨j,o1,o2,hj,hs⟩
 subst hs
 by_cases hjn:j<vs.length
 ·have hw:IntKind.i64.wrap ((j:Int)+1)=(j+1:Nat):=by rw[Ad (by omega) (by omega)];simp
  have hst:=LH (p:=KQ path) hjn
  have hfl:=OM (p:=KQ path) (xs:=vs) (j:=j)
  have hb1:(((vs.take j).filter (KQ path)).length+1)*8≤1099511627776:=by omega
  have hw1:IntKind.i64.wrap ((j:Int)+1)=(j:Int)+1:=Ad (by omega) (by omega)
  have hj1:j+1≤vs.length:=by omega
  have hj2:(j:Int)+1≤vs.length:=by omega
  have hdt:(vs.drop j).take 1=[vs[j]]:=by rw[List.drop_eq_getElem_cons hjn];rfl
  simp -implicitDefEqProofs [hjn]
  refine Aa (hA vs (by unfold maxLen;omega)) ?_
  have hjj:(j:Int)≤(j:Int)+1:=by omega
  have h11:j+1-j=1:=by omega
  simp -implicitDefEqProofs [h1,hw1,hj1,hj2,hdt,hjn,hjj,h11]
  refine Aa (hO path [vs[j]] hb (by simp)) ?_
  rw[Au0]
  by_cases h2:KQ path vs[j]=true
  ·rw[if_pos h2]at hst
   simp -implicitDefEqProofs [h2,hjn,hb1]
   exact⟨k-1,by omega,j+1,by omega,by simp[hw],by rw[hst];simp,by rw[hst]⟩
  ·rw[if_neg h2,List.append_nil]at hst
   simp -implicitDefEqProofs [h2]
   exact⟨k-1,by omega,j+1,by omega,by simp[hw],by rw[hst],by rw[hst]⟩
 ·have e2:=Nh (p:=KQ path) (xs:=vs) (j:=j) (by omega)
  simp -implicitDefEqProofs [hjn,e2]
theorem Ahi (D:Dn) (hA:BK (D FM)) (hH:Gb (D Uz)) (hP:FN (D L9)):Gc (Body D Lb):=by
 intro path vs hb hv
 simp -implicitDefEqProofs
 refine Aa (hA vs (by unfold maxLen;omega)) ?_
 by_cases h1:A9 vs=true
 rotate_left
 ·have e:Bj path vs=[]:=by unfold Bj;rw[if_neg h1]
  rw[e]
  simp -implicitDefEqProofs [h1]
 have e:Bj path vs=vs.filter (KQ path):=by unfold Bj;rw[if_pos h1]
 rw[e]
 simp -implicitDefEqProofs [h1]
 refine Ae (fun k s=>∃j v4 o1 o2 o3 o4 o5 o6 o7 o8,j+k=vs.length∧s=⟨[.sl 1 4 path.length (path.flatMap CF),.undef,.undef,.arr 9,v4,.undef,.undef,.sl 1 1 vs.length (ints vs),I vs.length,I j,.undef,.undef],[.free,o1,o2,o3,o4,o5,o6,o7,o8,.arr 1 0 ((vs.take j).filter (KQ path)).length (ints ((vs.take j).filter (KQ path)))]⟩) ?_ (vs.length) _ ⟨0,.undef,.free,.free,.free,.free,.free,.free,.free,.free,by simp,by simp⟩
 intro k s ⟨j,v4,o1,o2,o3,o4,o5,o6,o7,o8,hj,hs⟩
 subst hs
 by_cases hjn:j<vs.length
 ·have hw:IntKind.i64.wrap ((j:Int)+1)=(j+1:Nat):=by rw[Ad (by omega) (by omega)];simp
  have hst:=LH (p:=KQ path) hjn
  have hfl:=OM (p:=KQ path) (xs:=vs) (j:=j)
  have hb1:(((vs.take j).filter (KQ path)).length+1)*8≤1099511627776:=by omega
  simp -implicitDefEqProofs [hjn]
  refine Aa (hH [vs[j]] (by simp)) ?_
  simp -implicitDefEqProofs
  refine Aa (hP path ⟨[vs[j]],[]⟩ hb ⟨by simp,Adb⟩) ?_
  have hq:KQ path vs[j]= !(A7 path ⟨[vs[j]],[]⟩).2:=rfl
  generalize A7 path ⟨[vs[j]],[]⟩=r at hq
  by_cases h2:r.2=true
  ·have h3:¬KQ path vs[j]=true:=by rw[hq,h2];simp
   rw[if_neg h3,List.append_nil]at hst
   simp -implicitDefEqProofs [h2]
   exact⟨k-1,by omega,j+1,by omega,by simp[hw],by rw[hst],by rw[hst]⟩
  ·have h3:KQ path vs[j]=true:=by rw[hq];simpa using h2
   rw[if_pos h3]at hst
   simp -implicitDefEqProofs [h2,hb1]
   exact⟨k-1,by omega,j+1,by omega,by simp[hw],by rw[hst];simp,by rw[hst]⟩
 ·have e2:=Nh (p:=KQ path) (xs:=vs) (j:=j) (by omega)
  simp -implicitDefEqProofs [hjn,e2]
end Go.Eng.T
namespace Go.Eng.T
set_option maxRecDepth 20000
set_option maxHeartbeats 1000000
def Y0 (l:List Int):Int:=l.foldl (fun a v=>if v>a then v else a) 0
theorem Awm {x:Int}:∀(l:List Int) (a:Int),(∀y,y∈l→y<x)→a<x→l.foldl (fun a v=>if v>a then v else a) a<x
 | [],a,_,h=>h
 | y::l,a,hl,h=>by
  simp only[List.foldl_cons]
  refine Awm l _ (fun z hz=>hl z (by simp[hz])) ?_
  split
  ·exact hl y (by simp)
  ·exact h
theorem AiU {xs:List Int}:∀(n:Nat),K9 xs n=true→∀i j,i<j→j<n→xs.getD i 0<xs.getD j 0
 | 0,_,i,j,_,h=>by omega
 | n+1,hr,i,j,hij,hj=>by
  rw[SK]at hr
  simp only[Bool.and_eq_true,Bool.or_eq_true,decide_eq_true_eq]at hr
  obtain⟨h1,_,h3⟩:=hr
  by_cases hjn:j<n
  ·exact AiU n h1 i j hij hjn
  ·obtain rfl:j=n:=by omega
   have h4:xs.getD (j-1) 0<xs.getD j 0:=by
    rcases h3 with h3 | h3
    ·omega
    ·exact h3
   by_cases he:i=j-1
   ·rw[he];exact h4
   ·have:=AiU j h1 i (j-1) (by omega) (by omega)
    omega
theorem AAP {xs:List Int} {n i:Nat} (h:K9 xs n=true) (hi:i<n):InV (xs.getD i 0) 1 9:=by
 unfold K9 at h
 have:=List.all_eq_true.1 h i (List.mem_range.2 hi)
 simp at this
 exact⟨this.1.1,this.1.2⟩
theorem An0 {xs:List Int} (h:A9 xs=true):xs.Pairwise (· < ·):=by
 unfold A9 at h
 simp only[Bool.and_eq_true,decide_eq_true_eq]at h
 rw[List.pairwise_iff_getElem]
 intro i j hi hj hij
 have:=AiU _ h.1 i j hij hj
 rwa [Xm hi,Xm hj]at this
theorem Awj {xs:List Int} (h:A9 xs=true):∀x,x∈xs→InV x 1 9:=by
 unfold A9 at h
 simp only[Bool.and_eq_true,decide_eq_true_eq]at h
 intro x hx
 obtain⟨i,hi,rfl⟩:=List.getElem_of_mem hx
 have:=AAP h.1 hi
 rwa [Xm hi]at this
theorem Ayr {l:List Int} (hp:l.Pairwise (· < ·)) (h0:∀x,x∈l→0<x) (hn:0<l.length):Y0 l=l[l.length-1]:=by
 obtain⟨l',x,rfl⟩:∃l' x,l=l'++ [x]:=by
  rcases List.eq_nil_or_concat l with h | ⟨l',x,h⟩
  ·rw[h]at hn;simp at hn
  ·exact⟨l',x,by simpa using h⟩
 rw[List.pairwise_append]at hp
 have h1:Y0 l' <x:=Awm l' 0 (fun y hy=>hp.2.2 y hy x (by simp)) (h0 x (by simp))
 have h2:Y0 (l'++ [x])=if x>Y0 l' then x else Y0 l':=by unfold Y0;rw[List.foldl_append];rfl
 rw[h2,if_pos h1]
 simp
def BJ (a b:List Int):Int:=if A9 a=true∧A9 b=true then Y0 (common a b)else 0
abbrev EX (R:Rel):Prop:=∀a b:List Int,a.length≤4194304→b.length≤4194304→R [.sl 1 1 a.length (ints a),.sl 1 1 b.length (ints b)] [] (I (BJ a b)) []
theorem ml {n:Nat} (h:n≤4194304):n≤maxLen:=by unfold maxLen;omega
theorem AmY (D:Dn) (hC:Lu (D AjR)) (hA:BK (D EJ)):EX (Body D NI):=by
 intro a b ha hb
 have hcl:(common a b).length≤4194304:=Nat.le_trans (List.length_filter_le _ _) ha
 simp -implicitDefEqProofs
 refine Aa (hC a b ha (ml hb)) ?_
 simp -implicitDefEqProofs
 refine Aa (hA a (ml ha)) ?_
 by_cases h1:A9 a=true
 rotate_left
 ·simp -implicitDefEqProofs [h1,BJ]
 simp -implicitDefEqProofs [h1]
 refine Aa (hA b (ml hb)) ?_
 by_cases h2:A9 b=true
 rotate_left
 ·simp -implicitDefEqProofs [h2,BJ]
 have e:BJ a b=Y0 (common a b):=by unfold BJ;rw[if_pos ⟨h1,h2⟩]
 rw[e]
 by_cases h3:common a b=[]
 ·simp -implicitDefEqProofs [h2,h3,Y0]
 have h4:0<(common a b).length:=List.length_pos_iff.2 h3
 have h5:=Ayr (l:=common a b) ((An0 h1).filter _) (fun x hx=>by have:=Awj h1 x (List.mem_filter.1 hx).1;omega) h4
 rw[h5]
 generalize common a b=l at h3 h4 hcl
 have hw:IntKind.i64.wrap ((l.length:Int)-1)=((l.length-1:Nat):Int):=by rw[Ad (by omega) (by omega)];omega
 have h6:l.length-1<l.length:=by omega
 simp -implicitDefEqProofs [h2,h3,hw,h6,h4]
theorem AlB (D:Dn) (hC:Lu (D Ajn)) (hA:BK (D FM)):EX (Body D N7):=by
 intro a b ha hb
 have hcl:(common a b).length≤4194304:=Nat.le_trans (List.length_filter_le _ _) ha
 simp -implicitDefEqProofs
 refine Aa (hA a (ml ha)) ?_
 by_cases h1:A9 a=true
 rotate_left
 ·simp -implicitDefEqProofs [h1,BJ]
 simp -implicitDefEqProofs [h1]
 refine Aa (hA b (ml hb)) ?_
 by_cases h2:A9 b=true
 rotate_left
 ·simp -implicitDefEqProofs [h2,BJ]
 have e:BJ a b=Y0 (common a b):=by unfold BJ;rw[if_pos ⟨h1,h2⟩]
 rw[e]
 simp -implicitDefEqProofs [h2]
 refine Aa (hC a b ha (ml hb)) ?_
 generalize common a b=l at hcl
 simp -implicitDefEqProofs
 refine Ae (fun k s=>∃j,j+k=l.length∧s=⟨[.undef,.undef,.undef,.sc (.int .i64 (Y0 (l.take j))),.undef,.undef,.arr 0,.sc (.int .i64 l.length),.sc (.int .i64 j),.undef],[.arr 1 0 l.length (ints l)]⟩) ?_ l.length _ ⟨0,by simp,by simp[Y0]⟩
 intro k s ⟨j,hj,hs⟩
 subst hs
 by_cases hjn:j<l.length
 ·have hw:IntKind.i64.wrap ((j:Int)+1)=(j+1:Nat):=by rw[Ad (by omega) (by omega)];simp
  have hst:Y0 (l.take (j+1))=if l[j]>Y0 (l.take j)then l[j]else Y0 (l.take j):=by
   have e:l.take (j+1)=l.take j++ [l[j]]:=by simp
   unfold Y0
   rw[e,List.foldl_append];rfl
  simp -implicitDefEqProofs [hjn]
  exact⟨k-1,by omega,j+1,by omega,by rw[hst],by simp[hw]⟩
 ·have hx:l.take j=l:=List.take_of_length_le (by omega)
  simp -implicitDefEqProofs [hjn,hx]
end Go.Eng.T
namespace Go.Eng.T
set_option maxRecDepth 20000
def AgU {α:Type} (p:α→Bool):List α→Nat→List Int
 | [],_=> []
 | x::r,i=>if p x then(i:Int)::AgU p r (i+1)else AgU p r (i+1)
theorem AsT {α:Type} {p:α→Bool} (b:List α):∀(a:List α) (i:Nat),AgU p (a++b) i=AgU p a i++AgU p b (i+a.length)
 | [],i=>by simp[AgU]
 | x::r,i=>by
  have:=AsT (p:=p) b r (i+1)
  simp only[List.cons_append,AgU,this,List.length_cons]
  rw[show i+1+r.length=i+(r.length+1)by omega]
  by_cases h:p x=true<;>simp[h]
theorem VS {α:Type} {p:α→Bool} {xs:List α} {j:Nat} (h:j<xs.length):AgU p (xs.take (j+1)) 0=AgU p (xs.take j) 0++(if p xs[j]then [(j:Int)]else []):=by
 have e:xs.take (j+1)=xs.take j++ [xs[j]]:=by simp
 rw[e,AsT]
 have hl:(xs.take j).length=j:=by simp;omega
 by_cases hp:p xs[j]=true<;>simp[AgU,hp,hl]
theorem AaN {α:Type} {p:α→Bool} {xs:List α} {j:Nat} (h:xs.length≤j):AgU p (xs.take j) 0=AgU p xs 0:=by rw[List.take_of_length_le h]
theorem Az6 {α:Type} {p:α→Bool}:∀(xs:List α) (i:Nat),(AgU p xs i).length≤xs.length
 | [],_=>by simp[AgU]
 | x::r,i=>by
  have:=Az6 (p:=p) r (i+1)
  by_cases h:p x=true
  ·simp[AgU,h];omega
  ·simp[AgU,h];omega
theorem Avd {w:World} (h:Ay w≤4194304) {j:Nat} (hj:j<w.ends.length):w.ends[j].versions.length≤maxLen:=by
 have:=size_at (f:=Ac) hj
 have e:Ac w.ends[j]=w.ends[j].versions.length+w.ends[j].tags.length+Bw Ct w.ends[j].path:=rfl
 unfold Ay at h
 unfold maxLen;omega
end Go.Eng.T
namespace Go.Eng.T
set_option maxRecDepth 20000
set_option maxHeartbeats 1000000
def Jh (xs:List (List Int)):List V:=xs.map fun l=> .sl 0 1 l.length (ints l)
@[simp high] theorem AGv (xs:List (List Int)):(Jh xs).length=xs.length:=by simp[Jh]
@[simp] theorem AGj:Jh []=[]:=rfl
@[simp] theorem AG8 (xs:List (List Int)):(Jh xs).map (AZ 0)=Jh xs:=by simp[Jh,Function.comp_def,AZ]
@[simp high] theorem AG4 {xs:List (List Int)} {j:Nat} (h:j<xs.length):(Jh xs)[j]? =some (V.sl 0 1 xs[j].length (ints xs[j])):=by simp[Jh,h]
theorem Auh (xs:List (List Int)) (l:List Int) {n:Nat} (h:n=l.length):Jh xs++ [.sl 0 1 n (ints l)]=Jh (xs++ [l]):=by subst h;simp[Jh]
def IA (xs:List (List Int)):Nat:=Bw List.length xs
theorem Yu {xs:List (List Int)} {j:Nat} (h:j<xs.length):xs[j].length≤IA xs:=size_at (f:=List.length) h
theorem Rv {xs:List (List Int)}:xs.length≤IA xs:=IK
def GY (w:World):List (List Int):=w.ends.map (·.versions)
abbrev Kz (R:Rel):Prop:=∀w:World,Ay w≤4194304→R [arg (EF w)] [] (.sl 0 1 (GY w).length (Jh (GY w))) []
theorem Aj0 {xs:List AL} {j:Nat} (h:j<xs.length):Jh ((xs.map (·.versions)).take j)++ [.sl 0 1 xs[j].versions.length (ints xs[j].versions)]=Jh ((xs.map (·.versions)).take (j+1)):=by
 have h':j<(xs.map (·.versions)).length:=by simpa using h
 have e:(xs.map (·.versions)).take (j+1)=(xs.map (·.versions)).take j++ [xs[j].versions]:=by
  have:=List.take_append_getElem h'
  rw[←this];simp
 rw[e,Auh _ _ rfl]
theorem AuR (D:Dn):Kz (Body D TU):=by
 intro w h
 have hl:=JQ h
 have hres:GY w=w.ends.map (·.versions):=rfl
 rw[hres]
 simp -implicitDefEqProofs
 refine Ae (fun k s=>∃j o2 o3 o4 o5,j+k=w.ends.length∧s=⟨[.undef,.ptr 0 0,.undef,.arr 6,.sc (.int .i64 j),.undef],[.var ((EF w).map (AZ 1)),.free,o2,o3,o4,o5,.arr 1 0 j (Jh ((w.ends.take j).map (·.versions)))]⟩) ?_ w.ends.length _ ⟨0,.free,.free,.free,.free,by simp,by simp⟩
 intro k s ⟨j,o2,o3,o4,o5,hj,hs⟩
 subst hs
 by_cases hjn:j<w.ends.length
 ·have hw:IntKind.i64.wrap ((j:Int)+1)=(j+1:Nat):=by rw[Ad (by omega) (by omega)];simp
  have hst:=Aj0 hjn
  have hvl:=Avd h hjn
  unfold maxLen at hvl
  have h2:w.ends[j].versions.length≤4194304:=by
   have:=size_at (f:=Ac) hjn
   have e:Ac w.ends[j]=w.ends[j].versions.length+w.ends[j].tags.length+Bw Ct w.ends[j].path:=rfl
   unfold Ay at h
   omega
  have hb:w.ends[j].versions.length*8≤1099511627776:=by omega
  have hb2:(j+1)*24≤1099511627776:=by omega
  have hjl:min j w.ends.length=j:=by omega
  simp -implicitDefEqProofs [hjn,hb,hb2,hjl]
  exact⟨k-1,by omega,j+1,by omega,by simp[hw],rfl,hst⟩
 ·obtain rfl:j=w.ends.length:=by omega
  simp -implicitDefEqProofs
abbrev Kh (ls:List (List Int)):V:= .sl 1 1 ls.length (Jh ls)
def AaZ (s:List Int) (v:Int) (l:List Int):Bool:=decide (BJ s l=v)
def RH (s:List Int) (ls:List (List Int)) (v:Int):Nat:=if 1≤v then cntF (AaZ s v) ls else 0
abbrev Afg (R:Rel):Prop:=∀(s:List Int) (ls:List (List Int)) (v:Int),s.length≤4194304→IA ls≤4194304→R [.sl 1 1 s.length (ints s),Kh ls,I v] [] (I (RH s ls v)) []
theorem AlK (D:Dn) (hB:EX (D NC)):Afg (Body D P5):=by
 intro s ls v hs0 hl
 have hll:=Rv (xs:=ls)
 by_cases hv:1≤v
 rotate_left
 ·have e:RH s ls v=0:=by unfold RH;rw[if_neg hv]
  simp -implicitDefEqProofs [e]
  refine Ae (fun k st=>st=⟨[.sl 1 1 s.length (ints s),Kh ls,I v,.undef,.sc (.int .i64 0),.sc (.int .i64 0),.undef,.undef],[]⟩) ?_ 0 _ (by simp)
  intro k st hs
  subst hs
  by_cases h0:0<ls.length
  ·have h0':(0:Int)<ls.length:=by omega
   simp -implicitDefEqProofs [hv,h0,h0']
  ·have h0':¬(0:Int)<ls.length:=by omega
   simp -implicitDefEqProofs [hv,h0,h0']
 have e:RH s ls v=cntF (AaZ s v) ls:=by unfold RH;rw[if_pos hv]
 rw[e]
 simp -implicitDefEqProofs
 refine Ae (fun k st=>∃j,j+k=ls.length∧st=⟨[.sl 1 1 s.length (ints s),Kh ls,I v,.undef,.sc (.int .i64 (cntF (AaZ s v) (ls.take j))),.sc (.int .i64 j),.undef,.undef],[]⟩) ?_ ls.length _ ⟨0,by simp,by simp[cntF]⟩
 intro k st ⟨j,hj,hs⟩
 subst hs
 by_cases hjn:j<ls.length
 ·have hw:IntKind.i64.wrap ((j:Int)+1)=(j+1:Nat):=by rw[Ad (by omega) (by omega)];simp
  have hc:=Adn (f:=AaZ s v) hjn
  have hcl:=ApG (f:=AaZ s v) (xs:=ls) (j:=j) (by omega)
  have hw2:IntKind.i64.wrap ((cntF (AaZ s v) (ls.take j):Int)+1)=(cntF (AaZ s v) (ls.take j)+1:Nat):=by rw[Ad (by omega) (by omega)];simp
  have hra:=Yu hjn
  simp -implicitDefEqProofs [hjn,hv]
  refine Aa (hB s _ hs0 (by omega)) ?_
  by_cases he:BJ s ls[j]=v
  ·simp -implicitDefEqProofs [he]
   exact⟨k-1,by omega,j+1,by omega,by rw[hc,hw2];simp[AaZ,he],by simp[hw]⟩
  ·simp -implicitDefEqProofs [he]
   exact⟨k-1,by omega,j+1,by omega,by rw[hc];simp[AaZ,he],by simp[hw]⟩
 ·have hx:=Aia (f:=AaZ s v) (xs:=ls) (j:=j) (by omega)
  simp -implicitDefEqProofs [hjn,hx]
def AHJ (s:List Int) (v:Int) (l:List Int):Bool:=decide (0<BJ s l)&&decide (BJ (AB3 s v) l=0)
def AGY (s:List Int) (ls:List (List Int)) (v:Int):List Int:=AgU (AHJ s v) ls 0
abbrev Q9 (R:Rel):Prop:=∀(s:List Int) (ls:List (List Int)) (v:Int),s.length≤4194304→IA ls≤4194304→R [.sl 1 1 s.length (ints s),Kh ls,I v] [] (.sl 0 1 (AGY s ls v).length (ints (AGY s ls v))) []
theorem AgA (D:Dn) (hB:EX (D NC)) (hW:GL (D AxS)):Q9 (Body D LU):=by
 intro s ls v hs0 hl
 have hll:=Rv (xs:=ls)
 have hres:AGY s ls v=AgU (AHJ s v) ls 0:=rfl
 have hwl:=List.length_filter_le (fun x=> !decide (x=v)) s
 rw[hres]
 simp -implicitDefEqProofs
 refine Aa (hW s v hs0) ?_
 simp -implicitDefEqProofs
 refine Ae (fun k st=>∃j o2 o3,j+k=ls.length∧st=⟨[.sl 1 1 s.length (ints s),Kh ls,.undef,.undef,.arr 4,.arr 1,.sc (.int .i64 j),.undef,.undef],[.free,.arr 1 0 (AB3 s v).length (ints (AB3 s v)),o2,o3,.arr 1 0 (AgU (AHJ s v) (ls.take j) 0).length (ints (AgU (AHJ s v) (ls.take j) 0))]⟩) ?_ ls.length _ ⟨0,.free,.free,by simp,by simp[AgU]⟩
 intro k st ⟨j,o2,o3,hj,hs⟩
 subst hs
 by_cases hjn:j<ls.length
 ·have hw:IntKind.i64.wrap ((j:Int)+1)=(j+1:Nat):=by rw[Ad (by omega) (by omega)];simp
  have hst:=VS (p:=AHJ s v) hjn
  have hln:=Az6 (p:=AHJ s v) (ls.take j) 0
  have htl:(ls.take j).length≤j:=by simp;omega
  have hb:((AgU (AHJ s v) (ls.take j) 0).length+1)*8≤1099511627776:=by omega
  have hra:=Yu hjn
  simp -implicitDefEqProofs [hjn]
  refine Aa (hB s _ hs0 (by omega)) ?_
  by_cases h1:0<BJ s ls[j]
  rotate_left
  ·rw[if_neg (by simp[AHJ,h1]),List.append_nil]at hst
   simp -implicitDefEqProofs [h1]
   exact⟨k-1,by omega,j+1,by omega,by simp[hw],by rw[hst],by rw[hst]⟩
  simp -implicitDefEqProofs [h1,hjn]
  refine Aa (hB (AB3 s v) ls[j] (by unfold AB3;omega) (by omega)) ?_
  by_cases h2:BJ (AB3 s v) ls[j]=0
  ·rw[if_pos (by simp[AHJ,h1,h2])]at hst
   simp -implicitDefEqProofs [h2,hb]
   exact⟨k-1,by omega,j+1,by omega,by simp[hw],by rw[hst];simp,by rw[hst]⟩
  ·rw[if_neg (by simp[AHJ,h1,h2]),List.append_nil]at hst
   simp -implicitDefEqProofs [h2]
   exact⟨k-1,by omega,j+1,by omega,by simp[hw],by rw[hst],by rw[hst]⟩
 ·have hx:=AaN (p:=AHJ s v) (xs:=ls) (j:=j) (by omega)
  simp -implicitDefEqProofs [hjn,hx]
theorem Alz (s:List Int) (ls:List (List Int)) (v:Int):RH s ls v≤ls.length:=by
 unfold RH
 split
 ·have:=ApG (f:=AaZ s v) (xs:=ls) (j:=ls.length) (by omega)
  rwa [List.take_length]at this
 ·omega
def Fa (s:List Int) (ls:List (List Int)) (v pm:Int):Bool:=A9 s&&(decide (v∈s)&&(!decide (s.length=1)&&(decide (InV pm 0 1000)&&(decide (AGY s ls v=[])&&decide (1000*(RH s ls v:Int)≤pm*(ls.length:Int))))))
abbrev O1 (R:Rel):Prop:=∀(s:List Int) (ls:List (List Int)) (v pm:Int),s.length≤4194304→IA ls≤4194304→R [.sl 1 1 s.length (ints s),Kh ls,I v,I pm] [] (B (Fa s ls v pm)) []
theorem Aew (D:Dn) (hA:BK (D EJ)) (hH:R6 (D Jl)) (hI:SG (D CB)) (hS:Q9 (D AzQ)) (hU:Afg (D AEX)):O1 (Body D JZ):=by
 intro s ls v pm hs0 hl
 have hll:=Rv (xs:=ls)
 simp -implicitDefEqProofs
 refine Aa (hA s (by unfold maxLen;omega)) ?_
 by_cases h1:A9 s=true
 rotate_left
 ·simp -implicitDefEqProofs [h1,Fa]
 simp -implicitDefEqProofs [h1]
 refine Aa (hH s v (by unfold maxLen;omega)) ?_
 by_cases h2:v∈s
 rotate_left
 ·simp -implicitDefEqProofs [h1,h2,Fa]
 by_cases h3:s.length=1
 ·have h3':(s.length:Int)=1:=by omega
  simp -implicitDefEqProofs [h1,h2,h3,h3',Fa]
 have h3':¬(s.length:Int)=1:=by omega
 simp -implicitDefEqProofs [h1,h2,h3,h3']
 refine Aa (hI _ _ _) ?_
 by_cases h4:InV pm 0 1000
 rotate_left
 ·simp -implicitDefEqProofs [h1,h2,h3,h3',h4,Fa]
 simp -implicitDefEqProofs [h3,h3',h4]
 refine Aa (hS s ls v hs0 hl) ?_
 by_cases h5:(AGY s ls v).length=0
 rotate_left
 ·have h5':¬((AGY s ls v).length:Int)=0:=by omega
  have h5'':¬AGY s ls v=[]:=by intro h;rw[h]at h5;simp at h5
  simp -implicitDefEqProofs [h5,h5',h5'',h1,h2,h3,h4,Fa]
 have h5'':AGY s ls v=[]:=List.eq_nil_of_length_eq_zero h5
 simp -implicitDefEqProofs [h5'']
 refine Aa (hU s ls v hs0 hl) ?_
 have hu:=Alz s ls v
 have w1:IntKind.i64.wrap (1000*(RH s ls v:Int))=1000*(RH s ls v:Int):=Ad (by omega) (by omega)
 have w2:IntKind.i64.wrap (pm*(ls.length:Int))=pm*(ls.length:Int):=by
  have a1:0≤pm*(ls.length:Int):=Int.mul_nonneg h4.1 (by omega)
  have a2:pm*(ls.length:Int)≤1000*4194304:=Int.mul_le_mul h4.2 (by omega) (by omega) (by omega)
  exact Ad (by omega) (by omega)
 simp -implicitDefEqProofs [h1,h2,h3,h3',h4,h5'',w1,w2,Fa]
def F6 (s:List Int) (ls:List (List Int)) (v pm:Int):List Int×Bool:=if Fa s ls v pm=true then(AB3 s v,true)else(s,false)
abbrev G6 (R:Rel):Prop:=∀(s:List Int) (ls:List (List Int)) (v pm:Int),s.length≤4194304→IA ls≤4194304→R [.sl 1 1 s.length (ints s),Kh ls,I v,I pm] [] (.tup [.sl 0 1 (F6 s ls v pm).1.length (ints (F6 s ls v pm).1),B (F6 s ls v pm).2]) []
theorem WV (D:Dn) (hM:O1 (D Azw)) (hW:GL (D AxS)):G6 (Body D Gt):=by
 intro s ls v pm hs0 hl
 have hll:=Rv (xs:=ls)
 have hb:s.length*8≤1099511627776:=by omega
 simp -implicitDefEqProofs
 refine Aa (hM s ls v pm hs0 hl) ?_
 by_cases h1:Fa s ls v pm=true
 rotate_left
 ·have e:F6 s ls v pm=(s,false):=by unfold F6;rw[if_neg h1]
  simp -implicitDefEqProofs [h1,e,hb]
 have e:F6 s ls v pm=(AB3 s v,true):=by unfold F6;rw[if_pos h1]
 simp -implicitDefEqProofs [h1,e]
 refine Aa (hW s v hs0) ?_
 simp -implicitDefEqProofs [h1,e]
theorem AgP {w:World} (h:Ay w≤4194304):w.server.length≤4194304:=by unfold Ay at h;omega
theorem AFp (xs:List AL):IA (xs.map (·.versions))≤Bw Ac xs:=by
 induction xs with
 | nil=>simp[IA,Bw]
 | cons x r ih=>
  simp only[IA,Bw,List.map_cons,List.sum_cons,List.length_cons,Ac,List.length_map]at *
  omega
theorem AcH {w:World} (h:Ay w≤4194304):IA (GY w)≤4194304:=by
 have:=AFp w.ends
 unfold Ay at h
 unfold GY
 omega
def BF (w:World) (v pm:Int):World×Bool:=if(F6 w.server (GY w) v pm).2=true∧¬v=w.rollout.version then({w with server:=(F6 w.server (GY w) v pm).1},true)else(w,false)
abbrev LZ (R:Rel):Prop:=∀(w:World) (v pm:Int),Ay w≤4194304→R [arg (EF w),I v,I pm] [] (.tup [.agg (EF (BF w v pm).1),B (BF w v pm).2]) []
theorem Ac2 (D:Dn) (hC:Ef (D ACA)) (hL:Kz (D Zu)) (hR:G6 (D Atm)):LZ (Body D HY):=by
 intro w v pm h
 simp -implicitDefEqProofs
 refine Aa (hC w h) ?_
 simp -implicitDefEqProofs
 refine Aa (hL w h) ?_
 simp -implicitDefEqProofs
 refine Aa (hR w.server (GY w) v pm (AgP h) (AcH h)) ?_
 by_cases h1:(F6 w.server (GY w) v pm).2=true
 rotate_left
 ·have e:BF w v pm=(w,false):=by unfold BF;rw[if_neg (by simp[h1])]
  simp -implicitDefEqProofs [h1,e]
 by_cases h2:v=w.rollout.version
 ·subst h2
  have e:BF w w.rollout.version pm=(w,false):=by unfold BF;rw[if_neg (by simp)]
  simp -implicitDefEqProofs [h1,e]
 have e:BF w v pm=({w with server:=(F6 w.server (GY w) v pm).1},true):=by unfold BF;rw[if_pos ⟨h1,h2⟩]
 simp -implicitDefEqProofs [h1,h2,e]
end Go.Eng.T
namespace Go.Eng.T
set_option maxRecDepth 20000
set_option maxHeartbeats 1000000
def leftOf (a b:List Int):List Int:=a.filter fun v=> !decide (v∈b)
abbrev WC (R:Rel):Prop:=∀a b:List Int,a.length≤4194304→b.length≤4194304→R [.sl 1 1 a.length (ints a),.sl 1 1 b.length (ints b)] [] (.sl 0 1 (leftOf a b).length (ints (leftOf a b))) []
theorem AxI (D:Dn) (hH:R6 (D Jl)):WC (Body D Uo):=by
 intro a b ha hb
 have hres:leftOf a b=a.filter (fun v=> !decide (v∈b)):=rfl
 rw[hres]
 simp -implicitDefEqProofs
 refine Ae (fun k s=>∃j o1 o2,j+k=a.length∧s=⟨[.sl 1 1 a.length (ints a),.sl 1 1 b.length (ints b),.undef,.arr 3,I j,.undef,.undef],[.free,o1,o2,.arr 1 0 ((a.take j).filter (fun v=> !decide (v∈b))).length (ints ((a.take j).filter (fun v=> !decide (v∈b))))]⟩) ?_ (a.length) _ ⟨0,.free,.free,by simp,by simp⟩
 intro k s ⟨j,o1,o2,hj,hs⟩
 subst hs
 by_cases hjn:j<a.length
 ·have hw:IntKind.i64.wrap ((j:Int)+1)=(j+1:Nat):=by rw[Ad (by omega) (by omega)];simp
  have hst:=LH (p:=fun v=> !decide (v∈b)) hjn
  have hln:=OM (p:=fun v=> !decide (v∈b)) (xs:=a) (j:=j)
  have hbd:(((a.take j).filter (fun v=> !decide (v∈b))).length+1)*8≤1099511627776:=by omega
  simp -implicitDefEqProofs [hjn]
  refine Aa (hH b _ (by unfold maxLen;omega)) ?_
  by_cases h1:a[j]∈b
  ·rw[if_neg (by simp[h1]),List.append_nil]at hst
   simp -implicitDefEqProofs [h1,hjn,hbd]
   exact⟨k-1,by omega,j+1,by omega,by simp[hw],by rw[hst],by rw[hst]⟩
  ·rw[if_pos (by simp[h1])]at hst
   simp -implicitDefEqProofs [h1,hjn,hbd]
   exact⟨k-1,by omega,j+1,by omega,by simp[hw],by rw[hst];simp,by rw[hst]⟩
 ·have hx:=Nh (p:=fun v=> !decide (v∈b)) (xs:=a) (j:=j) (by omega)
  simp -implicitDefEqProofs [hjn,hx]
theorem AuX (D:Dn) (hH:R6 (D Bn)):WC (Body D Ut):=by
 intro a b ha hb
 have hres:leftOf a b=a.filter (fun v=> !decide (v∈b)):=rfl
 rw[hres]
 simp -implicitDefEqProofs
 refine Ae (fun k s=>∃j v4 o1 o2,j+k=a.length∧s=⟨[.undef,.sl 1 1 b.length (ints b),.undef,.arr 3,v4,.sl 1 1 a.length (ints a),I a.length,I j,.undef,.undef],[.free,o1,o2,.arr 1 0 ((a.take j).filter (fun v=> !decide (v∈b))).length (ints ((a.take j).filter (fun v=> !decide (v∈b))))]⟩) ?_ (a.length) _ ⟨0,.undef,.free,.free,by simp,by simp⟩
 intro k s ⟨j,v4,o1,o2,hj,hs⟩
 subst hs
 by_cases hjn:j<a.length
 ·have hw:IntKind.i64.wrap ((j:Int)+1)=(j+1:Nat):=by rw[Ad (by omega) (by omega)];simp
  have hst:=LH (p:=fun v=> !decide (v∈b)) hjn
  have hln:=OM (p:=fun v=> !decide (v∈b)) (xs:=a) (j:=j)
  have hbd:(((a.take j).filter (fun v=> !decide (v∈b))).length+1)*8≤1099511627776:=by omega
  simp -implicitDefEqProofs [hjn]
  refine Aa (hH b _ (by unfold maxLen;omega)) ?_
  by_cases h1:a[j]∈b
  ·rw[if_neg (by simp[h1]),List.append_nil]at hst
   simp -implicitDefEqProofs [h1,hjn,hbd]
   exact⟨k-1,by omega,j+1,by omega,by simp[hw],by rw[hst],by rw[hst]⟩
  ·rw[if_pos (by simp[h1])]at hst
   simp -implicitDefEqProofs [h1,hjn,hbd]
   exact⟨k-1,by omega,j+1,by omega,by simp[hw],by rw[hst];simp,by rw[hst]⟩
 ·have hx:=Nh (p:=fun v=> !decide (v∈b)) (xs:=a) (j:=j) (by omega)
  simp -implicitDefEqProofs [hjn,hx]
def upTo (xs:List Int) (i:Nat):Bool:=decide (i=0)||decide (xs.getD (i-1) 0<xs.getD i 0)
def HZ (xs:List Int):Bool:=Nl (upTo xs) xs.length&&allIn xs 0 255
abbrev MC (R:Rel):Prop:=∀xs:List Int,xs.length≤maxLen→R [.sl 1 1 xs.length (ints xs)] [] (B (HZ xs)) []
theorem AfI {xs:List Int} {j:Nat} (h:j<xs.length) (hn:¬Q5 xs[j] 0 255):HZ xs=false:=by unfold HZ;rw[AqU h hn];simp
theorem Yi {xs:List Int} {j:Nat} (h:j<xs.length) (hn:upTo xs j=false):HZ xs=false:=by unfold HZ;rw[AkG h hn];simp
theorem Ad6 (xs:List Int):upTo xs 0=true:=by simp[upTo]
theorem YF {xs:List Int} {j:Nat} (h0:¬j=0) (h:j<xs.length) (h':j-1<xs.length):upTo xs j=decide (xs[j-1]<xs[j]):=by
 unfold upTo
 rw[Xm h,Xm h']
 simp[h0]
theorem AvH (D:Dn) (hI:SG (D CB)):MC (Body D Tm):=by
 intro xs hl
 unfold maxLen at hl
 simp -implicitDefEqProofs
 refine Ae (fun k s=>∃j,j+k=xs.length∧allIn (xs.take j) 0 255=true∧Nl (upTo xs) j=true∧s=⟨[.sl 1 1 xs.length (ints xs),.undef,I j,.undef,.undef],[]⟩) ?_ (xs.length) _ ⟨0,by simp,by simp[allIn],by simp,by simp⟩
 intro k s ⟨j,hj,hp,hr,hs⟩
 subst hs
 by_cases hjn:j<xs.length
 ·have hw:IntKind.i64.wrap ((j:Int)+1)=(j+1:Nat):=by rw[Ad (by omega) (by omega)];simp
  have hst:=IC (upTo xs) j
  rw[hr,Bool.true_and]at hst
  simp -implicitDefEqProofs [hjn]
  refine Aa (hI _ _ _) ?_
  by_cases h1:Q5 xs[j] 0 255
  rotate_left
  ·simp -implicitDefEqProofs [h1,AfI hjn h1]
  by_cases h0:j=0
  ·subst h0
   simp -implicitDefEqProofs [h1]
   exact⟨k-1,by omega,1,by omega,by rw[Sw hjn,hp];simp[h1],by rw[hst,Ad6],by simpa using hw⟩
  ·have hw2:IntKind.i64.wrap ((j:Int)-1)=((j-1:Nat):Int):=by rw[Ad (by omega) (by omega)];omega
   have h2:(0:Int)<j:=by omega
   have h2':0<j:=by omega
   have h3:j-1<xs.length:=by omega
   rw[YF h0 hjn h3]at hst
   by_cases h4:xs[j-1]<xs[j]
   ·have h4':¬xs[j]≤xs[j-1]:=by omega
    simp -implicitDefEqProofs [h1,h2,h2',hw2,h3,hjn,h4']
    exact⟨k-1,by omega,j+1,by omega,by rw[Sw hjn,hp];simp[h1],by rw[hst];simp[h4],by simp[hw]⟩
   ·have e:=Yi hjn (by rw[YF h0 hjn h3];simp[h4])
    have h4':xs[j]≤xs[j-1]:=by omega
    simp -implicitDefEqProofs [h1,h2,h2',hw2,h3,hjn,h4',e]
 ·obtain rfl:j=xs.length:=by omega
  have e:HZ xs=true:=by unfold HZ;rw[hr,Ae1 (by omega) hp];rfl
  simp -implicitDefEqProofs [e]
theorem AtN (D:Dn) (hN:Jv (D Kb)):MC (Body D Ux):=by
 intro xs hl
 have hl0:=hl
 unfold maxLen at hl
 simp -implicitDefEqProofs
 refine Ae (fun k s=>∃j,j+k=xs.length∧Nl (upTo xs) j=true∧s=⟨[.sl 1 1 xs.length (ints xs),.undef,.undef,.undef,.sl 1 1 xs.length (ints xs),I xs.length,I j,.undef,.undef],[]⟩) ?_ (xs.length) _ ⟨0,by simp,by simp,by simp⟩
 intro k s ⟨j,hj,hr,hs⟩
 subst hs
 by_cases hjn:j<xs.length
 ·have hw:IntKind.i64.wrap ((j:Int)+1)=(j+1:Nat):=by rw[Ad (by omega) (by omega)];simp
  have hst:=IC (upTo xs) j
  rw[hr,Bool.true_and]at hst
  by_cases h0:j=0
  ·subst h0
   simp -implicitDefEqProofs [hjn]
   exact⟨k-1,by omega,1,by omega,by rw[hst,Ad6],by simpa using hw⟩
  ·have hw2:IntKind.i64.wrap ((j:Int)-1)=((j-1:Nat):Int):=by rw[Ad (by omega) (by omega)];omega
   have h2:(0:Int)<j:=by omega
   have h2':0<j:=by omega
   have h3:j-1<xs.length:=by omega
   rw[YF h0 hjn h3]at hst
   by_cases h4:xs[j-1]<xs[j]
   ·have h4':¬xs[j]≤xs[j-1]:=by omega
    simp -implicitDefEqProofs [h2,h2',hw2,h3,hjn,h4']
    exact⟨k-1,by omega,j+1,by omega,by rw[hst];simp[h4],by simp[hw]⟩
   ·have e:=Yi hjn (by rw[YF h0 hjn h3];simp[h4])
    have h4':xs[j]≤xs[j-1]:=by omega
    simp -implicitDefEqProofs [h2,h2',hw2,h3,hjn,h4',e]
 ·obtain rfl:j=xs.length:=by omega
  have e:HZ xs=allIn xs 0 255:=by unfold HZ;rw[hr];rfl
  simp -implicitDefEqProofs
  refine Aa (hN xs _ _ hl0) ?_
  simp -implicitDefEqProofs [e]
def Az (e:AL):Bool:=A9 e.versions&&(decide (e.tags.length≤5)&&(HZ e.tags&&(!e.tags.any Am&&(decide (e.path.length≤4)&&(e.path.all Hz&&decide (Q5 e.cls 0 5))))))
abbrev ET (R:Rel):Prop:=∀e:AL,Ir e→R [arg (Ak e)] [] (B (Az e)) []
theorem Anc (D:Dn) (hI:SG (D CB)) (hR:EW (D J8)) (hX:RQ (D XP)) (hA:BK (D EJ)):ET (Body D OA):=by
 intro e hl
 obtain⟨hl1,hl2,hl3⟩:=hl
 have hl4:=hl3.1
 have hl2':=hl2
 unfold Jr at hl2
 unfold maxLen at hl2 hl4
 simp -implicitDefEqProofs
 refine Ae (fun k s=>∃j,j+k=e.tags.length∧allIn (e.tags.take j) 0 255=true∧Nl (upTo e.tags) j=true∧(e.tags.take j).any Am=false∧s=⟨[.undef,.ptr 0 0,.undef,I j,.undef,.undef,.undef,.undef,.undef],[.var ((Ak e).map (AZ 1))]⟩) ?_ (e.tags.length) _ ⟨0,by simp,by simp[allIn],by simp,by simp,by simp⟩
 intro k s ⟨j,hj,hp,hr,hq,hs⟩
 subst hs
 by_cases hjn:j<e.tags.length
 ·have hw:IntKind.i64.wrap ((j:Int)+1)=(j+1:Nat):=by rw[Ad (by omega) (by omega)];simp
  have hst:=IC (upTo e.tags) j
  rw[hr,Bool.true_and]at hst
  have hsq:=X5 (p:=Am) hjn
  rw[hq,Bool.false_or]at hsq
  simp -implicitDefEqProofs [hjn]
  refine Aa (hI _ _ _) ?_
  by_cases h1:Q5 e.tags[j] 0 255
  rotate_left
  ·have e0:Az e=false:=by unfold Az;rw[AfI hjn h1];simp
   simp -implicitDefEqProofs [h1,e0]
  simp -implicitDefEqProofs [h1,hjn]
  refine Aa (hR _) ?_
  by_cases h5:Am e.tags[j]=true
  ·have e0:Az e=false:=by unfold Az;rw[Ph hjn h5];simp
   simp -implicitDefEqProofs [h5,e0]
  have h5':Am e.tags[j]=false:=by simpa using h5
  by_cases h0:j=0
  ·subst h0
   simp -implicitDefEqProofs [h1,h5']
   exact⟨k-1,by omega,1,by omega,by rw[Sw hjn,hp];simp[h1],by rw[hst,Ad6],by simpa using hsq.trans h5',by simpa using hw⟩
  ·have hw2:IntKind.i64.wrap ((j:Int)-1)=((j-1:Nat):Int):=by rw[Ad (by omega) (by omega)];omega
   have h2:(0:Int)<j:=by omega
   have h2':0<j:=by omega
   have h3:j-1<e.tags.length:=by omega
   rw[YF h0 hjn h3]at hst
   by_cases h4:e.tags[j-1]<e.tags[j]
   ·have h4':¬e.tags[j]≤e.tags[j-1]:=by omega
    simp -implicitDefEqProofs [h1,h5',h2,h2',hw2,h3,hjn,h4']
    exact⟨k-1,by omega,j+1,by omega,by rw[Sw hjn,hp];simp[h1],by rw[hst];simp[h4],by simpa using hsq.trans h5',by simp[hw]⟩
   ·have e0:Az e=false:=by unfold Az;rw[Yi hjn (by rw[YF h0 hjn h3];simp[h4])];simp
    have h4':e.tags[j]≤e.tags[j-1]:=by omega
    simp -implicitDefEqProofs [h1,h5',h2,h2',hw2,h3,hjn,h4',e0]
 obtain rfl:j=e.tags.length:=by omega
 have et:HZ e.tags=true:=by unfold HZ;rw[hr,Ae1 (by omega) hp];rfl
 have er:e.tags.any Am=false:=any_none (by omega) hq
 simp -implicitDefEqProofs
 refine Ae (fun k s=>∃j,j+k=e.path.length∧(e.path.take j).all Hz=true∧s=⟨[.undef,.ptr 0 0,.undef,.undef,I j,.undef,.undef,.undef,.undef],[.var ((Ak e).map (AZ 1))]⟩) ?_ (e.path.length) _ ⟨0,by simp,by simp,by simp⟩
 intro k s ⟨j,hj,hb,hs⟩
 subst hs
 by_cases hjn:j<e.path.length
 ·have hw:IntKind.i64.wrap ((j:Int)+1)=(j+1:Nat):=by rw[Ad (by omega) (by omega)];simp
  have hst:=UI (p:=Hz) hjn
  rw[hb,Bool.true_and]at hst
  simp -implicitDefEqProofs [hjn]
  refine Aa (hX _ (hl3.2 j hjn)) ?_
  by_cases h1:Hz e.path[j]=true
  ·simp -implicitDefEqProofs [h1]
   exact⟨k-1,by omega,j+1,by omega,by simpa using hst.trans h1,by simp[hw]⟩
  ·have e0:Az e=false:=by unfold Az;rw[Sz hjn (by simpa using h1)];simp
   simp -implicitDefEqProofs [h1,e0]
 have eb:e.path.all Hz=true:=by rw[←Yz (j:=j) (by omega),hb]
 simp -implicitDefEqProofs [hjn]
 refine Aa (hA _ hl1) ?_
 by_cases g1:A9 e.versions=true
 rotate_left
 ·simp -implicitDefEqProofs [g1,Az]
 by_cases g2:e.tags.length≤5
 rotate_left
 ·have g2':¬(e.tags.length:Int)≤5:=by omega
  simp -implicitDefEqProofs [g1,g2,g2',Az]
 have g2':(e.tags.length:Int)≤5:=by omega
 by_cases g3:e.path.length≤4
 rotate_left
 ·have g3':¬(e.path.length:Int)≤4:=by omega
  simp -implicitDefEqProofs [g1,g2,g2',g3,g3',Az]
 have g3':(e.path.length:Int)≤4:=by omega
 simp -implicitDefEqProofs [g1,g2',g3']
 refine Aa (hI _ _ _) ?_
 have ee:Az e=decide (Q5 e.cls 0 5):=by unfold Az;rw[et,er,eb];simp[g1,g2,g3]
 simp -implicitDefEqProofs [ee]
abbrev QY (R:Rel):Prop:=∀b:Gu,Hw b→R [arg (CF b)] [] (B (!Hz b)) []
theorem Anj (D:Dn) (hX:RQ (D AfA)):QY (Body D Lj):=by
 intro b hb
 simp -implicitDefEqProofs
 refine Aa (hX b hb) ?_
 simp -implicitDefEqProofs
theorem Ah0 {α:Type} (p:α→Bool) (xs:List α):(xs.any fun x=> !p x)= !xs.all p:=by rw[List.all_eq_not_any_not];simp
theorem AlO (D:Dn) (hA:BK (D FM)) (hT:MC (D ZA)) (hH:F9 (D Oe)) (h1:QY (D Sq)) (hC:H9 D (D EZ)) (hI:SG (D Bz)):ET (Body D Oi):=by
 intro e hl
 obtain⟨hl1,hl2,hl3⟩:=hl
 simp -implicitDefEqProofs
 refine Aa (hA _ hl1) ?_
 by_cases g1:A9 e.versions=true
 rotate_left
 ·simp -implicitDefEqProofs [g1,Az]
 by_cases g2:e.tags.length≤5
 rotate_left
 ·have g2':¬(e.tags.length:Int)≤5:=by omega
  simp -implicitDefEqProofs [g1,g2,g2',Az]
 have g2':(e.tags.length:Int)≤5:=by omega
 simp -implicitDefEqProofs [g1,g2']
 refine Aa (hT _ hl2) ?_
 by_cases g4:HZ e.tags=true
 rotate_left
 ·simp -implicitDefEqProofs [g4,Az]
 simp -implicitDefEqProofs [g4]
 refine Aa (hH _ hl2) ?_
 by_cases g5:e.tags.any Am=true
 ·have e0:Az e=false:=by unfold Az;rw[g5];simp
  generalize e.tags.any Am=q at g5
  subst g5
  simp -implicitDefEqProofs [e0]
 have g5':e.tags.any Am=false:=by simpa using g5
 have ee:Az e=(decide (e.path.length≤4)&&(e.path.all Hz&&decide (Q5 e.cls 0 5))):=by unfold Az;rw[g5',g1,g4];simp[g2]
 rw[ee]
 generalize e.tags.any Am=q at g5'
 subst g5'
 by_cases g3:e.path.length≤4
 rotate_left
 ·have g3':¬(e.path.length:Int)≤4:=by omega
  simp -implicitDefEqProofs [g3,g3']
 have g3':(e.path.length:Int)≤4:=by omega
 simp -implicitDefEqProofs [g3,g3']
 refine Aa (hC e.path Sq [] (fun b=> !Hz b) hl3.1 ER (fun j hj=>h1 e.path[j] (hl3.2 j hj))) ?_
 rw[Ah0]
 generalize e.path.all Hz=q
 by_cases g6:q=true
 rotate_left
 ·simp -implicitDefEqProofs [g6]
 simp -implicitDefEqProofs [g6]
 refine Aa (hI _ _ _) ?_
 simp -implicitDefEqProofs
theorem AFs {b:Gu} (h:Ct b≤4194304):Hw b:=by
 unfold Ct at h
 exact⟨by unfold Jr maxLen;omega,by unfold Jr maxLen;omega⟩
theorem AC8 {p:List Gu} (h:Bw Ct p≤4194304):lnS Hw p:=
 ⟨by have:=IK (f:=Ct) (xs:=p);unfold maxLen;omega,fun j hj=>AFs (by have:=size_at (f:=Ct) hj;omega)⟩
theorem XR {e:AL} (h:Ac e≤4194304):Ir e:=by
 unfold Ac at h
 exact⟨by unfold Jr maxLen;omega,by unfold Jr maxLen;omega,AC8 (by omega)⟩
theorem Q6 {w:World} (h:Ay w≤4194304) {n:Nat} (hn:n<w.ends.length):Ac w.ends[n]≤4194304:=by
 have:=size_at (f:=Ac) hn
 have:=(NZ h).2.2.1
 omega
theorem U1 {e:AL} (h:Ac e≤4194304):e.versions.length≤4194304:=by unfold Ac at h;omega
def Qq (e:AL) (s:List Int):Int:=if Az e=true then BJ s (leftOf e.versions (Bj e.path e.versions))else 0
abbrev Vi (R:Rel):Prop:=∀(e:AL) (s:List Int),Ac e≤4194304→s.length≤4194304→R [arg (Ak e),.sl 1 1 s.length (ints s)] [] (I (Qq e s)) []
theorem Asa (path:List Gu) (vs:List Int):(Bj path vs).length≤vs.length:=by
 unfold Bj
 split
 ·exact List.length_filter_le _ _
 ·simp
theorem Aln (a b:List Int):(leftOf a b).length≤a.length:=List.length_filter_le _ _
theorem Aht (D:Dn) (hE:ET (D Oc)) (hV:Gc (D Aa0)) (hL:WC (D OE)) (hB:EX (D Ou)):Vi (Body D MX):=by
 intro e s hsz hs
 have hl:=XR hsz
 have hv:=U1 hsz
 obtain⟨hl1,hl2,hl3⟩:=hl
 simp -implicitDefEqProofs
 refine Aa (hE e (XR hsz)) ?_
 by_cases h1:Az e=true
 rotate_left
 ·simp -implicitDefEqProofs [h1,Qq]
 have hll:=Asa e.path e.versions
 have hll2:=Aln e.versions (Bj e.path e.versions)
 simp -implicitDefEqProofs [h1]
 refine Aa (hV e.path e.versions hl3 hv) ?_
 simp -implicitDefEqProofs
 refine Aa (hL e.versions (Bj e.path e.versions) hv (by omega)) ?_
 simp -implicitDefEqProofs
 refine Aa (hB s (leftOf e.versions (Bj e.path e.versions)) hs (by omega)) ?_
 simp -implicitDefEqProofs [Qq,h1]
def Dl (w:World) (i:Int):Int:=if SH i 0 ((w.ends.length:Int)-1)then(match w.ends[i.toNat]? with | some e=>Qq e w.server | none=>0)else 0
abbrev TG (R:Rel):Prop:=∀(w:World) (i:Int),Ay w≤4194304→R [arg (EF w),I i] [] (I (Dl w i)) []
theorem Ahn (D:Dn) (hI:Aid (D Aph)) (hB:Vi (D ACt)):TG (Body D MB):=by
 intro w i hsz
 have he:=JQ hsz
 simp -implicitDefEqProofs
 refine Aa (hI w i he) ?_
 by_cases h1:SH i 0 ((w.ends.length:Int)-1)
 rotate_left
 ·simp -implicitDefEqProofs [h1,Dl]
 obtain⟨n,rfl⟩:∃n:Nat,i=n:=⟨i.toNat,by have:=h1.1;omega⟩
 have hn:n<w.ends.length:=by have:=h1.2;omega
 have hb:=NZ hsz
 have hes:=Q6 hsz hn
 have e:Dl w n=Qq w.ends[n] w.server:=by unfold Dl;rw[if_pos h1];simp[hn]
 rw[e]
 simp -implicitDefEqProofs [h1,hn]
 refine Aa (hB w.ends[n] w.server hes hb.1) ?_
 simp -implicitDefEqProofs
end Go.Eng.T
namespace Go.Eng.T
set_option maxRecDepth 20000
set_option maxHeartbeats 2000000
def reach (s l:List Int):Bool:= !decide (BJ s l=0)
def Ii (s:List Int) (ls:List (List Int)):Bool:=A9 s&&ls.all (reach s)
abbrev Ja (R:Rel):Prop:=∀(s:List Int) (ls:List (List Int)),s.length≤4194304→IA ls≤4194304→R [.sl 1 1 s.length (ints s),Kh ls] [] (B (Ii s ls)) []
theorem Ark (D:Dn) (hB:EX (D NC)) (hA:BK (D EJ)):Ja (Body D Rt):=by
 intro sv ls hs hl
 have hll:=Rv (xs:=ls)
 simp -implicitDefEqProofs
 refine Ae (fun k s=>∃j,j+k=ls.length∧(ls.take j).all (reach sv)=true∧s=⟨[.sl 1 1 sv.length (ints sv),Kh ls,.undef,I j,.undef,.undef],[]⟩) ?_ (ls.length) _ ⟨0,by simp,by simp,by simp⟩
 intro k s ⟨j,hj,hp,hs⟩
 subst hs
 by_cases hjn:j<ls.length
 ·have hw:IntKind.i64.wrap ((j:Int)+1)=(j+1:Nat):=by rw[Ad (by omega) (by omega)];simp
  have hst:=UI (p:=reach sv) hjn
  rw[hp,Bool.true_and]at hst
  have hra:=Yu hjn
  simp -implicitDefEqProofs [hjn]
  refine Aa (hB sv _ hs (by omega)) ?_
  by_cases h1:BJ sv ls[j]=0
  ·have e:Ii sv ls=false:=by unfold Ii;rw[Sz hjn (by simp[reach,h1])];simp
   simp -implicitDefEqProofs [h1,e,WT]
  ·simp -implicitDefEqProofs [h1,WT]
   exact⟨k-1,by omega,j+1,by omega,by simpa using hst.trans (show reach sv ls[j]=true by simp[reach,h1]),by simp[hw]⟩
 ·have e:Ii sv ls=A9 sv:=by unfold Ii;rw[←Yz (j:=j) (by omega),hp];simp
  simp -implicitDefEqProofs [hjn]
  refine Aa (hA sv (by unfold maxLen;omega)) ?_
  simp -implicitDefEqProofs [e]
def Mk (k:Int):Bool:=decide (Q5 k 1 2147483646)
abbrev I6 (R:Rel):Prop:=∀k:Int,R [I k] [] (B (Mk k)) []
theorem AqX (D:Dn) (hI:SG (D CB)):I6 (Body D NU):=by
 intro k
 simp -implicitDefEqProofs
 refine Aa (hI _ _ _) ?_
 simp -implicitDefEqProofs [Mk]
def KD (w:World):Bool:=Ii w.server (GY w)&&(HZ w.tags&&Mk w.key)
def JO (w:World):Bool:=Bp w.rollout&&(decide (w.rollout.version∈w.server)&&(decide (Q5 w.least 1 100)&&decide (Q5 w.percent 0 100)))
def GH (w:World):Bool:=decide (w.stage.length≤60)&&(decide (w.log.length≤60)&&(decide (Q5 w.now 0 10000)&&(decide (Q5 w.hurt 0 w.log.length)&&decide (Q5 w.reached 0 w.rollout.stages.length))))
def Ca (w:World):Bool:=KD w&&(decide (w.ends.length≤6)&&(w.ends.all Az&&(JO w&&GH w)))
abbrev Pd (R:Rel):Prop:=∀w:World,Ay w≤4194304→R [arg (EF w)] [] (B (Ca w)) []
theorem AvL (D:Dn) (hE:ET (D N9)) (hV:BK (D EJ)) (hT:MC (D AlP)) (hK:I6 (D UR)) (hR:FR (D Qo)) (hH:R6 (D Jl)) (hL:Kz (D Zu)) (hA:Ja (D XD)) (hI:SG (D CB)):Pd (Body D Tq):=by
 intro w hsz
 have hs:=NZ hsz
 have he:=JQ hsz
 simp -implicitDefEqProofs
 refine Ae (fun k s=>∃j,j+k=w.ends.length∧(w.ends.take j).all Az=true∧s=⟨[.undef,.ptr 0 0,.undef,I j,.undef,.undef,.undef],[.var ((EF w).map (AZ 1)),.free]⟩) ?_ (w.ends.length) _ ⟨0,by simp,by simp,by simp⟩
 intro k s ⟨j,hj,hp,hs⟩
 subst hs
 by_cases hjn:j<w.ends.length
 ·have hw:IntKind.i64.wrap ((j:Int)+1)=(j+1:Nat):=by rw[Ad (by omega) (by omega)];simp
  have hst:=UI (p:=Az) hjn
  rw[hp,Bool.true_and]at hst
  simp -implicitDefEqProofs [hjn]
  refine Aa (hE w.ends[j] (XR (Q6 hsz hjn))) ?_
  by_cases h1:Az w.ends[j]=true
  ·simp -implicitDefEqProofs [h1]
   exact⟨k-1,by omega,j+1,by omega,by simpa using hst.trans h1,by simp[hw]⟩
  ·have e:Ca w=false:=by unfold Ca;rw[Sz hjn (by simpa using h1)];simp
   simp -implicitDefEqProofs [h1,e]
 have hq':w.ends.all Az=true:=by rw[←Yz (j:=j) (by omega),hp]
 simp -implicitDefEqProofs [hjn]
 refine Aa (hV w.server (by unfold maxLen;omega)) ?_
 by_cases v1:A9 w.server=true
 rotate_left
 ·simp -implicitDefEqProofs [v1,Ca,KD,Ii]
 simp -implicitDefEqProofs [v1]
 refine Aa (hT w.tags (by unfold maxLen;omega)) ?_
 by_cases a2:HZ w.tags=true
 rotate_left
 ·simp -implicitDefEqProofs [a2,Ca,KD]
 simp -implicitDefEqProofs [a2]
 refine Aa (hK w.key) ?_
 by_cases a3:Mk w.key=true
 rotate_left
 ·simp -implicitDefEqProofs [a3,Ca,KD]
 by_cases e1:w.ends.length≤6
 rotate_left
 ·have e1':(6:Int)<w.ends.length:=by omega
  simp -implicitDefEqProofs [a3,e1',e1,Ca]
 have e1':¬(6:Int)<w.ends.length:=by omega
 simp -implicitDefEqProofs [a3,e1']
 refine Aa (hR w.rollout (Ro hsz)) ?_
 by_cases b1:Bp w.rollout=true
 rotate_left
 ·simp -implicitDefEqProofs [b1,Ca,JO]
 simp -implicitDefEqProofs [b1]
 refine Aa (hH w.server _ (by unfold maxLen;omega)) ?_
 by_cases b2:w.rollout.version∈w.server
 rotate_left
 ·simp -implicitDefEqProofs [b2,Ca,JO]
 simp -implicitDefEqProofs [b2]
 refine Aa (hL w hsz) ?_
 simp -implicitDefEqProofs [b2]
 refine Aa (hA w.server (GY w) hs.1 (AcH hsz)) ?_
 by_cases a1:Ii w.server (GY w)=true
 rotate_left
 ·simp -implicitDefEqProofs [a1,Ca,KD]
 simp -implicitDefEqProofs [a1]
 refine Aa (hI _ _ _) ?_
 by_cases b3:Q5 w.least 1 100
 rotate_left
 ·simp -implicitDefEqProofs [b3,Ca,JO]
 simp -implicitDefEqProofs [b3]
 refine Aa (hI _ _ _) ?_
 by_cases b4:Q5 w.percent 0 100
 rotate_left
 ·simp -implicitDefEqProofs [b4,Ca,JO]
 by_cases c1:w.stage.length≤60
 rotate_left
 ·have c1':¬(w.stage.length:Int)≤60:=by omega
  simp -implicitDefEqProofs [b4,c1',c1,Ca,GH]
 have c1':(w.stage.length:Int)≤60:=by omega
 by_cases c2:w.log.length≤60
 rotate_left
 ·have c2':¬(w.log.length:Int)≤60:=by omega
  simp -implicitDefEqProofs [b4,c1',c2',c2,Ca,GH]
 have c2':(w.log.length:Int)≤60:=by omega
 simp -implicitDefEqProofs [b4,c1',c2']
 refine Aa (hI _ _ _) ?_
 by_cases c3:Q5 w.now 0 10000
 rotate_left
 ·simp -implicitDefEqProofs [b4,c1',c2',c3,Ca,GH]
 simp -implicitDefEqProofs [b4,c1',c2',c3]
 refine Aa (hI _ _ _) ?_
 by_cases c4:Q5 w.hurt 0 w.log.length
 rotate_left
 ·simp -implicitDefEqProofs [b4,c1',c2',c3,c4,Ca,GH]
 simp -implicitDefEqProofs [b4,c1',c2',c3,c4]
 refine Aa (hI _ _ _) ?_
 have ec:GH w=decide (Q5 w.reached 0 w.rollout.stages.length):=by unfold GH;simp[c1,c2,c3,c4]
 have ee:Ca w=GH w:=by unfold Ca KD JO;rw[hq'];simp[a1,a2,a3,e1,b1,b2,b3,b4]
 simp -implicitDefEqProofs [ee,ec]
def V8:World:=⟨[],[],0,[],⟨0,[],0,false⟩,0,0,[],[],0,0,0⟩
def Cj (s t:List Int) (es:List AL) (r:EH):World:=⟨s,t,77,es,r,4,25,[],[],0,0,0⟩
def Ji (s t:List Int) (es:List AL) (r:EH):World×Bool:=if Ca (Cj s t es r)=true then(Cj s t es r,true)else(V8,false)
abbrev QZ (R:Rel):Prop:=∀(s t:List Int) (es:List AL) (r:EH),Ay (Cj s t es r)≤4194304→R [.sl 1 1 s.length (ints s),.sl 1 1 t.length (ints t),.sl 1 4 es.length (es.flatMap Ak),arg (Gx r)] [] (.tup [.agg (EF (Ji s t es r).1),B (Ji s t es r).2]) []
theorem Ale (s t:List Int) (es:List AL) (r:EH):Ay (Cj s t es r)=s.length+t.length+Bw Ac es+Bg r:=by
 simp[Ay,Cj,Bw]
theorem Agx (D:Dn) (hC:Ef (D ACA)) (hW:Pd (D Am3)):QZ (Body D LK):=by
 intro s t es r hsz
 simp -implicitDefEqProofs
 refine Aa (hC (Cj s t es r) hsz) ?_
 simp -implicitDefEqProofs [Cj]
 refine Aa (hW (Cj s t es r) hsz) ?_
 generalize hq:Ca (Cj s t es r)=q
 by_cases h1:q=true
 ·have e:Ji s t es r=(Cj s t es r,true):=by unfold Ji;rw[if_pos (hq.trans h1)]
  simp -implicitDefEqProofs [h1,e,Cj]
 ·have e:Ji s t es r=(V8,false):=by unfold Ji;rw[if_neg (by rw[hq];exact h1)]
  simp -implicitDefEqProofs [h1,e,V8]
end Go.Eng.T
namespace Go.Eng.T
set_option maxRecDepth 20000
set_option maxHeartbeats 1000000
def UK (p q:Int):Int:=if SH q 1 1000000000000 then(p.tmod q+q).tmod q else 0
abbrev AmP (R:Rel):Prop:=∀p q:Int,R [I p,I q] [] (I (UK p q)) []
theorem Apa (p:Int) {q:Int} (h:1≤q):-q<p.tmod q∧p.tmod q<q:=by
 have h1:=Int.tmod_lt_of_pos p (show 0<q by omega)
 have h2:=Int.lt_tmod_of_pos p (show 0<q by omega)
 omega
theorem AF0 (D:Dn) (hI:SG (D CB)):AmP (Body D Aey):=by
 intro p q
 simp -implicitDefEqProofs
 refine Aa (hI _ _ _) ?_
 by_cases h:SH q 1 1000000000000
 rotate_left
 ·simp -implicitDefEqProofs [h,UK]
 have h0:¬q=0:=by omega
 have hb:=Apa p (q:=q) (by omega)
 have hw:IntKind.i64.wrap (p.tmod q+q)=p.tmod q+q:=Ad (by omega) (by omega)
 have e:UK p q=(p.tmod q+q).tmod q:=by unfold UK;rw[if_pos h]
 simp -implicitDefEqProofs [h,h0,hw,e]
theorem Ah5 (p:Int) {q:Int} (h:SH q 1 1000000000000):0≤UK p q∧UK p q<q:=by
 unfold UK
 rw[if_pos h]
 have hb:=Apa p (q:=q) (by omega)
 have h1:=Int.tmod_nonneg q (show 0≤p.tmod q+q by omega)
 have h2:=Int.tmod_lt_of_pos (p.tmod q+q) (show 0<q by omega)
 exact⟨h1,h2⟩
def P6 (s v:Int):Int:=(s*1000003+UK v 2147483647+13).tmod 2147483647
def hash (xs:List Int):Int:=xs.foldl P6 11
abbrev WE (R:Rel):Prop:=∀xs:List Int,xs.length≤maxLen→R [.sl 1 1 xs.length (ints xs)] [] (I (hash xs)) []
theorem AwY {s v:Int} (h:0≤s):0≤P6 s v∧P6 s v<2147483647:=by
 have hm:=Ah5 v (q:=2147483647) ⟨by omega,by omega⟩
 unfold P6
 exact⟨Int.tmod_nonneg _ (by omega),Int.tmod_lt_of_pos _ (by omega)⟩
theorem Aor {α:Type} {f:α→Int→α} {xs:List Int} {j:Nat} {a:α} (h:j<xs.length):(xs.take (j+1)).foldl f a=f ((xs.take j).foldl f a) xs[j]:=by
 have e:xs.take (j+1)=xs.take j++ [xs[j]]:=by simp
 rw[e,List.foldl_append];rfl
theorem Aoy:∀(xs:List Int) {a:Int},0≤a→a<2147483647→0≤xs.foldl P6 a∧xs.foldl P6 a<2147483647
 | [],a,h1,h2=>⟨h1,h2⟩
 | x::xs,a,h1,h2=>by
  have:=AwY (s:=a) (v:=x) h1
  exact Aoy xs this.1 this.2
theorem AEu (D:Dn) (hM:AmP (D Aop)):WE (Body D AaI):=by
 intro xs hl
 unfold maxLen at hl
 simp -implicitDefEqProofs
 refine Ae (fun k s=>∃j,j+k=xs.length∧s=⟨[.sl 1 1 xs.length (ints xs),.undef,I ((xs.take j).foldl P6 11),I j,.undef],[]⟩) ?_ (xs.length) _ ⟨0,by simp,by simp⟩
 intro k s ⟨j,hj,hs⟩
 subst hs
 by_cases hjn:j<xs.length
 ·have hw:IntKind.i64.wrap ((j:Int)+1)=(j+1:Nat):=by rw[Ad (by omega) (by omega)];simp
  have hst:=Aor (f:=P6) (a:=(11:Int)) hjn
  have hb:=Aoy (xs.take j) (a:=11) (by omega) (by omega)
  generalize(xs.take j).foldl P6 11=s at hst hb
  have hm:=Ah5 xs[j] (q:=2147483647) ⟨by omega,by omega⟩
  have w1:IntKind.i64.wrap (s*1000003)=s*1000003:=Ad (by omega) (by omega)
  have w2:IntKind.i64.wrap (s*1000003+UK xs[j] 2147483647)=s*1000003+UK xs[j] 2147483647:=Ad (by omega) (by omega)
  have w3:IntKind.i64.wrap (s*1000003+UK xs[j] 2147483647+13)=s*1000003+UK xs[j] 2147483647+13:=Ad (by omega) (by omega)
  simp -implicitDefEqProofs [hjn,w1]
  refine Aa (hM _ _) ?_
  simp -implicitDefEqProofs [w1,w2,w3]
  exact⟨k-1,by omega,j+1,by omega,by rw[hst];rfl,by simp[hw]⟩
 ·have e:xs.take j=xs:=List.take_of_length_le (by omega)
  simp -implicitDefEqProofs [hjn,e,hash]
def keyed (k:Int) (xs:List Int):Int:=hash (k::xs++ [k])
abbrev XV (R:Rel):Prop:=∀(k:Int) (xs:List Int),xs.length≤4194304→R [I k,.sl 1 1 xs.length (ints xs)] [] (I (keyed k xs)) []
theorem N8 (a:Int) (xs:List Int):V.sc (.int .i64 a)::ints xs=ints (a::xs):=rfl
theorem ABe (D:Dn) (hH:WE (D ZR)):XV (Body D PX):=by
 intro k xs hl
 have b1:(1+xs.length)*8≤1099511627776:=by omega
 have b2:(1+xs.length+1)*8≤1099511627776:=by omega
 have hlen:(k::xs++ [k]).length=1+xs.length+1:=by simp;omega
 simp -implicitDefEqProofs [b1,b2]
 have hh:=hH (k::xs++ [k]) (by unfold maxLen;omega)
 rw[hlen]at hh
 simp -implicitDefEqProofs [N8]at hh
 simp -implicitDefEqProofs [N8]
 refine Aa (hh) ?_
 simp -implicitDefEqProofs [keyed]
def pick (seed p n:Int):Int:=if n<1 then 0 else UK (hash [seed,p]) n
abbrev ZM (R:Rel):Prop:=∀seed p n:Int,R [I seed,I p,I n] [] (I (pick seed p n)) []
theorem ADd (D:Dn) (hH:WE (D ZR)) (hM:AmP (D Aop)):ZM (Body D Wv):=by
 intro seed p n
 by_cases h:n<1
 ·simp -implicitDefEqProofs [h,pick]
 simp -implicitDefEqProofs [h]
 refine Aa (hH [seed,p] (by unfold maxLen;simp)) ?_
 simp -implicitDefEqProofs
 refine Aa (hM _ _) ?_
 simp -implicitDefEqProofs [pick,h]
theorem SX (seed p:Int) {n:Int} (h:SH n 1 1000000000000):0≤pick seed p n∧pick seed p n<n:=by
 unfold pick
 rw[if_neg (by omega)]
 exact Ah5 _ h
def NM (seed:Int):Int:=16*pick seed 0 16+10
abbrev JS (R:Rel):Prop:=∀seed:Int,R [I seed] [] (I (NM seed)) []
theorem Apl (D:Dn) (hP:ZM (D Acf)):JS (Body D PD):=by
 intro seed
 simp -implicitDefEqProofs
 refine Aa (hP _ _ _) ?_
 have hb:=SX seed 0 (n:=16) ⟨by omega,by omega⟩
 have w1:IntKind.i64.wrap (16*pick seed 0 16)=16*pick seed 0 16:=Ad (by omega) (by omega)
 have w2:IntKind.i64.wrap (16*pick seed 0 16+10)=16*pick seed 0 16+10:=Ad (by omega) (by omega)
 simp -implicitDefEqProofs [w1,w2,NM]
def Ka (ls:List (List Int)):Bool:=decide (ls.length≤12)&&ls.all fun l=>allIn l 0 255
abbrev KE (R:Rel):Prop:=∀ls:List (List Int),IA ls≤4194304→R [Kh ls] [] (B (Ka ls)) []
theorem Avy (D:Dn) (hB:Yr (D Vw)):KE (Body D K5):=by
 intro ls hl
 have hll:=Rv (xs:=ls)
 simp -implicitDefEqProofs
 refine Ae (fun k s=>∃j,j+k=ls.length∧(ls.take j).all (fun l=>allIn l 0 255)=true∧s=⟨[Kh ls,.undef,I j,.undef,.undef],[]⟩) ?_ (ls.length) _ ⟨0,by simp,by simp,by simp⟩
 intro k s ⟨j,hj,hp,hs⟩
 subst hs
 by_cases hjn:j<ls.length
 ·have hw:IntKind.i64.wrap ((j:Int)+1)=(j+1:Nat):=by rw[Ad (by omega) (by omega)];simp
  have hst:=UI (p:=fun l=>allIn l 0 255) hjn
  rw[hp,Bool.true_and]at hst
  have hra:=Yu hjn
  simp -implicitDefEqProofs [hjn]
  refine Aa (hB _ (by unfold maxLen;omega)) ?_
  by_cases h1:allIn ls[j] 0 255=true
  ·simp -implicitDefEqProofs [h1]
   exact⟨k-1,by omega,j+1,by omega,by simpa using hst.trans h1,by simp[hw]⟩
  ·have e:Ka ls=false:=by unfold Ka;rw[Sz hjn (by simpa using h1)];simp
   simp -implicitDefEqProofs [h1,e]
 ·have e:Ka ls=decide (ls.length≤12):=by unfold Ka;rw[←Yz (j:=j) (by omega),hp];simp
  by_cases h5:ls.length≤12
  ·have h5':(ls.length:Int)≤12:=by omega
   simp -implicitDefEqProofs [hjn,e,h5,h5']
  ·have h5':¬(ls.length:Int)≤12:=by omega
   simp -implicitDefEqProofs [hjn,e,h5,h5']
def QW (x:Int) (b:List Int):Int:=hash (x::(b.length:Int)::b)
def I7 (ls:List (List Int)):Int:=if Ka ls=true then ls.foldl QW 1 else 0
abbrev JI (R:Rel):Prop:=∀ls:List (List Int),IA ls≤4194304→R [Kh ls] [] (I (I7 ls)) []
theorem Ajp {α β:Type} {f:α→β→α} {xs:List β} {j:Nat} {a:α} (h:j<xs.length):(xs.take (j+1)).foldl f a=f ((xs.take j).foldl f a) xs[j]:=by
 have e:xs.take (j+1)=xs.take j++ [xs[j]]:=by simp
 rw[e,List.foldl_append];rfl
theorem Aqa (D:Dn) (hT:KE (D R9)) (hH:WE (D ZR)):JI (Body D JU):=by
 intro ls hl
 have hll:=Rv (xs:=ls)
 simp -implicitDefEqProofs
 refine Aa (hT ls hl) ?_
 by_cases h1:Ka ls=true
 rotate_left
 ·simp -implicitDefEqProofs [h1,I7]
 simp -implicitDefEqProofs [h1]
 refine Ae (fun k s=>∃j o0 o1,j+k=ls.length∧s=⟨[Kh ls,.undef,I ((ls.take j).foldl QW 1),I j,.undef,.undef],[o0,o1]⟩) ?_ (ls.length) _ ⟨0,.free,.free,by simp,by simp⟩
 intro k s ⟨j,o0,o1,hj,hs⟩
 subst hs
 by_cases hjn:j<ls.length
 ·have hw:IntKind.i64.wrap ((j:Int)+1)=(j+1:Nat):=by rw[Ad (by omega) (by omega)];simp
  have hst:=Ajp (f:=QW) (a:=(1:Int)) hjn
  have hra:=Yu hjn
  have b1:(2+ls[j].length)*8≤1099511627776:=by omega
  generalize(ls.take j).foldl QW 1=x at hst
  have hh:=hH (x::(ls[j].length:Int)::ls[j]) (by unfold maxLen;simp;omega)
  have hlen:(x::(ls[j].length:Int)::ls[j]).length=2+ls[j].length:=by simp;omega
  rw[hlen]at hh
  simp only[←N8]at hh
  simp -implicitDefEqProofs [hjn,b1]
  refine Aa (hh) ?_
  simp -implicitDefEqProofs
  exact⟨k-1,by omega,j+1,by omega,by rw[hst];rfl,by simp[hw]⟩
 ·have e:ls.take j=ls:=List.take_of_length_le (by omega)
  have e2:I7 ls=ls.foldl QW 1:=by unfold I7;rw[if_pos h1]
  simp -implicitDefEqProofs [hjn,e,e2]
def Dq (k:Int) (ls:List (List Int)) (side:Int):Int:=if Mk k&&(Ka ls&&decide (SH side 0 1))then keyed k [side,I7 ls]else 0
abbrev QS (R:Rel):Prop:=∀(k:Int) (ls:List (List Int)) (side:Int),IA ls≤4194304→R [I k,Kh ls,I side] [] (I (Dq k ls side)) []
theorem Aw2 (D:Dn) (hV:I6 (D UR)) (hT:KE (D R9)) (hI:SG (D CB)) (hH:JI (D Yg)) (hK:XV (D Af8)):QS (Body D Sd):=by
 intro k ls side hl
 simp -implicitDefEqProofs
 refine Aa (hV k) ?_
 by_cases h1:Mk k=true
 rotate_left
 ·simp -implicitDefEqProofs [h1,Dq]
 simp -implicitDefEqProofs [h1]
 refine Aa (hT ls hl) ?_
 by_cases h2:Ka ls=true
 rotate_left
 ·simp -implicitDefEqProofs [h2,Dq]
 simp -implicitDefEqProofs [h2]
 refine Aa (hI _ _ _) ?_
 by_cases h3:SH side 0 1
 rotate_left
 ·simp -implicitDefEqProofs [h3,Dq]
 simp -implicitDefEqProofs [h3]
 refine Aa (hH ls hl) ?_
 simp -implicitDefEqProofs
 refine Aa (hK k [side,I7 ls] (by simp)) ?_
 simp -implicitDefEqProofs [Dq,h1,h2,h3]
end Go.Eng.T
namespace Go.Eng.T
set_option maxRecDepth 20000
set_option maxHeartbeats 1000000
theorem YB {l:List Ext} (h:EC l=true):l.length≤6:=by
 unfold EC at h
 simp only[Bool.and_eq_true,decide_eq_true_eq]at h
 exact h.2
theorem ADQ {l:List Ext} (h:EC l=true) {j:Nat} (hj:j<l.length):VU l j=true:=by
 unfold EC at h
 simp only[Bool.and_eq_true]at h
 exact Ayu.1 h.1 j hj
theorem Abb {l:List Ext} (h:EC l=true) {j:Nat} (hj:j<l.length):l[j].body.length≤4:=by
 have:=ADQ h hj
 rw[Afk hj]at this
 unfold Xd at this
 simp only[Bool.and_eq_true,decide_eq_true_eq]at this
 exact this.1.2.1
def AHa (x:Ext):List Int:=x.tag::(x.body.length:Int)::x.body
def Nk (l:List Ext) (j:Nat):List Int:=(l.length:Int)::(l.take j).flatMap AHa
theorem Aar {l:List Ext} {j:Nat} (h:j<l.length):Nk l (j+1)=Nk l j++([l[j].tag,(l[j].body.length:Int)]++l[j].body):=by
 have e:l.take (j+1)=l.take j++ [l[j]]:=by simp
 unfold Nk
 rw[e,List.flatMap_append]
 simp[AHa]
theorem YM {l:List Ext} (h:EC l=true):∀j,j≤l.length→(Nk l j).length≤1+6*j
 | 0,_=>by simp[Nk]
 | j+1,hj=>by
  have ih:=YM h j (by omega)
  have hb:=Abb h (j:=j) (by omega)
  rw[Aar (by omega)]
  simp only[List.length_append,List.length_cons,List.length_nil]
  omega
def EM (l:List Ext):List Int×Bool:=if EC l=true then(Nk l l.length,true)else([],false)
abbrev Gm (R:Rel):Prop:=∀l:List Ext,Ub l→R [.sl 1 2 l.length (l.flatMap Br)] [] (.tup [.sl 0 1 (EM l).1.length (ints (EM l).1),B (EM l).2]) []
theorem AmO (D:Dn) (hA:FV (D KC)):Gm (Body D Oj):=by
 intro l hl
 have hll:=hl.1
 simp -implicitDefEqProofs
 refine Aa (hA l hl) ?_
 by_cases h1:EC l=true
 rotate_left
 ·have e:EM l=([],false):=by unfold EM;rw[if_neg h1]
  simp -implicitDefEqProofs [h1,e]
 simp -implicitDefEqProofs [h1]
 refine Ae (fun k s=>∃j o2 o3 o4,j+k=l.length∧s=⟨[.sl 1 2 l.length (l.flatMap Br),.undef,.undef,.arr 5,I j,.undef,.undef],[.free,.free,o2,o3,o4,.arr 1 0 (Nk l j).length (ints (Nk l j))]⟩) ?_ (l.length) _ ⟨0,.free,.free,.free,by simp,by simp[Nk,ints]⟩
 intro k s ⟨j,o2,o3,o4,hj,hs⟩
 subst hs
 by_cases hjn:j<l.length
 ·have hw:IntKind.i64.wrap ((j:Int)+1)=(j+1:Nat):=by rw[Ad (by omega) (by omega)];simp
  have hst:=Aar hjn
  have hle:=YM h1 j (by omega)
  have h6:=YB h1
  have hb4:=Abb h1 hjn
  have b1:((Nk l j).length+2)*8≤1099511627776:=by omega
  have b2:((Nk l j).length+2+l[j].body.length)*8≤1099511627776:=by omega
  simp -implicitDefEqProofs [hjn,b1,b2]
  exact⟨k-1,by omega,j+1,by omega,by simp[hw],by rw[hst];simp;omega,by rw[hst];simp[ints]⟩
 ·obtain rfl:j=l.length:=by omega
  have e:EM l=(Nk l l.length,true):=by unfold EM;rw[if_pos h1]
  simp -implicitDefEqProofs [e]
theorem LC (l:List Ext):(EM l).1.length≤37:=by
 unfold EM
 split
 ·rename_i h
  have:=YM h l.length (Nat.le_refl _)
  have:=YB h
  dsimp only;omega
 ·simp
def A8 (h:Hello):List Int:=if CP h=true then((h.versions.length:Int)::h.versions)++(EM h.exts).1 else []
abbrev Iq (R:Rel):Prop:=∀h:Hello,hB h→R [arg (CU h)] [] (.sl 0 1 (A8 h).length (ints (A8 h))) []
theorem AyC {h:Hello} (hh:CP h=true):A9 h.versions=true:=by unfold CP at hh;simp only[Bool.and_eq_true]at hh;exact hh.1
theorem Anp (D:Dn) (hI:Eb (D Gi)) (hE:Gm (D UO)):Iq (Body D Nw):=by
 intro h hh
 have hv:=hh.1
 simp -implicitDefEqProofs
 refine Aa (hI h hh) ?_
 by_cases h1:CP h=true
 rotate_left
 ·simp -implicitDefEqProofs [h1,A8]
 have hl:=LC h.exts
 have e:A8 h=((h.versions.length:Int)::h.versions)++(EM h.exts).1:=by unfold A8;rw[if_pos h1]
 rw[e]
 simp -implicitDefEqProofs [h1]
 refine Aa (hE h.exts hh.2) ?_
 generalize(EM h.exts).1=r at hl
 have b1:(1+h.versions.length)*8≤1099511627776:=by omega
 have b2:(1+h.versions.length+r.length)*8≤1099511627776:=by omega
 have el:h.versions.length+r.length+1=1+h.versions.length+r.length:=by omega
 simp -implicitDefEqProofs [b1,b2,N8,Ake,el]
def Jp (a:RY):Bool:=decide (InV a.version 1 9)&&EC a.exts
def AA (a:RY):List Int:=if Jp a=true then a.version::(EM a.exts).1 else []
abbrev I9 (R:Rel):Prop:=∀a:RY,Ub a.exts→R [arg (Yw a)] [] (B (Jp a)) []
theorem Art (D:Dn) (hI:SG (D CB)) (hE:FV (D KC)):I9 (Body D RA):=by
 intro a ha
 simp -implicitDefEqProofs
 refine Aa (hI _ _ _) ?_
 by_cases h1:InV a.version 1 9
 rotate_left
 ·simp -implicitDefEqProofs [h1,Jp]
 simp -implicitDefEqProofs [h1]
 refine Aa (hE _ ha) ?_
 simp -implicitDefEqProofs [Jp,h1]
abbrev GV (R:Rel):Prop:=∀a:RY,Ub a.exts→R [arg (Yw a)] [] (.sl 0 1 (AA a).length (ints (AA a))) []
theorem Ahv (a:RY):(AA a).length≤38:=by
 unfold AA
 have:=LC a.exts
 split
 ·simp only[List.length_cons];omega
 ·simp
theorem AkJ (D:Dn) (hI:I9 (D XG)) (hE:Gm (D UO)):GV (Body D ML):=by
 intro a ha
 simp -implicitDefEqProofs
 refine Aa (hI a ha) ?_
 by_cases h1:Jp a=true
 rotate_left
 ·have e:AA a=[]:=by unfold AA;rw[if_neg h1]
  simp -implicitDefEqProofs [h1,e]
 have hl:=LC a.exts
 have e:AA a=a.version::(EM a.exts).1:=by unfold AA;rw[if_pos h1]
 rw[e]
 simp -implicitDefEqProofs [h1]
 refine Aa (hE a.exts ha) ?_
 generalize(EM a.exts).1=r at hl
 have b2:(1+r.length)*8≤1099511627776:=by omega
 have el:r.length+1=1+r.length:=by omega
 simp -implicitDefEqProofs [b2,N8,el]
def Ano (h:Hello) (x:Ext):Bool:=decide (x.tag∈Aq h.exts)&& !Am x.tag
def Ez (h:Hello) (a:RY):Bool:=CP h&&(Jp a&&(decide (a.version∈h.versions)&&a.exts.all (Ano h)))
abbrev JV (R:Rel):Prop:=∀(h:Hello) (a:RY),hB h→Ub a.exts→R [arg (CU h),arg (Yw a)] [] (B (Ez h a)) []
theorem AAj {α:Type} {p:α→Bool} {xs:List α} {i:Int} (h:0≤i):(Gs p xs i<0)=¬(xs.any p=true):=by
 have:=QN (p:=p) (xs:=xs) h
 rw[←this]
 exact propext ⟨fun h=>by omega,fun h=>by omega⟩
theorem AC6 (l:List Ext) (t:Int):l.any (GR t)=decide (t∈Aq l):=by
 rw[Bool.eq_iff_iff]
 simp only[List.any_eq_true,decide_eq_true_eq,Aq,List.mem_map,GR]
theorem Le (l:List Ext) (t:Int):(Js l t<0)=¬(t∈Aq l):=by
 unfold Js
 rw[AAj (by omega),AC6]
 simp
theorem Aqr (D:Dn) (hX:Qn (D Tg)) (hR:EW (D J8)) (hI:Eb (D Gi)) (hA:I9 (D XG)) (hH:R6 (D Jl)):JV (Body D Pn):=by
 intro h a hh ha
 have hal:=ha.1
 have hxl:=hh.2.1
 have hvl:=hh.1
 simp -implicitDefEqProofs
 refine Ae (fun k s=>∃j,j+k=a.exts.length∧(a.exts.take j).all (Ano h)=true∧s=⟨[.undef,.undef,.ptr 0 0,.ptr 1 0,.undef,I j,.undef,.undef],[.var ((CU h).map (AZ 1)),.var ((Yw a).map (AZ 1))]⟩) ?_ (a.exts.length) _ ⟨0,by simp,by simp,by simp⟩
 intro k s ⟨j,hj,hp,hs⟩
 subst hs
 by_cases hjn:j<a.exts.length
 ·have hw:IntKind.i64.wrap ((j:Int)+1)=(j+1:Nat):=by rw[Ad (by omega) (by omega)];simp
  have hst:=UI (p:=Ano h) hjn
  rw[hp,Bool.true_and]at hst
  simp -implicitDefEqProofs [hjn]
  refine Aa (hX h.exts _ (by unfold maxLen;omega)) ?_
  by_cases h1:a.exts[j].tag∈Aq h.exts
  rotate_left
  ·have e:Ez h a=false:=by unfold Ez;rw[Sz hjn (by simp[Ano,h1])];simp
   have h1':Js h.exts a.exts[j].tag<0:=by rw[Le];exact h1
   simp -implicitDefEqProofs [h1',e]
  have h1':¬Js h.exts a.exts[j].tag<0:=by rw[Le];simpa using h1
  simp -implicitDefEqProofs [h1',hjn]
  refine Aa (hR _) ?_
  by_cases h2:Am a.exts[j].tag=true
  ·have e:Ez h a=false:=by unfold Ez;rw[Sz hjn (by simp[Ano,h2])];simp
   simp -implicitDefEqProofs [h2,e]
  ·simp -implicitDefEqProofs [h2]
   exact⟨k-1,by omega,j+1,by omega,by simpa using hst.trans (show Ano h a.exts[j]=true by simp[Ano,h1,h2]),by simp[hw]⟩
 ·have e:a.exts.all (Ano h)=true:=by rw[←Yz (j:=j) (by omega),hp]
  simp -implicitDefEqProofs [hjn]
  refine Aa (hI h hh) ?_
  by_cases g1:CP h=true
  rotate_left
  ·simp -implicitDefEqProofs [g1,Ez]
  simp -implicitDefEqProofs [g1]
  refine Aa (hA a ha) ?_
  by_cases g2:Jp a=true
  rotate_left
  ·simp -implicitDefEqProofs [g2,Ez]
  simp -implicitDefEqProofs [g2]
  refine Aa (hH _ _ (by unfold maxLen;omega)) ?_
  have e2:Ez h a=decide (a.version∈h.versions):=by unfold Ez;rw[e,g1,g2];simp
  simp -implicitDefEqProofs [e2]
def Bf (vs tags:List Int) (h:Hello):RY×Bool:=if CP h&& !decide (BJ vs h.versions=0)then(⟨BJ vs h.versions,AaR (KT h.exts tags)⟩,true)else(⟨0,[]⟩,false)
abbrev SY (R:Rel):Prop:=∀(vs tags:List Int) (h:Hello),vs.length≤4194304→tags.length≤4194304→hB h→R [.sl 1 1 vs.length (ints vs),.sl 1 1 tags.length (ints tags),arg (CU h)] [] (.tup [.agg (Yw (Bf vs tags h).1),B (Bf vs tags h).2]) []
theorem AxG (D:Dn) (hB':EX (D NC)) (hI:Eb (D Gi)) (hK:L8 (D ZO)) (hS:GX (D Ac3)):SY (Body D Ls):=by
 intro vs tags h hv ht hh
 simp -implicitDefEqProofs
 refine Aa (hB' vs h.versions hv hh.1) ?_
 simp -implicitDefEqProofs
 refine Aa (hI h hh) ?_
 by_cases h1:CP h=true
 rotate_left
 ·simp -implicitDefEqProofs [h1,Bf]
 by_cases h2:BJ vs h.versions=0
 ·simp -implicitDefEqProofs [h1,h2,Bf]
 have e:Bf vs tags h=(⟨BJ vs h.versions,AaR (KT h.exts tags)⟩,true):=by unfold Bf;rw[if_pos (by simp[h1,h2])]
 simp -implicitDefEqProofs [h1,h2]
 refine Aa (hK h.exts tags hh.2 (by unfold maxLen;omega)) ?_
 simp -implicitDefEqProofs
 refine Aa (hS (KT h.exts tags) (UN hh.2 _)) ?_
 simp -implicitDefEqProofs [e]
end Go.Eng.T
namespace Go.Eng.T
open Go.Eng.X
def Ab:Nat→Bc
 |0=>R 0 [m f] [] [1]
 |1=>R 1 [m (s 0),C 460 [r (l 0)] []] [(12,1)] []
 |2=>R 2 [m t] [(1,0)] [0]
 |3=>R 3 [m (s 0),C 465 [r (l 0)] [0,1,2,3,4,5],a 6 zW,W 15 (l 2) (l 1)] [(2,2)] [0]
 |4=>R 4 [P 15 (s 2),C 428 [r (l 0)] [],m (l 1),X (l 2) 0,X (l 2) 1,m (l 3),m (l 4)] [(3,5),(4,6)] []
 |5=>R 5 [m (i 0)] [(5,0)] []
 |6=>R 6 [m (i 0)] [(6,0)] []
 |7=>R 7 [m (s 6),F (s 2) 3,L (l 1),e (l 2),y .lss (l 0) (l 3)] [(13,4)] []
 |8=>R 9 [m (s 5),P 15 (s 2),m (s 6),C 425 [r (l 1),r (l 2)] [],y .add (l 0) (l 3),m (l 4)] [(5,5)] []
 |9=>R 8 [m (s 6),y .add (l 0) (i 1),m (l 1)] [(6,2)] []
 |10=>R 10 [P 15 (s 2),C 130 [r (l 0)] [7],m (l 1)] [(7,2)] [6]
 |11=>R 11 [P 15 (s 2),C 125 [r (l 0),r (i 2)] [8],m (l 1)] [(8,2)] []
 |12=>R 12 [m (i 0)] [(9,0)] []
 |13=>R 13 [m (s 9),m (s 8),e (l 1),y .lss (l 0) (l 2)] [(14,3)] []
 |14=>T 15 [D (m (s 8)) [] [],D (m (s 9)) [] [],D (A 1 (l 0) (l 1)) [8] [],D (L (l 2)) [8] [],D (y .eql (l 3) (i 1)) [] [],D (m (l 4)) [] [],H 5 (m (s 8)) [] [],H 5 (m (s 9)) [] [],H 5 (A 1 (l 6) (l 7)) [8] [],H 5 (L (l 8)) [8] [],H 5 (m (s 7)) [] [],H 5 (m (s 9)) [] [],H 5 (A 1 (l 10) (l 11)) [7] [],H 5 (L (l 12)) [7] [],H 5 (y .gtr (l 9) (l 13)) [] [],D (k (l 5) t (l 14)) [] []] [(15,15)] []
 |15=>R 16 [m f] [(1,0)] [2,3,4,5,7,8,9]
 |16=>R 14 [m (s 9),y .add (l 0) (i 1),m (l 1)] [(9,2)] []
 |17=>R 17 [P 15 (s 2),C 129 [r (l 0)] [9],m (l 1)] [(10,2)] [8,9]
 |18=>R 18 [m (i 0)] [(11,0)] []
 |19=>R 19 [m (s 11),m (s 10),e (l 1),y .lss (l 0) (l 2)] [(16,3)] []
 |20=>T 21 [D (F (s 2) 3) [] [],D (L (l 0)) [6] [],D (m (s 10)) [] [],D (m (s 11)) [] [],D (A 1 (l 2) (l 3)) [9] [],D (L (l 4)) [9] [],D (A 4 (l 1) (l 5)) [2] [],D (F (l 6) 2) [] [],D (L (l 7)) [2] [],D (C 246 [r (l 8)] []) [] []] [(17,9)] []
 |21=>R 22 [m f] [(1,0)] [2,3,4,5,7,10,11]
 |22=>R 20 [m (s 11),y .add (l 0) (i 1),m (l 1)] [(11,2)] []
 |_=>T 23 (.append [D (m (s 3)) [] [],D (m (s 4)) [] [],D (y .leq (l 0) (l 1)) [] [],D (m (l 2)) [] [],K 3 (m (s 4)) [] [],K 3 (F (s 2) 11) [] [],K 3 (L (l 5)) [6] [],K 3 (e (l 6)) [5] [],K 3 (y .eql (l 4) (l 7)) [] [],D (k (l 3) (l 8) f) [] [],D (m (l 9)) [] [],K 10 (m (s 5)) [] [],K 10 (m (s 4)) [] [],K 10 (y .eql (l 11) (l 12)) [] [],D (k (l 10) (l 13) f) [] [],D (m (l 14)) [] [],K 15 (m (s 7)) [] [],K 15 (C 466 [r (l 16)] []) [7] [],K 15 (F (s 2) 3) [] [],K 15 (L (l 18)) [6] [],K 15 (e (l 19)) [2] [],K 15 (y .eql (l 17) (l 20)) [] [],D (k (l 15) (l 21) f) [] [],D (m (l 22)) [] [],K 23 (P 15 (s 2)) [6] [],K 23 (C 422 [r (l 24)] []) [0,1,2,3,4,5] [],K 23 (m (s 3)) [] [],K 23 (y .geq (l 25) (l 26)) [] [],D (k (l 23) (l 27) f) [] [],D (m (l 28)) [] []] [K 29 (P 15 (s 2)) [6] [],K 29 (C 422 [r (l 30)] []) [0,1,2,3,4,5] [],K 29 (m (s 4)) [] [],K 29 (y .mul (i 2) (l 32)) [] [],K 29 (y .leq (l 31) (l 33)) [] [],D (k (l 29) (l 34) f) [] [],D (m (l 35)) [] []]) [(1,36)] [2,3,4,5,7,10,11]
def Hq:Bh:=⟨18,10,[0],0,true,[],j (d (Ab 0)) (j (j (d (Ab 1)) (h 12 (j (d (Ab 2)) (.ret)) (.skip))) (j (d (Ab 3)) (j (d (Ab 4)) (j (d (Ab 5)) (j (j (d (Ab 6)) (.block 0 (.loop (j (j (d (Ab 7)) (h 13 (.skip) (.exit 0))) (j (.block 1 (d (Ab 8))) (d (Ab 9))))))) (j (d (Ab 10)) (j (d (Ab 11)) (j (j (d (Ab 12)) (.block 2 (.loop (j (j (d (Ab 13)) (h 14 (.skip) (.exit 2))) (j (.block 3 (j (d (Ab 14)) (h 15 (j (d (Ab 15)) (.ret)) (.skip)))) (d (Ab 16))))))) (j (d (Ab 17)) (j (j (d (Ab 18)) (.block 4 (.loop (j (j (d (Ab 19)) (h 16 (.skip) (.exit 4))) (j (.block 5 (j (d (Ab 20)) (h 17 (j (d (Ab 21)) (.ret)) (.skip)))) (d (Ab 22))))))) (j (d (Ab 23)) (.ret)))))))))))),[.slot 1]⟩
def RX:List Tmp:=[0,2,3,4,5,6,7,8,9,10,11,12,14,26,41,59,65,77]
def Qg:Nat→Bc
 |0=>R 0 [m f] [] [1]
 |_=>R 1 [m (s 0),e (l 0),y .gtr (l 1) (i 1048576),m (l 2)] [(1,3)] [0]
def WA:Bh:=⟨2,0,[0],0,false,[],j (d (Qg 0)) (j (d (Qg 1)) (.ret)),[.slot 1]⟩
def Ahb:List Tmp:=[0,2]
def El:Nat→Bc
 |0=>R 0 [m (i 0)] [] [1]
 |1=>R 1 [m (i 0)] [(2,0)] []
 |2=>R 2 [m (i 0)] [(3,0)] []
 |3=>R 3 [m (s 3),m (s 0),e (l 1),y .lss (l 0) (l 2)] [(4,3)] []
 |4=>R 5 [m (s 2),m (s 0),m (s 3),A 1 (l 1) (l 2),L (l 3),y .add (l 0) (l 4),m (l 5)] [(2,6)] []
 |5=>R 4 [m (s 3),y .add (l 0) (i 1),m (l 1)] [(3,2)] []
 |_=>R 6 [m (s 2),m (l 0)] [(1,1)] [0,2,3]
def P7:Bh:=⟨5,0,[0],0,false,[],j (d (El 0)) (j (d (El 1)) (j (j (d (El 2)) (.block 0 (.loop (j (j (d (El 3)) (h 4 (.skip) (.exit 0))) (j (.block 1 (d (El 4))) (d (El 5))))))) (j (d (El 6)) (.ret)))),[.slot 1]⟩
def Adq:List Tmp:=[0,2,3,4,8]
def CJ:Nat→Bc
 |0=>R 0 [x 0 (s 0),a 1 zW] [(2,0),(3,1)] [0]
 |1=>Q 1 [P 15 (s 2),C 22 [r (l 0)] [2,3,4,5,6,7],a 8 zW,W 15 (l 2) (l 1)] [(4,2)] [2] [] [w 2 15,w 3 16,w 6 19,w 7 20,w 4 17,w 5 18]
 |2=>R 2 [m (i 0)] [(5,0)] []
 |3=>R 3 [m (s 5),m (s 1),e (l 1),y .lss (l 0) (l 2)] [(6,3)] []
 |4=>Y 5 [D (P 15 (s 4)) [8] [],D (m (s 1)) [] [],D (m (s 5)) [] [],D (A 6 (l 1) (l 2)) [] [],D (P 6 (l 3)) [] [],D (C 27 [r (l 0),r (l 4)] [9,10,11,12,13,14]) [9,10,11,12,13,14,15,16,17,18,19,20] [9,10,11,12,13,14],D (m (l 5)) [] [],D (X (l 6) 0) [] [],D (X (l 6) 1) [] [],D (W 15 (s 4) (l 7)) [8] [8]] [] [] [9,10,11,12,13,14] [w 9 15,w 10 16,w 13 19,w 14 20,w 11 17,w 12 18]
 |5=>R 4 [m (s 5),y .add (l 0) (i 1),m (l 1)] [(5,2)] []
 |_=>R 6 [P 15 (s 4),W 15 (s 3) (l 0)] [] [1,4,5]
def JX:Bh:=⟨7,21,[0,1],0,false,[],j (d (CJ 0)) (j (d (CJ 1)) (j (j (d (CJ 2)) (.block 0 (.loop (j (j (d (CJ 3)) (h 6 (.skip) (.exit 0))) (j (.block 1 (d (CJ 4))) (d (CJ 5))))))) (j (d (CJ 6)) (.ret)))),[.cell 3 (some 15)]⟩
def TI:List Tmp:=[0,1,2,4,5,6,12]
attribute [simp] Ab Hq Qg WA El P7 CJ JX
end Go.Eng.T
namespace Go.Eng.T
open Go.Eng.X
def Eh:Nat→Bc
 |0=>R 0 [m u] [] [1]
 |1=>R 1 [m (s 0),e (l 0),y .add (i 193017) (l 1),m (l 2)] [(2,3)] []
 |2=>R 2 [m (i 0)] [(3,0)] []
 |3=>R 3 [m (s 3),m (s 0),e (l 1),y .lss (l 0) (l 2),m (l 3),J 4 (m (s 3)),J 4 (y .lss (l 5) (i 4000)),k (l 4) (l 6) f] [(4,7)] []
 |4=>R 5 [m (s 2),y .mul (l 0) (i 137),m (s 0),m (s 3),A 1 (l 2) (l 3),L (l 4),Ki.conv .i64 (l 5),y .add (l 1) (l 6),y .add (l 7) (i 11),y .and (l 8) (i 1073741823),m (l 9)] [(2,10)] []
 |5=>R 4 [m (s 3),y .add (l 0) (i 1),m (l 1)] [(3,2)] []
 |_=>R 6 [m (s 0),m (s 2),b [N 1,o,o] [(0,1,l 0),(2,1,l 1)],x 0 (l 2),m (l 3)] [(1,4)] [0,2,3]
def Jm:Bh:=⟨5,1,[0],0,false,[],j (d (Eh 0)) (j (d (Eh 1)) (j (j (d (Eh 2)) (.block 0 (.loop (j (j (d (Eh 3)) (h 4 (.skip) (.exit 0))) (j (.block 1 (d (Eh 4))) (d (Eh 5))))))) (j (d (Eh 6)) (.ret)))),[.slot 1]⟩
def Ac5:List Tmp:=[0,2,3,4,15]
def Dx:Nat→Bc
 |0=>R 0 [m (z 1)] [] [1]
 |1=>Q 1 [m (s 0),C 478 [v (l 0),r (i 4)] [],y .add (i 1) (l 1),M 1 1 1 [l 2],m (l 3)] [(2,4)] [] [] [w 1 3]
 |2=>R 2 [m (s 0),C 478 [v (l 0),r (i 4)] [],m (l 1)] [(3,2)] []
 |3=>R 3 [m (s 3),y .gtr (l 0) (i 0)] [(4,1)] []
 |4=>Q 5 [m (s 2),m (s 0),C 478 [v (l 1),r (i 6)] [],y .add (i 1) (l 2),C 159 [r (l 0),r (l 3)] [2],m (l 4)] [(2,5)] [] [2] [w 2 3]
 |5=>R 4 [m (s 3),y .sub (l 0) (i 1),m (l 1)] [(3,2)] []
 |_=>R 6 [m (s 2),m (l 0)] [(1,1)] [0,2,3]
def IE:Bh:=⟨5,4,[0],1,false,[],j (d (Dx 0)) (j (d (Dx 1)) (j (j (d (Dx 2)) (.block 0 (.loop (j (j (d (Dx 3)) (h 4 (.skip) (.exit 0))) (j (.block 1 (d (Dx 4))) (d (Dx 5))))))) (j (d (Dx 6)) (.ret)))),[.slot 1]⟩
def Aab:List Tmp:=[0,2,3,4,12]
def Cm:Nat→Bc
 |0=>R 0 [m (i 0)] [] [2]
 |1=>R 1 [m (s 1),y .leq (l 0) (i 0)] [(6,1)] []
 |2=>R 2 [m (i 0)] [(2,0)] [0,1]
 |3=>R 3 [m (s 1),y .leq (l 0) (i 256)] [(7,1)] []
 |4=>R 4 [m (s 0),C 486 [v (l 0)] [],m (s 1),y .rem (l 1) (l 2),m (l 3)] [(2,4)] [0,1]
 |5=>R 5 [m (s 0),C 486 [v (l 0)] [],m (l 1)] [(3,2)] []
 |6=>R 6 [m (s 0),C 486 [v (l 0)] [],m (l 1)] [(4,2)] []
 |7=>R 7 [m (s 0),C 486 [v (l 0)] [],m (l 1)] [(5,2)] [0]
 |_=>R 8 [m (s 3),y .mul (l 0) (i 65536),m (s 4),y .mul (l 2) (i 256),y .add (l 1) (l 3),m (s 5),y .add (l 4) (l 5),m (s 1),y .rem (l 6) (l 7),m (l 8)] [(2,9)] [1,3,4,5]
def IZ:Bh:=⟨8,1,[0,1],1,false,[],j (d (Cm 0)) (j (j (d (Cm 1)) (h 6 (j (d (Cm 2)) (.ret)) (.skip))) (j (j (d (Cm 3)) (h 7 (j (d (Cm 4)) (.ret)) (.skip))) (j (d (Cm 5)) (j (d (Cm 6)) (j (d (Cm 7)) (j (d (Cm 8)) (.ret))))))),[.slot 2]⟩
def Zp:List Tmp:=[0,1,4,5,6,7,9,11]
def Du:Nat→Bc
 |0=>R 0 [a 1 zE] [(1,0)] []
 |1=>Q 1 [m (s 0),C 490 [v (l 0)] [2],m (s 0),C 493 [v (l 2)] [3],m (s 0),C 478 [v (l 4),r (i 6)] [],b zE [(0,1,l 1),(2,1,l 3),(3,1,l 5)],a 4 zE,W 4 (l 7) (l 6)] [(2,7)] [] [] [.ownc 4 1 7]
 |2=>R 2 [m (s 0),C 478 [v (l 0),r (i 4)] [],m (l 1)] [(3,2)] []
 |3=>R 3 [m (s 3),y .gtr (l 0) (i 0)] [(4,1)] []
 |4=>Y 5 [D (F (s 2) 1) [] [],D (L (l 0)) [4] [],D (m (s 0)) [] [],D (M 5 1 5 [i 1,i 2,i 3,i 40,i 200]) [5] [5],D (C 481 [v (l 2),r (l 3)] []) [0,5] [0],D (C 159 [r (l 1),r (l 4)] [6]) [6,7] [6],D (F (s 2) 1) [] [],D (W 1 (l 6) (l 5)) [4] [4]] [] [] [5,6] [w 6 7]
 |5=>R 4 [m (s 3),y .sub (l 0) (i 1),m (l 1)] [(3,2)] []
 |_=>R 6 [P 4 (s 2),W 4 (s 1) (l 0)] [] [0,2,3]
def II:Bh:=⟨5,8,[0],1,false,[],j (d (Du 0)) (j (d (Du 1)) (j (j (d (Du 2)) (.block 0 (.loop (j (j (d (Du 3)) (h 4 (.skip) (.exit 0))) (j (.block 1 (d (Du 4))) (d (Du 5))))))) (j (d (Du 6)) (.ret)))),[.cell 1 (some 4)]⟩
def X3:List Tmp:=[0,2,3,4,15]
def Co:Nat→Bc
 |0=>R 0 [a 1 zR] [(1,0)] []
 |1=>Q 1 [m (s 0),C 478 [v (l 0),r (i 6)] [],y .add (i 1) (l 1),b zR [(0,1,l 2)],a 2 zR,W 4 (l 4) (l 3)] [(2,4)] [] [] [.ownc 2 1 6]
 |2=>R 2 [m (s 0),C 478 [v (l 0),r (i 3)] [],m (l 1)] [(3,2)] []
 |3=>R 3 [m (s 3),y .gtr (l 0) (i 0)] [(4,1)] []
 |4=>Y 5 [D (F (s 2) 1) [] [],D (L (l 0)) [2] [],D (m (s 0)) [] [],D (C 478 [v (l 2),r (i 90)] []) [0] [0],D (y .add (i 1) (l 3)) [] [],D (C 159 [r (l 1),r (l 4)] [3]) [3,6] [3],D (F (s 2) 1) [] [],D (W 1 (l 6) (l 5)) [2] [2]] [] [] [3] [w 3 6]
 |5=>R 4 [m (s 3),y .sub (l 0) (i 1),m (l 1)] [(3,2)] []
 |6=>Q 6 [F (s 2) 1,L (l 0),M 4 1 1 [i 100],q 5 1 8 (l 1) (l 2),F (s 2) 1,W 1 (l 4) (l 3)] [] [3] [] [w 5 6]
 |7=>R 7 [m (s 0),F (s 2) 1,L (l 1),e (l 2),C 478 [v (l 0),r (l 3)] [],F (s 2) 2,W 1 (l 5) (l 4)] [] [0]
 |_=>R 8 [P 4 (s 2),W 4 (s 1) (l 0)] [] [2]
def Ip:Bh:=⟨5,7,[0],1,false,[],j (d (Co 0)) (j (d (Co 1)) (j (j (d (Co 2)) (.block 0 (.loop (j (j (d (Co 3)) (h 4 (.skip) (.exit 0))) (j (.block 1 (d (Co 4))) (d (Co 5))))))) (j (d (Co 6)) (j (d (Co 7)) (j (d (Co 8)) (.ret)))))),[.cell 1 (some 4)]⟩
def ZF:List Tmp:=[0,2,3,4,12]
def DR:Nat→Bc
 |0=>R 0 [m (z 1)] [] [1]
 |1=>Q 1 [M 1 1 0 [],m (l 0)] [(2,1)] [] [] [w 1 4]
 |2=>R 2 [m (s 0),C 478 [v (l 0),r (i 5)] [],m (l 1)] [(3,2)] []
 |3=>R 3 [m (s 3),y .gtr (l 0) (i 0)] [(4,1)] []
 |4=>Q 5 [m (s 2),m (s 0),M 2 1 6 [i 1,i 2,i 3,i 10,i 40,i 200],C 481 [v (l 1),r (l 2)] [],C 159 [r (l 0),r (l 3)] [3],m (l 4)] [(2,5)] [] [2,3] [w 3 4]
 |5=>R 4 [m (s 3),y .sub (l 0) (i 1),m (l 1)] [(3,2)] []
 |_=>R 6 [m (s 2),m (l 0)] [(1,1)] [0,2,3]
def Iw:Bh:=⟨5,5,[0],1,false,[],j (d (DR 0)) (j (d (DR 1)) (j (j (d (DR 2)) (.block 0 (.loop (j (j (d (DR 3)) (h 4 (.skip) (.exit 0))) (j (.block 1 (d (DR 4))) (d (DR 5))))))) (j (d (DR 6)) (.ret)))),[.slot 1]⟩
def Yh:List Tmp:=[0,2,3,4,9]
def D7:Nat→Bc
 |0=>R 0 [m (i 0)] [] [1]
 |1=>R 1 [m (s 0),m (s 0),F (l 1) 0,F (l 2) 2,L (l 3),y .mul (l 4) (i 6364136223846793005),y .add (l 5) (i 1442695040888963407),F (l 0) 0,F (l 7) 2,W 1 (l 8) (l 6)] [] []
 |2=>T 2 [D (m (s 0)) [] [],D (F (l 0) 0) [] [],D (F (l 1) 2) [] [],D (L (l 2)) [0] [],D (y .shr (l 3) (.con (.sc (.int .u64 33)))) [] [],D (m (s 0)) [] [],D (F (l 5) 0) [] [],D (F (l 6) 2) [] [],D (L (l 7)) [0] [],D (y .shr (l 8) (.con (.sc (.int .u64 47)))) [] [],D (y .xor (l 4) (l 9)) [] [],D (y .and (l 10) (i 255)) [] [],D (m (l 11)) [] []] [(2,12)] []
 |3=>T 3 [D (m (s 0)) [] [],D (F (l 0) 0) [] [],D (F (l 1) 1) [] [],D (L (l 2)) [0] [],D (m (s 0)) [] [],D (F (l 4) 0) [] [],D (F (l 5) 0) [] [],D (L (l 6)) [0] [],D (e (l 7)) [] [],D (y .lss (l 3) (l 8)) [] []] [(3,9)] []
 |4=>T 4 [D (m (s 2)) [] [],D (m (s 0)) [] [],D (F (l 1) 0) [] [],D (F (l 2) 0) [] [],D (L (l 3)) [0] [],D (m (s 0)) [] [],D (F (l 5) 0) [] [],D (F (l 6) 1) [] [],D (L (l 7)) [0] [],D (A 1 (l 4) (l 8)) [] [],D (L (l 9)) [] [],D (.conv .i64 (l 10)) [] [],D (y .add (l 0) (l 11)) [] [],D (y .and (l 12) (i 255)) [] [],D (m (l 13)) [] []] [(2,14)] []
 |5=>R 5 [m (s 0),m (s 0),F (l 1) 0,F (l 2) 1,L (l 3),y .add (l 4) (i 1),F (l 0) 0,F (l 6) 1,W 1 (l 7) (l 5)] [] [0]
 |_=>R 6 [m (s 2),m (l 0)] [(1,1)] [2]
def KM:Bh:=⟨4,1,[0],1,false,[],j (d (D7 0)) (j (d (D7 1)) (j (d (D7 2)) (j (j (d (D7 3)) (h 3 (j (d (D7 4)) (d (D7 5))) (.skip))) (j (d (D7 6)) (.ret))))),[.slot 1]⟩
def AbY:List Tmp:=[0,2,3,34]
def DK:Nat→Bc
 |0=>R 0 [m (z 4)] [] [1]
 |1=>Q 1 [M 1 4 0 [],m (l 0)] [(2,1)] [] [] [w 1 6]
 |2=>R 2 [m (s 0),C 478 [v (l 0),r (i 4)] [],m (l 1)] [(3,2)] []
 |3=>R 3 [m (s 3),y .gtr (l 0) (i 0)] [(4,1)] []
 |4=>Q 5 [m (s 2),m (s 0),C 494 [v (l 1)] [2,3],M 4 4 1 [l 2],p 5 4 64 (l 0) (l 3),m (l 4)] [(2,5)] [] [2,3,4,5] [w 5 6]
 |5=>R 4 [m (s 3),y .sub (l 0) (i 1),m (l 1)] [(3,2)] []
 |_=>R 6 [m (s 2),m (l 0)] [(1,1)] [0,2,3]
def Ij:Bh:=⟨5,7,[0],1,false,[],j (d (DK 0)) (j (d (DK 1)) (j (j (d (DK 2)) (.block 0 (.loop (j (j (d (DK 3)) (h 4 (.skip) (.exit 0))) (j (.block 1 (d (DK 4))) (d (DK 5))))))) (j (d (DK 6)) (.ret)))),[.slot 1]⟩
def Y4:List Tmp:=[0,2,3,4,9]
def ME:Nat→Bc
 |0=>R 0 [m (i 0)] [] [2]
 |_=>R 1 [m (s 1),m (s 0),m (s 1),e (l 2),C 478 [v (l 1),r (l 3)] [],A 1 (l 0) (l 4),L (l 5),m (l 6)] [(2,7)] [0,1]
def Mf:Bh:=⟨3,1,[0,1],1,false,[],j (d (ME 0)) (j (d (ME 1)) (.ret)),[.slot 2]⟩
def AdK:List Tmp:=[0,1,4]
def AU:Nat→Bc
 |0=>R 0 [a 1 zW] [(1,0)] []
 |1=>R 1 [M 2 1 1 [i 1],m (s 0),C 478 [v (l 1),r (i 2)] [],y .add (i 2) (l 2),C 159 [r (l 0),r (l 3)] [3],m (s 0),C 478 [v (l 5),r (i 2)] [],y .add (i 4) (l 6),C 159 [r (l 4),r (l 7)] [4],m (l 8)] [(2,9)] []
 |2=>R 2 [m (s 0),C 487 [v (l 0)] [5],a 6 zR,W 4 (l 2) (l 1)] [(3,2)] []
 |3=>R 3 [m (s 2),m (s 2),e (l 1),y .sub (l 2) (i 1),A 1 (l 0) (l 3),L (l 4),F (s 3) 0,W 1 (l 6) (l 5)] [] []
 |4=>R 4 [F (s 3) 2,W 1 (l 0) (i 0)] [] []
 |5=>Q 5 [M 7 4 0 [],m (l 0)] [(4,1)] [] [] [w 7 24]
 |6=>R 6 [m (s 0),C 478 [v (l 0),r (i 4)] [],y .add (i 2) (l 1),m (l 2)] [(5,3)] []
 |7=>R 7 [m (s 5),y .gtr (l 0) (i 0)] [(8,1)] []
 |8=>Q 9 [m (s 0),C 488 [v (l 0)] [8,9,10],a 11 zE,W 4 (l 2) (l 1)] [(6,2)] [] [8,9,10,11] []
 |9=>Q 10 [M 12 1 1 [i 1],m (s 0),C 478 [v (l 1),r (i 2)] [],y .add (i 2) (l 2),C 159 [r (l 0),r (l 3)] [13],F (s 6) 0,W 1 (l 5) (l 4)] [] [] [12,13] []
 |10=>Q 11 [m (s 4),P 4 (s 6),M 14 4 1 [l 1],p 15 4 80 (l 0) (l 2),m (l 3)] [(4,4)] [6] [14,15] [w 15 24]
 |11=>R 8 [m (s 5),y .sub (l 0) (i 1),m (l 1)] [(5,2)] []
 |12=>T 12 [D (m (s 2)) [] [],D (m (s 0)) [] [],D (C 489 [v (l 1)] [16]) [0,16] [0,16],D (m (s 4)) [] [],D (P 4 (s 3)) [6] [],D (C 70 [r (l 0),r (l 2),r (l 3),r (l 4)] [17,18,19,20,21,22]) [4,5,16,17,18,19,20,21,22,24] [17,18,19,20,21,22],D (m (l 5)) [] [],D (X (l 6) 0) [] [],D (X (l 6) 1) [] [],D (a 23 zW) [23] [23],D (W 15 (l 9) (l 7)) [23] [23],D (m (l 8)) [] []] [(7,9)] [0,2,3,4,5]
 |_=>R 13 [P 15 (s 7),W 15 (s 1) (l 0)] [] [7]
def GN:Bh:=⟨9,25,[0],1,false,[],j (d (AU 0)) (j (d (AU 1)) (j (d (AU 2)) (j (d (AU 3)) (j (d (AU 4)) (j (d (AU 5)) (j (j (d (AU 6)) (.block 0 (.loop (j (j (d (AU 7)) (h 8 (.skip) (.exit 0))) (j (.block 1 (j (d (AU 8)) (j (d (AU 9)) (d (AU 10))))) (d (AU 11))))))) (j (d (AU 12)) (j (d (AU 13)) (.ret))))))))),[.cell 1 (some 15)]⟩
def Xg:List Tmp:=[0,2,3,4,5,6,7,8,34]
def BI:Nat→Bc
 |0=>R 0 [a 1 [o,N 1,N 1,c]] [(1,0)] []
 |1=>Q 1 [b [o,N 1,N 1,c] [],a 2 [o,N 1,N 1,c],W 4 (l 1) (l 0)] [(2,1)] [] [] [.ownc 2 1 6,.ownc 2 2 5]
 |2=>R 2 [m (s 0),C 478 [v (l 0),r (i 7)] []] [(3,1)] []
 |3=>R 3 [y .eql (s 3) (i 0),m (l 0)] [(4,1)] []
 |4=>R 4 [m (s 0),C 478 [v (l 0),r (i 6)] [],y .add (i 1) (l 1),F (s 2) 0,W 1 (l 3) (l 2)] [] [0,3]
 |5=>R 5 [y .eql (s 3) (i 1),m (l 0)] [(5,1)] []
 |6=>Q 6 [m (s 0),C 489 [v (l 0)] [3],F (s 2) 1,W 1 (l 2) (l 1)] [] [0,3] [] [w 3 6]
 |7=>R 7 [y .eql (s 3) (i 2),m (l 0)] [(6,1)] []
 |8=>Q 8 [m (s 0),C 489 [v (l 0)] [4],F (s 2) 2,W 1 (l 2) (l 1)] [] [0,3] [] [w 4 5]
 |9=>R 9 [y .eql (s 3) (i 3),m (l 0)] [(7,1)] [0,3]
 |10=>R 10 [F (s 2) 3,W 1 (l 0) t] [] []
 |_=>R 11 [P 4 (s 2),W 4 (s 1) (l 0)] [] [2]
def Ik:Bh:=⟨8,7,[0],1,false,[],j (d (BI 0)) (j (d (BI 1)) (j (j (d (BI 2)) (.block 0 (j (d (BI 3)) (h 4 (d (BI 4)) (j (d (BI 5)) (h 5 (d (BI 6)) (j (d (BI 7)) (h 6 (d (BI 8)) (j (d (BI 9)) (h 7 (d (BI 10)) (.skip))))))))))) (j (d (BI 11)) (.ret)))),[.cell 1 (some 4)]⟩
def ZP:List Tmp:=[0,2,3,6,7,13,18,23]
def EN:Nat→Bc
 |0=>R 0 [a 0 zW] [(1,0)] []
 |1=>R 1 [m (s 0),C 473 [r (l 0)] [1],m (l 1)] [(2,2)] [0]
 |_=>R 2 [m (s 2),C 477 [v (l 0)] [2,3,4,5,6,7],W 15 (s 1) (l 1)] [] [2]
def FI:Bh:=⟨3,8,[0],0,false,[],j (d (EN 0)) (j (d (EN 1)) (j (d (EN 2)) (.ret))),[.cell 1 (some 15)]⟩
def Rk:List Tmp:=[0,2,3]
def FT:Nat→Bc
 |0=>R 0 [a 1 zW] [(1,0)] []
 |1=>R 1 [m (s 0),C 479 [v (l 0)] [2,3,4,5,6,7],a 8 zW,W 15 (l 2) (l 1)] [(2,2)] []
 |_=>T 2 [D (P 15 (s 2)) [8] [],D (m (s 0)) [] [],D (C 484 [v (l 1),r (i 16)] [9]) [0,9] [0,9],D (C 485 [r (l 0),r (l 2)] [10,11,12,13,14,15]) [2,3,4,5,6,7,9,10,11,12,13,14,15] [10,11,12,13,14,15],D (W 15 (s 1) (l 3)) [1] [1]] [] [0,2]
def GZ:Bh:=⟨3,16,[0],1,false,[],j (d (FT 0)) (j (d (FT 1)) (j (d (FT 2)) (.ret))),[.cell 1 (some 15)]⟩
def V5:List Tmp:=[0,2,3]
def CG:Nat→Bc
 |0=>R 0 [m (z 6)] [] [2]
 |1=>Q 1 [b [o,o,o,N 1,N 1,c] [(0,1,i 2)],M 1 6 1 [l 0],m (l 1)] [(3,2)] [] [] [w 1 6]
 |2=>R 2 [m (s 0),m (s 1),C 478 [v (l 0),r (l 1)] [],m (l 2)] [(4,3)] [1]
 |3=>R 3 [m (s 4),y .gtr (l 0) (i 0)] [(5,1)] []
 |4=>Q 5 [m (s 3),m (s 0),C 492 [v (l 1)] [2,3],M 4 6 1 [l 2],p 5 6 80 (l 0) (l 3),m (l 4)] [(3,5)] [] [2,3,4,5] [w 5 6]
 |5=>R 4 [m (s 4),y .sub (l 0) (i 1),m (l 1)] [(4,2)] []
 |_=>R 6 [m (s 3),m (l 0)] [(2,1)] [0,3,4]
def Gw:Bh:=⟨6,7,[0,1],1,false,[],j (d (CG 0)) (j (d (CG 1)) (j (j (d (CG 2)) (.block 0 (.loop (j (j (d (CG 3)) (h 5 (.skip) (.exit 0))) (j (.block 1 (d (CG 4))) (d (CG 5))))))) (j (d (CG 6)) (.ret)))),[.slot 2]⟩
def Vu:List Tmp:=[0,1,4,5,6,13]
def Aw:Nat→Bc
 |0=>R 0 [a 1 [o,o,o,N 1,N 1,c]] [(1,0)] []
 |1=>R 1 [m (s 0),C 478 [v (l 0),r (i 12)] []] [(2,1)] []
 |2=>R 2 [y .eql (s 2) (i 0),m (l 0)] [(3,1)] []
 |3=>R 3 [b [o,o,o,N 1,N 1,c] [(0,1,i 2)],W 6 (s 1) (l 0)] [] [0,2]
 |4=>R 4 [y .eql (s 2) (i 1),m (l 0)] [(4,1),(10,1)] []
 |5=>R 5 [y .eql (s 2) (i 2),m (l 0)] [(4,1),(10,1)] []
 |6=>R 6 [b [o,o,o,N 1,N 1,c] [(0,1,i 3)],W 6 (s 1) (l 0)] [] [0,2]
 |7=>R 7 [y .eql (s 2) (i 3),m (l 0)] [(5,1)] []
 |8=>R 8 [m (s 0),C 478 [v (l 0),r (i 5)] [],y .add (i 1) (l 1),b [o,o,o,N 1,N 1,c] [(0,1,i 4),(1,1,l 2)],W 6 (s 1) (l 3)] [] [0,2]
 |9=>R 9 [y .eql (s 2) (i 4),m (l 0)] [(6,1)] []
 |10=>R 10 [m (s 0),C 478 [v (l 0),r (i 6)] [],y .add (i 1) (l 1),b [o,o,o,N 1,N 1,c] [(0,1,i 5),(1,1,l 2)],W 6 (s 1) (l 3)] [] [0,2]
 |11=>R 11 [y .eql (s 2) (i 5),m (l 0)] [(7,1)] []
 |12=>R 12 [m (s 0),C 478 [v (l 0),r (i 5)] [],m (s 0),C 494 [v (l 2)] [2,3],b [o,o,o,N 1,N 1,c] [(0,1,i 6),(1,1,l 1),(2,4,l 3)],W 6 (s 1) (l 4)] [] [0,2]
 |13=>R 13 [y .eql (s 2) (i 6),m (l 0)] [(8,1)] []
 |14=>R 14 [m (s 0),C 478 [v (l 0),r (i 5)] [],b [o,o,o,N 1,N 1,c] [(0,1,i 7),(1,1,l 1)],W 6 (s 1) (l 2)] [] [0,2]
 |15=>R 15 [y .eql (s 2) (i 7),m (l 0)] [(9,1)] [2]
 |16=>R 16 [m (s 0),C 478 [v (l 0),r (i 3)] [],y .add (i 1) (l 1),b [o,o,o,N 1,N 1,c] [(0,1,i 8),(1,1,l 2)],W 6 (s 1) (l 3)] [] [0]
 |_=>R 17 [m (s 0),C 478 [v (l 0),r (i 5)] [],b [o,o,o,N 1,N 1,c] [(0,1,i 1),(1,1,l 1)],W 6 (s 1) (l 2)] [] [0]
def GQ:Bh:=⟨11,4,[0],1,false,[],j (d (Aw 0)) (j (j (d (Aw 1)) (.block 0 (j (d (Aw 2)) (h 3 (j (d (Aw 3)) (.ret)) (j (j (d (Aw 4)) (h 4 (.skip) (d (Aw 5)))) (h 10 (j (d (Aw 6)) (.ret)) (j (d (Aw 7)) (h 5 (j (d (Aw 8)) (.ret)) (j (d (Aw 9)) (h 6 (j (d (Aw 10)) (.ret)) (j (d (Aw 11)) (h 7 (j (d (Aw 12)) (.ret)) (j (d (Aw 13)) (h 8 (j (d (Aw 14)) (.ret)) (j (d (Aw 15)) (h 9 (j (d (Aw 16)) (.ret)) (.skip))))))))))))))))) (j (d (Aw 17)) (.ret))),[.cell 1 (some 6)]⟩
def WO:List Tmp:=[0,2,4,5,8,12,18,24,31,36,8]
def BB:Nat→Bc
 |0=>R 0 [m (z 2)] [] [2]
 |1=>R 1 [m (s 1),C 310 [r (l 0)] [],m (l 1)] [(3,2)] []
 |2=>R 2 [m (s 0),C 311 [r (l 0)] [0],m (l 1)] [(4,2)] []
 |3=>R 3 [m (s 0),C 312 [r (l 0)] [],n (l 1),m (l 2),G 3 (m (s 0)),G 3 (e (l 4)),G 3 (y .geq (l 5) (i 6)),k (l 3) t (l 6),m (l 7),G 8 (m (s 0)),G 8 (m (s 3)),G 8 (C 309 [r (l 9),r (l 10)] []),G 8 (y .geq (l 11) (i 0)),k (l 8) t (l 12)] [(8,13)] []
 |4=>R 4 [m (s 4),m (l 0)] [(2,1)] [0,1,3,4]
 |5=>Q 5 [m (s 3),b [o,N 1] [(0,1,l 0)],a 1 [o,N 1],W 2 (l 2) (l 1)] [(5,2)] [3] [] [.ownc 1 1 9]
 |6=>R 6 [m (s 1),C 313 [r (l 0),r (i 2),r (i 3)] [],m (l 1)] [(6,2)] []
 |7=>R 7 [m (s 6),y .gtr (l 0) (i 0)] [(9,1)] []
 |8=>Y 9 [D (F (s 5) 1) [] [],D (L (l 0)) [1] [],D (m (s 1)) [] [],D (C 313 [r (l 2),r (i 3),r (i 256)] []) [] [],D (M 2 1 1 [l 3]) [2] [2],D (q 3 1 8 (l 1) (l 4)) [2,3,9] [3,9],D (F (s 5) 1) [] [],D (W 1 (l 6) (l 5)) [1] [1]] [] [] [2,3] [w 3 9]
 |9=>R 8 [m (s 6),y .sub (l 0) (i 1),m (l 1)] [(6,2)] []
 |10=>R 10 [m (s 1),m (s 0),e (l 1),y .add (l 2) (i 1),C 313 [r (l 0),r (i 1),r (l 3)] [],m (l 4)] [(7,5)] [0,1,6]
 |_=>T 11 [D (M 4 2 0 []) [4] [4],D (m (s 4)) [] [],D (m (s 7)) [] [],D (.slice 2 (l 1) none (some (l 2))) [0] [],D (p 5 2 32 (l 0) (l 3)) [0,4,5,100000] [0,4,5,100000],D (P 2 (s 5)) [1] [],D (M 6 2 1 [l 5]) [6,9] [6,9],D (p 7 2 32 (l 4) (l 6)) [5,6,7] [5,6,7],D (m (s 4)) [] [],D (m (s 7)) [] [],D (.slice 2 (l 8) (some (l 9)) none) [0] [],D (p 8 2 32 (l 7) (l 10)) [0,7,8,100000] [0,7,8,100000],D (m (l 11)) [] []] [(2,12)] [4,5,7]
def PW:Bh:=⟨10,10,[0,1],0,false,[],j (d (BB 0)) (j (d (BB 1)) (j (d (BB 2)) (j (j (d (BB 3)) (h 8 (j (d (BB 4)) (.ret)) (.skip))) (j (d (BB 5)) (j (j (d (BB 6)) (.block 0 (.loop (j (j (d (BB 7)) (h 9 (.skip) (.exit 0))) (j (.block 1 (d (BB 8))) (d (BB 9))))))) (j (d (BB 10)) (j (d (BB 11)) (.ret)))))))),[.slot 2]⟩
def Abi:List Tmp:=[0,1,4,5,6,7,8,9,27,34]
attribute [simp] Eh Jm Dx IE Cm IZ Du II Co Ip DR Iw D7 KM DK Ij ME Mf AU GN BI Ik EN FI FT GZ CG Gw Aw GQ BB PW
end Go.Eng.T
namespace Go.Eng.T
set_option maxRecDepth 20000
set_option maxHeartbeats 1000000
theorem Aqn (D:Dn):F4 (Body D PO):=by
 intro xs ys h1 h2
 unfold maxLen at h1 h2
 by_cases hl:xs.length=ys.length
 rotate_left
 ·have hl':¬(xs.length:Int)=ys.length:=by omega
  have:xs≠ys:=fun h=>hl (by rw[h])
  simp -implicitDefEqProofs [hl',this]
 have hl':(xs.length:Int)=ys.length:=by omega
 simp -implicitDefEqProofs [hl']
 refine Ae (fun k s=>∃j,j+k=xs.length∧xs.take j=ys.take j∧s=⟨[.sl 1 1 xs.length (ints xs),.sl 1 1 ys.length (ints ys),.undef,I j,.undef,.undef,.undef],[]⟩) ?_ (xs.length) _ ⟨0,by simp,by simp,by simp⟩
 intro k s ⟨j,hj,hp,hs⟩
 subst hs
 by_cases hjn:j<xs.length
 ·have hw:IntKind.i64.wrap ((j:Int)+1)=(j+1:Nat):=by rw[Ad (by omega) (by omega)];simp
  have hy:j<ys.length:=by omega
  by_cases he:xs[j]=ys[j]
  ·simp -implicitDefEqProofs [hjn,hy,he]
   exact⟨k-1,by omega,j+1,by omega,J5 hjn hy hp he,by simp[hw]⟩
  ·have hne:xs≠ys:=fun h=>he (by simp[h])
   simp -implicitDefEqProofs [hjn,hy,he,hne]
 ·obtain rfl:xs=ys:=Mq (by omega) hl hp
  simp -implicitDefEqProofs [hjn]
abbrev QT (R:Rel):Prop:=∀a b:List Ext,Ub a→Ub b→R [.sl 1 2 a.length (a.flatMap Br),.sl 1 2 b.length (b.flatMap Br)] [] (B (decide (a=b))) []
theorem ext_eq {a b:Ext} (h1:a.tag=b.tag) (h2:a.body=b.body):a=b:=by cases a;cases b;simp_all
theorem Apj (D:Dn) (hE:F4 (D WG)):QT (Body D PY):=by
 intro a b ha hb
 have h1:=ha.1
 have h2:=hb.1
 by_cases hl:a.length=b.length
 rotate_left
 ·have hl':¬(a.length:Int)=b.length:=by omega
  have:a≠b:=fun h=>hl (by rw[h])
  simp -implicitDefEqProofs [hl',this]
 have hl':(a.length:Int)=b.length:=by omega
 simp -implicitDefEqProofs [hl']
 refine Ae (fun k s=>∃j,j+k=a.length∧a.take j=b.take j∧s=⟨[.sl 1 2 a.length (a.flatMap Br),.sl 1 2 b.length (b.flatMap Br),.undef,I j,.undef,.undef,.undef],[]⟩) ?_ (a.length) _ ⟨0,by simp,by simp,by simp⟩
 intro k s ⟨j,hj,hp,hs⟩
 subst hs
 by_cases hjn:j<a.length
 ·have hw:IntKind.i64.wrap ((j:Int)+1)=(j+1:Nat):=by rw[Ad (by omega) (by omega)];simp
  have hy:j<b.length:=by omega
  by_cases g1:a[j].tag=b[j].tag
  rotate_left
  ·have hne:a≠b:=fun h=>g1 (by simp[h])
   simp -implicitDefEqProofs [hjn,hy,g1,hne]
  simp -implicitDefEqProofs [hjn,hy,g1]
  refine Aa (hE a[j].body b[j].body (by have:=Mr ha hjn;unfold maxLen;omega) (by have:=Mr hb hy;unfold maxLen;omega)) ?_
  by_cases g2:a[j].body=b[j].body
  ·simp -implicitDefEqProofs [g2]
   exact⟨k-1,by omega,j+1,by omega,J5 hjn hy hp (ext_eq g1 g2),by simp[hw]⟩
  ·have hne:a≠b:=fun h=>g2 (by simp[h])
   simp -implicitDefEqProofs [g2,hne]
 ·obtain rfl:a=b:=Mq (by omega) hl hp
  simp -implicitDefEqProofs [hjn]
abbrev LX (R:Rel):Prop:=∀a b:Hello,hB a→hB b→R [arg (CU a),arg (CU b)] [] (B (decide (a=b))) []
theorem Ais {a b:Hello} (h1:a.versions=b.versions) (h2:a.exts=b.exts):a=b:=by cases a;cases b;simp_all
theorem Ai0 (D:Dn) (hE:F4 (D WG)) (hX:QT (D WI)):LX (Body D Mc):=by
 intro a b ha hb
 simp -implicitDefEqProofs
 refine Aa (hE a.versions b.versions (by have:=ha.1;unfold maxLen;omega) (by have:=hb.1;unfold maxLen;omega)) ?_
 by_cases g1:a.versions=b.versions
 rotate_left
 ·have hne:a≠b:=fun h=>g1 (by simp[h])
  simp -implicitDefEqProofs [g1,hne]
 simp -implicitDefEqProofs [g1]
 refine Aa (hX a.exts b.exts ha.2 hb.2) ?_
 by_cases g2:a.exts=b.exts
 ·have e:=Ais g1 g2
  simp -implicitDefEqProofs [g2,e]
 ·have hne:a≠b:=fun h=>g2 (by simp[h])
  simp -implicitDefEqProofs [g2,hne]
theorem AnI:∀ {path:List Gu} {h:Hello},hB h→hB (Iu path h).1
 | [],h,hh=>hh
 | b::r,h,hh=>by
  unfold Iu
  split
  ·exact AnI (Apm hh)
  ·exact AiP
theorem O7 {path:List Gu} {h:Hello} (hh:hB h):hB (A7 path h).1:=by
 unfold A7
 split
 ·exact AnI hh
 ·exact AiP
theorem AfQ:∀ {path:List Gu} {h:Hello},(Iu path h).2=true→(Iu path h).1.versions=h.versions
 | [],h,_=>rfl
 | b::r,h,hk=>by
  unfold Iu at hk⊢
  split at hk
  ·rename_i hb
   rw[if_pos hb,AfQ hk]
   unfold BS at hb⊢
   split at hb
   ·rename_i hc;rw[if_pos hc]
   ·cases hb
  ·cases hk
theorem Ank {path:List Gu} {h:Hello} (hk:(A7 path h).2=true):(A7 path h).1.versions=h.versions:=by
 unfold A7 at hk⊢
 split at hk
 ·rename_i hc;rw[if_pos hc];exact AfQ hk
 ·cases hk
def Dw (h:Hello) (path:List Gu):Bool:=(A7 path h).2&&decide ((A7 path h).1=h)
abbrev FX (R:Rel):Prop:=∀(h:Hello) (path:List Gu),hB h→lnS Hw path→R [arg (CU h),.sl 1 4 path.length (path.flatMap CF)] [] (B (Dw h path)) []
theorem AkE (D:Dn) (hP:FN (D Mj)) (hQ:LX (D AcO)):FX (Body D MN):=by
 intro h path hh hb
 simp -implicitDefEqProofs
 refine Aa (hP path h hb hh) ?_
 have hr:=O7 (path:=path) hh
 have e:Dw h path=((A7 path h).2&&decide ((A7 path h).1=h)):=rfl
 generalize A7 path h=r at hr e
 by_cases g1:r.2=true
 rotate_left
 ·simp -implicitDefEqProofs [g1,e]
 simp -implicitDefEqProofs [g1]
 refine Aa (hQ r.1 h hr hh) ?_
 simp -implicitDefEqProofs [e,g1]
end Go.Eng.T
namespace Go.Eng.T
set_option maxRecDepth 20000
set_option maxHeartbeats 1000000
def IY (path:List Gu) (vs:List Int) (x:Ext):Bool:= !Dw ⟨vs.take 1,[x]⟩ path
def Ff (path:List Gu) (vs:List Int) (l:List Ext):List Int:=if EC l&&isOpen path vs then Aq (l.filter (IY path vs))else []
abbrev LA (R:Rel):Prop:=∀(path:List Gu) (vs:List Int) (l:List Ext),lnS Hw path→vs.length≤4194304→Ub l→R [.sl 1 4 path.length (path.flatMap CF),.sl 1 1 vs.length (ints vs),.sl 1 2 l.length (l.flatMap Br)] [] (.sl 0 1 (Ff path vs l).length (ints (Ff path vs l))) []
theorem AqW {path:List Gu} {vs:List Int} (h:isOpen path vs=true):0<vs.length:=by
 unfold isOpen at h
 simp only[Bool.and_eq_true]at h
 exact XJ h.1
theorem AjO {p:Ext→Bool} {l:List Ext} {j:Nat} (h:j<l.length):Aq ((l.take (j+1)).filter p)=Aq ((l.take j).filter p)++(if p l[j]then [l[j].tag]else []):=by
 rw[Aaf h]
 unfold Aq
 rw[List.map_append]
 split<;>simp
theorem An4 {p:Ext→Bool} {l:List Ext} {j:Nat}:(Aq ((l.take j).filter p)).length≤j:=by
 unfold Aq
 rw[List.length_map]
 exact AdH
theorem AtL {path:List Gu} {vs:List Int} {x:Ext}:IY path vs x= !((A7 path ⟨vs.take 1,[x]⟩).2&&decide ((A7 path ⟨vs.take 1,[x]⟩).1.exts=[x])):=by
 unfold IY Dw
 by_cases h:(A7 path ⟨vs.take 1,[x]⟩).2=true
 ·have hv:=Ank h
  have e:decide ((A7 path ⟨vs.take 1,[x]⟩).1=⟨vs.take 1,[x]⟩)=decide ((A7 path ⟨vs.take 1,[x]⟩).1.exts=[x]):=by
   rw[decide_eq_decide]
   constructor
   ·intro h1;rw[h1]
   ·intro h1;exact Ais hv h1
  rw[e]
 ·simp[h]
theorem AsJ (D:Dn) (hA:FV (D KC)) (hO:G9 (D Vd)) (hH:Gb (D UY)) (hP:FN (D Mj)) (hX:QT (D WI)):LA (Body D Sl):=by
 intro path vs l hb hv hl
 have hll:=hl.1
 simp -implicitDefEqProofs
 refine Aa (hA l hl) ?_
 by_cases h1:EC l=true
 rotate_left
 ·simp -implicitDefEqProofs [h1,Ff]
 simp -implicitDefEqProofs [h1]
 refine Aa (hO path vs hb hv) ?_
 by_cases h2:isOpen path vs=true
 rotate_left
 ·simp -implicitDefEqProofs [h2,h1,Ff]
 have e:Ff path vs l=Aq (l.filter (IY path vs)):=by unfold Ff;rw[h1,h2];rfl
 have hpos:=AqW h2
 have h1l:(1:Int)≤vs.length:=by omega
 have h1n:1≤vs.length:=by omega
 have hlen:(vs.take 1).length=1:=by simp;omega
 have hmin:min 1 vs.length=1:=by omega
 rw[e]
 simp -implicitDefEqProofs [h2]
 refine Ae (fun k s=>∃j o1 o2 o3 o4 o5 o6 o7 o8,j+k=l.length∧s=⟨[.sl 1 4 path.length (path.flatMap CF),.sl 1 1 vs.length (ints vs),.sl 1 2 l.length (l.flatMap Br),.undef,.arr 9,I j,.undef,.undef,.undef,.undef,.undef,.undef],[.free,o1,o2,o3,o4,o5,o6,o7,o8,.arr 1 0 (Aq ((l.take j).filter (IY path vs))).length (ints (Aq ((l.take j).filter (IY path vs))))]⟩) ?_ (l.length) _ ⟨0,.free,.free,.free,.free,.free,.free,.free,.free,by simp,by simp[Aq,ints]⟩
 intro k s ⟨j,o1,o2,o3,o4,o5,o6,o7,o8,hj,hs⟩
 subst hs
 by_cases hjn:j<l.length
 ·have hw:IntKind.i64.wrap ((j:Int)+1)=(j+1:Nat):=by rw[Ad (by omega) (by omega)];simp
  have hst:=AjO (p:=IY path vs) hjn
  have hfl:=An4 (p:=IY path vs) (l:=l) (j:=j)
  have hb1:((Aq ((l.take j).filter (IY path vs))).length+1)*8≤1099511627776:=by omega
  have hw1:IntKind.i64.wrap ((j:Int)+1)=(j:Int)+1:=Ad (by omega) (by omega)
  have hj1:j+1≤l.length:=by omega
  have hj2:(j:Int)+1≤l.length:=by omega
  have hjj:(j:Int)≤(j:Int)+1:=by omega
  have h11:j+1-j=1:=by omega
  simp -implicitDefEqProofs [hjn,h1l,h1n]
  have hh:=hH (vs.take 1) (by omega)
  rw[hlen]at hh
  refine Aa (hh) ?_
  have hdt:(l.drop j).take 1=[l[j]]:=by rw[List.drop_eq_getElem_cons hjn];rfl
  simp -implicitDefEqProofs [hmin,hw1,hj1,hj2,hjj,h11,hdt]
  have hhB:hB ⟨vs.take 1,[l[j]]⟩:=⟨by simp;omega,by simp,by intro x hx;simp at hx;subst hx;exact Mr hl hjn⟩
  have hp:=hP path ⟨vs.take 1,[l[j]]⟩ hb hhB
  have hr:=O7 (path:=path) hhB
  have hq:=AtL (path:=path) (vs:=vs) (x:=l[j])
  simp -implicitDefEqProofs [hmin,arg]at hp
  refine Aa (hp) ?_
  generalize A7 path ⟨vs.take 1,[l[j]]⟩=r at hr hq
  by_cases g1:r.2=true
  rotate_left
  ·have h3:IY path vs l[j]=true:=by rw[hq];simp[g1]
   rw[if_pos h3]at hst
   simp -implicitDefEqProofs [g1,hjn,hb1]
   exact⟨k-1,by omega,j+1,by omega,by simp[hw],by rw[hst];simp,by rw[hst]⟩
  simp -implicitDefEqProofs [g1]
  have hx:=hX r.1.exts [l[j]] hr.2 hhB.2
  simp -implicitDefEqProofs [arg]at hx
  refine Aa (hx) ?_
  by_cases g2:r.1.exts=[l[j]]
  ·have h3:¬IY path vs l[j]=true:=by rw[hq];simp[g1,g2]
   rw[if_neg h3,List.append_nil]at hst
   simp -implicitDefEqProofs [g2]
   exact⟨k-1,by omega,j+1,by omega,by simp[hw],by rw[hst],by rw[hst]⟩
  ·have h3:IY path vs l[j]=true:=by rw[hq];simp[g2]
   rw[if_pos h3]at hst
   simp -implicitDefEqProofs [g2,hjn,hb1]
   exact⟨k-1,by omega,j+1,by omega,by simp[hw],by rw[hst];simp,by rw[hst]⟩
 ·have e2:(l.take j).filter (IY path vs)=l.filter (IY path vs):=AdG (by omega)
  simp -implicitDefEqProofs [hjn,e2]
end Go.Eng.T
namespace Go.Eng.T
set_option maxRecDepth 20000
set_option maxHeartbeats 1000000
theorem K3 (a b:List Int):(leftOf a b).length≤a.length:=List.length_filter_le _ _
def Fh (h:Hello) (lv lt:List Int):Hello×Bool:=if CP h&& !decide (leftOf h.versions lv=[])then(⟨leftOf h.versions lv,kept (fun t=> !decide (t∈lt)) h.exts⟩,true)else(AQ,false)
abbrev JJ (R:Rel):Prop:=∀(h:Hello) (lv lt:List Int),hB h→lv.length≤4194304→lt.length≤4194304→R [arg (CU h),.sl 1 1 lv.length (ints lv),.sl 1 1 lt.length (ints lt)] [] (.tup [.agg (CU (Fh h lv lt).1),B (Fh h lv lt).2]) []
theorem Ap7 (D:Dn) (hI:Eb (D Gi)) (hH:R6 (D Jl)):JJ (Body D Qd):=by
 intro h lv lt hh hv ht
 have hvl:=hh.1
 have hxl:=hh.2.1
 simp -implicitDefEqProofs
 refine Aa (hI h hh) ?_
 by_cases h1:CP h=true
 rotate_left
 ·simp -implicitDefEqProofs [h1,Fh,AQ]
 have e1:leftOf h.versions lv=h.versions.filter (fun v=> !decide (v∈lv)):=rfl
 unfold Fh
 rw[h1,e1]
 generalize hp:(fun v=> !decide (v∈lv))=p
 generalize hq:(fun t=> !decide (t∈lt))=q
 obtain⟨vs,hvs⟩:∃vs,vs=h.versions.filter p:=⟨_,rfl⟩
 rw[←hvs]
 simp -implicitDefEqProofs [h1]
 refine Ae (fun k s=>∃j o3 o4,j+k=h.versions.length∧s=⟨[.undef,.sl 1 1 lv.length (ints lv),.sl 1 1 lt.length (ints lt),.ptr 0 0,.ptr 1 0,.undef,.ptr 2 0,I j,.undef,.undef,.undef,.undef,.undef,.undef,.undef],[.var ((CU h).map (AZ 1)),.var [.nil 1,.nil 2],.var [.arr 9,.arr 10],o3,o4,.free,.free,.free,.free,.arr 1 0 ((h.versions.take j).filter p).length (ints ((h.versions.take j).filter p)),.arr 2 0 0 []]⟩) ?_ (h.versions.length) _ ⟨0,.free,.free,by simp,by simp⟩
 intro k s ⟨j,o3,o4,hj,hs⟩
 subst hs
 by_cases hjn:j<h.versions.length
 ·have hw:IntKind.i64.wrap ((j:Int)+1)=(j+1:Nat):=by rw[Ad (by omega) (by omega)];simp
  have hst:=LH (p:=p) hjn
  have hfl:=OM (p:=p) (xs:=h.versions) (j:=j)
  have hb1:(((h.versions.take j).filter p).length+1)*8≤1099511627776:=by omega
  have hpv:p h.versions[j]= !decide (h.versions[j]∈lv):=by rw[←hp]
  simp -implicitDefEqProofs [hjn]
  refine Aa (hH lv h.versions[j] (by unfold maxLen;omega)) ?_
  by_cases h2:h.versions[j]∈lv
  ·have h3:¬p h.versions[j]=true:=by rw[hpv];simpa using h2
   rw[if_neg h3,List.append_nil]at hst
   simp -implicitDefEqProofs [h2]
   exact⟨k-1,by omega,j+1,by omega,by simp[hw],by rw[hst],by rw[hst]⟩
  ·have h3:p h.versions[j]=true:=by rw[hpv];simpa using h2
   rw[if_pos h3]at hst
   simp -implicitDefEqProofs [h2,hjn,hb1]
   exact⟨k-1,by omega,j+1,by omega,by simp[hw],by rw[hst];simp,by rw[hst]⟩
 have e2:=Nh (p:=p) (xs:=h.versions) (j:=j) (by omega)
 rw[←hvs]at e2
 simp -implicitDefEqProofs [hjn,e2]
 refine Ae (fun k s=>∃j o3 o4 o5 o6 o7 o8,j+k=h.exts.length∧s=⟨[.undef,.undef,.sl 1 1 lt.length (ints lt),.ptr 0 0,.ptr 1 0,.undef,.ptr 2 0,.undef,I j,.undef,.undef,.undef,.undef,.undef,.undef],[.var ((CU h).map (AZ 1)),.var [.nil 1,.nil 2],.var [.arr 9,.arr 10],o3,o4,o5,o6,o7,o8,.arr 1 0 vs.length (ints vs),.arr 2 0 (kept q (h.exts.take j)).length ((kept q (h.exts.take j)).flatMap Br)]⟩) ?_ (h.exts.length) _ ⟨0,o3,o4,.free,.free,.free,.free,by simp,by simp[kept]⟩
 intro k s ⟨j,o3,o4,o5,o6,o7,o8,hj,hs⟩
 subst hs
 by_cases hjn:j<h.exts.length
 ·have hw:IntKind.i64.wrap ((j:Int)+1)=(j+1:Nat):=by rw[Ad (by omega) (by omega)];simp
  have hb:=Mr hh.2 hjn
  have hb1:h.exts[j].body.length*8≤1099511627776:=by omega
  have hkl:=Vb (p:=q) (l:=h.exts) (j:=j)
  have hb2:((kept q (h.exts.take j)).length+1)*32≤1099511627776:=by omega
  have hpv:q h.exts[j].tag= !decide (h.exts[j].tag∈lt):=by rw[←hq]
  simp -implicitDefEqProofs [hjn]
  refine Aa (hH lt h.exts[j].tag (by unfold maxLen;omega)) ?_
  by_cases h2:h.exts[j].tag∈lt
  ·have h3:¬q h.exts[j].tag=true:=by rw[hpv];simpa using h2
   have hst:=YK (p:=q) hjn
   rw[if_neg h3,List.append_nil]at hst
   simp -implicitDefEqProofs [h2]
   exact⟨k-1,by omega,j+1,by omega,by simp[hw],by rw[hst],by rw[hst]⟩
  ·have h3:q h.exts[j].tag=true:=by rw[hpv];simpa using h2
   have hst:=Q7 hjn h3
   have hsl:=I8 hjn h3
   simp -implicitDefEqProofs [h2,hjn,hb1,hb2]
   exact⟨k-1,by omega,j+1,by omega,by simp[hw],by rw[←hsl],by rw[←hst]⟩
 have e3:=UL (p:=q) (l:=h.exts) (j:=j) (by omega)
 by_cases g:vs=[]
 ·simp -implicitDefEqProofs [hjn,e3,g,AQ]
 ·have g':¬(vs.length:Int)=0:=by
   intro h0
   exact g (List.eq_nil_of_length_eq_zero (by omega))
  simp -implicitDefEqProofs [hjn,e3,g',g]
def fallback (h:Hello) (path:List Gu):Hello×Bool:=Fh h (Bj path h.versions) (Ff path (leftOf h.versions (Bj path h.versions)) h.exts)
abbrev LD (R:Rel):Prop:=∀(h:Hello) (path:List Gu),hB h→lnS Hw path→R [arg (CU h),.sl 1 4 path.length (path.flatMap CF)] [] (.tup [.agg (CU (fallback h path).1),B (fallback h path).2]) []
theorem AcI (path:List Gu) (vs:List Int) (l:List Ext):(Ff path vs l).length≤l.length:=by
 unfold Ff Aq
 split
 ·rw[List.length_map];exact List.length_filter_le _ _
 ·simp
theorem AqY (D:Dn) (hI:Eb (D Gi)) (hLV:Gc (D Aae)) (hL:WC (D ZN)) (hT:LA (D AjX)) (hP:JJ (D AhG)):LD (Body D Kk):=by
 intro h path hh hb
 simp -implicitDefEqProofs
 refine Aa (hI h hh) ?_
 by_cases g1:CP h=true
 rotate_left
 ·have e:fallback h path=(AQ,false):=by unfold fallback Fh;simp[g1]
  simp -implicitDefEqProofs [g1,e,AQ]
 have hvl:=hh.1
 have hxl:=hh.2.1
 simp -implicitDefEqProofs [g1]
 refine Aa (hLV path h.versions hb hh.1) ?_
 have hll:=Asa path h.versions
 have e:fallback h path=Fh h (Bj path h.versions) (Ff path (leftOf h.versions (Bj path h.versions)) h.exts):=rfl
 rw[e]
 generalize Bj path h.versions=lv at hll
 simp -implicitDefEqProofs
 refine Aa (hL h.versions lv hh.1 (by omega)) ?_
 have hl2:=K3 h.versions lv
 generalize leftOf h.versions lv=vs at hl2
 simp -implicitDefEqProofs
 refine Aa (hT path vs h.exts hb (by omega) hh.2) ?_
 have hl3:=AcI path vs h.exts
 generalize Ff path vs h.exts=lt at hl3
 simp -implicitDefEqProofs
 refine Aa (hP h lv lt hh (by omega) (by omega)) ?_
 generalize Fh h lv lt=r
 simp -implicitDefEqProofs
theorem ADE {h:Hello} {lv lt:List Int} (hh:hB h):hB (Fh h lv lt).1:=by
 unfold Fh
 split
 ·exact⟨Nat.le_trans (K3 _ _) hh.1,UN hh.2 (fun t=> !decide (t∈lt))⟩
 ·exact AiP
theorem Ap0 {h:Hello} {path:List Gu} (hh:hB h):hB (fallback h path).1:=ADE hh
def Cr (h:Hello) (path:List Gu):Hello×Int×Bool:=
 if CP h=true then(if Dw h path=true then(h,1,true)else if(fallback h path).2&&Dw (fallback h path).1 path then((fallback h path).1,2,true)else(AQ,2,false))else(AQ,0,false)
abbrev LM (R:Rel):Prop:=∀(h:Hello) (path:List Gu),hB h→lnS Hw path→R [arg (CU h),.sl 1 4 path.length (path.flatMap CF)] [] (.tup [.agg (CU (Cr h path).1),I (Cr h path).2.1,B (Cr h path).2.2]) []
theorem Asf (D:Dn) (hI:Eb (D Gi)) (hW:FX (D Adu)) (hC:KI (D X6)) (hF:LD (D Zc)):LM (Body D Rl):=by
 intro h path hh hb
 simp -implicitDefEqProofs
 refine Aa (hI h hh) ?_
 by_cases g1:CP h=true
 rotate_left
 ·simp -implicitDefEqProofs [g1,Cr,AQ]
 simp -implicitDefEqProofs [g1]
 refine Aa (hW h path hh hb) ?_
 by_cases g2:Dw h path=true
 ·simp -implicitDefEqProofs [g2]
  refine Aa (hC h hh) ?_
  simp -implicitDefEqProofs [Cr,g1,g2]
 simp -implicitDefEqProofs [g2]
 refine Aa (hF h path hh hb) ?_
 have hr:=Ap0 (path:=path) hh
 have e:Cr h path=(if(fallback h path).2&&Dw (fallback h path).1 path then((fallback h path).1,2,true)else(AQ,2,false)):=by unfold Cr;rw[if_pos g1,if_neg g2]
 rw[e]
 generalize fallback h path=r at hr
 by_cases g3:r.2=true
 rotate_left
 ·simp -implicitDefEqProofs [g3,AQ]
 simp -implicitDefEqProofs [g3]
 refine Aa (hW r.1 path hr hb) ?_
 by_cases g4:Dw r.1 path=true
 ·simp -implicitDefEqProofs [g3,g4]
 ·simp -implicitDefEqProofs [g3,g4,AQ]
theorem Av6 {h:Hello} {path:List Gu} (hh:hB h):hB (Cr h path).1:=by
 unfold Cr
 split
 ·split
  ·exact hh
  ·split
   ·exact Ap0 hh
   ·exact AiP
 ·exact AiP
end Go.Eng.T
